/- Chapter 11: contracts of functions of the program and of the reference, and plain laws (out of RZl2). No condition of its own. -/
import Derived.Test.YtbfbepnkofampaaGreatDoorYWBCDFX01
import Derived.Test.YtbfbepnkofampaaGreatDoorYWBCFX01
import Derived.Test.YtbfbepnkofampaaGreatDoorYWF01
set_option maxRecDepth 100000
set_option linter.all false
section
namespace Go.Walk
open Go Go.Bp Go.RowKit
section
variable{P:Program}{W:World}{A:Act}{d:Option Tmp}{t e ty:TypeId}{pos:String}{after:Array Edge}{x y:Operand}{z:List Value}{v:Value}{A0:Option Addr}{n c k sz:Nat}
theorem run_fromm{gd:Option (Tmp×Bool)}{m:Nat}[st:SlT P t e][q:ZeroT P e z](h:A.eval x=.slice A0 n c∧A.eval y=.int .i64 (k:Int)∧k+m=n∧n≤c∧z.length=sz∧v=.slice (partAt A0 c k sz) m (c-k)):
 (execOp A.eval (⟨d,.slice t x (some y) none none,ty,pos,after,gd⟩:Oper)).run P W=.ok (.value v) W:=by
 obtain⟨h1,h2,h3,h4,h5,rfl⟩:=h;have hm:n-k=m:=by omega
 have:=run_from (P:=P) (W:=W) (d:=d) (t:=t) (e:=e) (ty:=ty) (pos:=pos) (after:=after) (gd:=gd) (sz:=sz) (v:=.slice (partAt A0 c k sz) (n-k) (c-k)) ⟨h1,h2,by omega,h4,h5,rfl⟩
 rwa [hm] at this
end
end Go.Walk
namespace Go.Rg
open Go Go.Bp Go.RowKit Go.Walk Go.Proofs
set_option synthInstance.maxSize 4000
set_option synthInstance.maxHeartbeats 400000
set_option maxHeartbeats 4000000
theorem cells_row{W B:World}{ao:Addr}{k c j:Nat}{o:List Event}{x:Event}(h:RowC W (.slice (some ao) k c) B 80 9 k (encL o))(hk:o.length=k)(hj:j<o.length)(hx:o[j]=x):Cells W (ao.add (j*9)) (Enc.enc x):=by
 obtain⟨_,e,hc⟩:=(h.list (l:=o) rfl rfl hk.symm).elem hj;injection e with e
 subst e;rw[hx] at hc;exact hc
theorem order_mem{p:List Event}{k:Nat}{o1 o2:List Event}{x:Event}(hk:k<p.length)(hx:p[k]=x)(hm:∀y,y∈o1++o2↔y∈p.take k):∀y,y∈o1++x::o2↔y∈p.take (k+1):=by
 intro y;rw[List.take_succ_eq_append_getElem hk,hx];have:=hm y;simp only[List.mem_append,List.mem_cons,List.mem_singleton,List.not_mem_nil,or_false] at this⊢;rw[←this];constructor
 ·rintro(h|h|h)
  ·exact .inl (.inl h)
  ·exact .inr h
  ·exact .inl (.inr h)
 ·rintro((h|h)|h)
  ·exact .inl h
  ·exact .inr (.inr h)
  ·exact .inr (.inl h)
theorem sl_upto{W B:World}{A:Option Addr}{k c:Nat}{o1 o2:List Event}(h:RowC W (.slice A k c) B 80 9 k (encL (o1++o2)))(hk:o1.length+o2.length=k):SlC W (.slice A o1.length c) 9 o1.length (encL o1):=by
 have h1:=(h.list (l:=o1++o2) rfl rfl (by rw[List.length_append];omega)).upto (k:=o1.length) (by omega)
 rw[List.take_left] at h1;exact⟨h1,encL_one _⟩
theorem sl_from{W B:World}{A:Option Addr}{k c:Nat}{o1 o2:List Event}(h:RowC W (.slice A k c) B 80 9 k (encL (o1++o2)))(hk:o1.length+o2.length=k):SlC W (.slice (Go.Walk.partAt A c o1.length 9) o2.length (c-o1.length)) 9 o2.length (encL o2):=by
 have h1:=(h.list (l:=o1++o2) rfl rfl (by rw[List.length_append];omega)).from_ (k:=o1.length) (by omega)
 rw[List.drop_left,show k-o1.length=o2.length by omega] at h1
 exact⟨h1,encL_one _⟩
theorem mem_take2{l:List Event}{x:Event}{k:Nat}(hk:k<l.length):decide (x∈l.take (k+1))=(decide (x∈l.take k)||decide (l[k]=x)):=by
 rw[List.take_succ_eq_append_getElem hk,Bool.eq_iff_iff];simp only[List.mem_append,List.mem_singleton,Bool.or_eq_true,decide_eq_true_eq];exact or_congr_right eq_comm
theorem place_ex(us:List U8)(hu:∀u∈us,0≤u.v∧u.v≤255)(k:Nat)(o:List Event)(ho:o.length=k):∃o1 o2:List Event,o=o1++o2∧o1.length+o2.length=k∧
 ((us.length=0∧o1.length=0)∨∃(j:Nat)(uv:Int),(∃hj:j<us.length,us[j].v=uv)∧0<us.length∧(k:Int).tmod (us.length:Int)=(j:Int)∧0≤uv∧uv≤255∧uv.tmod ((k:Int)+1)=(o1.length:Int)):=by
 by_cases h0:us.length=0
 ·exact⟨[],o,rfl,by simpa using ho,.inl ⟨h0,rfl⟩⟩
 ·have hj:k%us.length<us.length:=Nat.mod_lt _ (by omega)
  have hb:=hu _ (List.getElem_mem hj);obtain⟨uv,hv⟩:∃x,us[k%us.length].v=x:=⟨_,rfl⟩;rw[hv] at hb;have hlt:uv.toNat%(k+1)<k+1:=Nat.mod_lt _ (by omega)
  have hle:uv.toNat%(k+1)≤o.length:=by omega
  have hl1:(o.take (uv.toNat%(k+1))).length=uv.toNat%(k+1):=by rw[List.length_take];omega
  refine⟨o.take (uv.toNat%(k+1)),o.drop (uv.toNat%(k+1)),(List.take_append_drop _ _).symm,by rw[hl1,List.length_drop];omega,.inr ⟨k%us.length,uv,⟨hj,hv⟩,by omega,?_,hb.1,hb.2,?_⟩⟩
  ·rw[Int.tmod_eq_emod_of_nonneg (by omega)];push_cast;rfl
  ·rw[hl1,Int.tmod_eq_emod_of_nonneg hb.1];have:uv=((uv.toNat:Nat):Int):=by omega
   rw[this];push_cast;simp
theorem whole_same{r:Rules}{p q:Person}{d:Drive}{k:Whole}(hz:r.personErr p=0)(hq:r.personErr q=0)(hb:q.born=p.born)(hm:∀x,x∈q.events↔x∈p.events)(m:WholeE r p d k):WholeE r q d k:=by
 obtain⟨a1,a2,a3,a4,a5⟩:=Rules.answers_same hz hq hb hm;obtain⟨b1,b2,b3,b4,b5⟩:=m.h;exact⟨by rw[a1];exact b1,by rw[a2];exact b2,by rw[a3];exact b3,by rw[a4];exact b4,by rw[a5];exact b5⟩
theorem order_ready{r:Rules}{p q3:Person}{x:Event}{d:Drive}{k1:Whole}(hq:q3=⟨p.born,p.events++ [x]⟩)(hz:r.personErr p=0)(hz3:r.personErr q3=0)(m1:WholeE r p d k1):∃t3,r.writeAns q3=(t3,0)∧((S t3).toList==(S k1.text).toList)=decide (x∈p.events):=by
 have e1:=m1.h.2.2.2.2;unfold Rules.writeAns at e1⊢;rw[if_neg (by simpa using hz)] at e1
 rw[if_neg (by simpa using hz3)]
 injection e1 with e1
 refine⟨_,rfl,?_⟩;rw[ba_tl,←e1,hq];have ht:=Rules.text_twice (x:=x) hz (by rw[hq] at hz3;exact hz3)
 by_cases h:x∈p.events
 ·rw[decide_eq_true h,ht.2 h];simp
 ·rw[decide_eq_false h];exact decide_eq_false fun e=>h (ht.1 (S_inj e))
def OrdI(p:Person)(V:World)(g9:Nat)(iv:Value)(wr:World):Prop:=Ext V wr∧∃(k:Nat)(o:List Event)(Ao:Option Addr)(co:Nat)(B:World),k≤p.events.length∧iv=.int .i64 k∧Blk wr g9 31 #[.int .i64 p.born,.slice Ao k co]∧RowC wr (.slice Ao k co) B 80 9 k (encL o)∧o.length=k∧∀y,y∈o↔y∈p.events.take k
theorem put_end{p:Person}{V Vs B:World}{g9 c9 k:Nat}{A9:Option Addr}{o1 o2:List Event}{x:Event}{cs:List Value}(hb:Blk Vs g9 31 #[.int .i64 p.born,.slice A9 (0+o1.length+1+o2.length) c9])(hr:RowC Vs (.slice A9 (0+o1.length+1+o2.length) c9) B 80 9 (0+o1.length+1+o2.length) cs)(hcs:cs=encL o1++Enc.enc x++encL o2)(hoo:o1.length+o2.length=k)(lk:k<p.events.length)(hx:p.events[k]=x)(hm:∀y,y∈o1++o2↔y∈p.events.take k)(hE:Ext V Vs):OrdI p V g9 (.int .i64 ((k:Int)+1)) Vs:=by
 have e9:0+o1.length+1+o2.length=k+1:=by omega
 rw[e9] at hb hr;refine⟨hE,k+1,o1++x::o2,A9,c9,B,lk,by push_cast;rfl,hb,hr.cast ?_ rfl,by simp;omega,order_mem lk hx hm⟩
 rw[hcs,Walk.encL_app,Walk.encL_cons,List.append_assoc]
theorem put_end0{p:Person}{V Vs B:World}{g9 c9 k:Nat}{A9:Option Addr}{o:List Event}{x:Event}{cs:List Value}(hb:Blk Vs g9 31 #[.int .i64 p.born,.slice A9 (0+0+1+k) c9])(hr:RowC Vs (.slice A9 (0+0+1+k) c9) B 80 9 (0+0+1+k) cs)(hcs:cs=Enc.enc x++encL o)(hoo:o.length=k)(lk:k<p.events.length)(hx:p.events[k]=x)(hm:∀y,y∈o↔y∈p.events.take k)(hE:Ext V Vs):OrdI p V g9 (.int .i64 ((k:Int)+1)) Vs:=by
 have e9:0+0+1+k=k+1:=by omega
 rw[e9] at hb hr;refine⟨hE,k+1,x::o,A9,c9,B,lk,by push_cast;rfl,hb,hr.cast ?_ rfl,by simp[hoo],order_mem (o1:=[]) lk hx hm⟩
 rw[hcs,Walk.encL_cons]
set_option maxHeartbeats 16000000 in
def OrderPack(r:Rules)(p:Person)(dd dc df:Int)(A9':Option Addr)(ct:Nat)(us:List U8)(xk xd xc xo xt xq xp xu xm:Int)(w:World)(A1:Option Addr)(n1 c1:Nat)(A2:Option Addr)(n2 c2:Nat)(A3:Option Addr)(n3 c3:Nat)(A:Option Addr)(c:Nat)(k1:Whole)(h:RulesV w (Value.agg #[Value.slice A1 n1 c1,Value.slice A2 n2 c2,Value.slice A3 n3 c3,Value.int IntKind.i64 r.limit,Value.int IntKind.i64 r.fall,Value.int IntKind.i64 r.ban]) r)(hp:PersonV w (.agg #[.int .i64 p.born,.slice A p.events.length c]) p)(hl:ListV w (.slice A p.events.length c) p.events)(hf:FewE p)(hv:EnvC w)(hus:ListV w (.slice A9' us.length ct) us)(hub:∀u∈us,0≤u.v∧u.v≤255)(j1:ValE r p ⟨dd,dc,df⟩ true)(hz:r.personErr p=0)(hdr:r.driveErr p ⟨dd,dc,df⟩=0)(m1:WholeE r p ⟨dd,dc,df⟩ k1):
 Σ' R1 R2 R3 R4 R5:Prop,Hid R1→Hid R2→Hid R3→Hid R4→Hid R5→Calls Tryz.prog 8 #[Value.agg #[Value.slice A1 n1 c1,Value.slice A2 n2 c2,Value.slice A3 n3 c3,Value.int IntKind.i64 r.limit,Value.int IntKind.i64 r.fall,Value.int IntKind.i64 r.ban],.agg #[.int .i64 p.born,.slice A p.events.length c],.agg #[.int .i64 dd,.int .i64 dc,.int .i64 df,.slice A9' us.length ct,.int .i64 xk,.int .i64 xd,.int .i64 xc,.int .i64 xo,.int .i64 xt,.int .i64 xq,.int .i64 xp,.int .i64 xu,.int .i64 xm]] w (RB w true):=by
 apply PSigma.mk;apply PSigma.mk;apply PSigma.mk;apply PSigma.mk;apply PSigma.mk
 ·intro h1 h2 h3 h4 h5;have i1:=RulesB.mk h;have i2:=PersonB.mk hp;have i4:=ListB.mk hl;have i7:=ListB.mk hus;have i0:=EnvB.mk hv.h;have hn30:=(Rules.person_ok hz).2.2.1;go_enter Tryz.func8,Tryz.ntmps8
  go_wp2_with (first|((first|with_reducible refine call_c ?_);rintro _ V ⟨rfl,(_:StepC _ _)⟩;(try simp only[eq_self,decide_true]))|(with_reducible refine newvar_c (uu:=9) ?_;intro V9 g9 hE9 hB9 hA9)|(first|(with_reducible refine load_c ?_)|(with_reducible refine box_c ?_;intro V g _ _ _)))
  go_loopw [10] (fun iv wr=>OrdI p V g9 iv wr) (fun iv _=>p.events.length-(RowKit.intOf iv).toNat)
  case atStart=>exact⟨ExtC.h,0,[],none,0,w,by omega,rfl,hB9.h,RowC.nil,rfl,by simp⟩
  case round=>
   rename_i Wa ga s1 s2 s3 Wb gb s4 s5 s6 Wc s7 s8 s9 s10 KK aK;obtain⟨hEV,k,o,Ao,co,B,hk,rfl,hb9,hRo,hok,hm⟩:=hrel;by_cases lk:k<p.events.length
   ·obtain⟨o1,o2,ho,hoo,hcase⟩:=place_ex us hub k o hok;rcases hcase with ⟨q0,q1⟩|⟨j,uv,hj,q0,q1,q2,q3,q4⟩
    ·clear i1 i2 i4 i7 i0 hn30;revert Wa ga Wb gb Wc g V V9 g9 KK wr u11 u44 u45 u46 u47 u48 u49 u50 u51 u52 u53 u54 u55 u56 u57 u58 u59 u60 u61 u62 u63 u64 u65 u66 u67 u68 u69 u70 u71 u72 u73 u74 u75 u76 u77 u78 u79 u80 u81 u82 u83 u84 u85 u86 u87 u88 k o Ao co B o1 o2 q0
     exact h1.out
    ·clear i1 i2 i4 i7 i0 hn30;revert Wa ga Wb gb Wc g V V9 g9 KK wr u11 u44 u45 u46 u47 u48 u49 u50 u51 u52 u53 u54 u55 u56 u57 u58 u59 u60 u61 u62 u63 u64 u65 u66 u67 u68 u69 u70 u71 u72 u73 u74 u75 u76 u77 u78 u79 u80 u81 u82 u83 u84 u85 u86 u87 u88 k o Ao co B o1 o2 j uv q0
     exact h2.out
   ·by_cases k0:k=0
    ·clear i1 i2 i4 i7 i0 hn30;revert Wa ga Wb gb Wc g V V9 g9 KK wr u11 u44 u45 u46 u47 u48 u49 u50 u51 u52 u53 u54 u55 u56 u57 u58 u59 u60 u61 u62 u63 u64 u65 u66 u67 u68 u69 u70 u71 u72 u73 u74 u75 u76 u77 u78 u79 u80 u81 u82 u83 u84 u85 u86 u87 u88 k o Ao co B
     exact h3.out
    by_cases k30:k<30
    ·clear i1 i2 i4 i7 i0 hn30;revert Wa ga Wb gb Wc g V V9 g9 KK wr u11 u44 u45 u46 u47 u48 u49 u50 u51 u52 u53 u54 u55 u56 u57 u58 u59 u60 u61 u62 u63 u64 u65 u66 u67 u68 u69 u70 u71 u72 u73 u74 u75 u76 u77 u78 u79 u80 u81 u82 u83 u84 u85 u86 u87 u88 k o Ao co B
     exact h5.out
    ·clear i1 i2 i4 i7 i0 hn30;revert Wa ga Wb gb Wc g V V9 g9 KK wr u11 u44 u45 u46 u47 u48 u49 u50 u51 u52 u53 u54 u55 u56 u57 u58 u59 u60 u61 u62 u63 u64 u65 u66 u67 u68 u69 u70 u71 u72 u73 u74 u75 u76 u77 u78 u79 u80 u81 u82 u83 u84 u85 u86 u87 u88 k o Ao co B
     exact h4.out
end Go.Rg
end
