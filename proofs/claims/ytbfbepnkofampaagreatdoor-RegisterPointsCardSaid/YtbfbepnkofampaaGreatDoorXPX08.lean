import Derived.Test.YtbfbepnkofampaaGreatDoorXPX07
set_option maxRecDepth 100000
set_option synthInstance.maxSize 2000
set_option synthInstance.maxHeartbeats 400000
set_option maxHeartbeats 8000000
set_option linter.all false
section
namespace Go.Rg
open Go Go.Bp Go.RowKit Go.Walk Go.Proofs
theorem TabIs.ext{P:Program}{w w':World}{name:String}{k:IntKind}{zs:List Int}(h:Lib.TabIs P w name k zs)(e:Ext w w'):Lib.TabIs P w' name k zs:=by
 unfold Lib.TabIs World.var? at h⊢
 cases hg:P.globalNamed name with
 |none=>rw[hg] at h;cases h
 |some g=>
  rw[hg] at h;simp only[Option.bind_some] at h⊢
  cases ho:w.heap[g]? with
  |none=>rw[ho] at h;cases h
  |some o=>rw[ho] at h;rw[e.heap_some ho];exact h
structure Env(w:World):Prop where
 maxLen:∃m,w.cell? ⟨0,0,none⟩=some (.int .i64 m)
 syn:∃te pe,w.cell? ⟨1,0,none⟩=some (.iface te pe)
 rng:∃te pe,w.cell? ⟨2,0,none⟩=some (.iface te pe)
 tab:Lib.TabIs Tryz.prog w "internal/strconv.uint64pow10" .u64 Lib.pow10Tab
theorem Env.ext{w w':World}(h:Env w)(e:Ext w w'):Env w':=
 ⟨let⟨m,hm⟩:=h.maxLen;⟨m,e.cell_some hm⟩,let⟨a,b,hm⟩:=h.syn;⟨a,b,e.cell_some hm⟩,let⟨a,b,hm⟩:=h.rng;⟨a,b,e.cell_some hm⟩,TabIs.ext h.tab e⟩
class EnvB (w:outParam World):Prop where h:Env w
class EnvC (W:World):Prop where h:Env W
instance{a W:World}[x:EnvB a][y:ExtC a W]:EnvC W:=⟨x.h.ext y.h⟩
theorem Kf(w:World)(k:Nat)(os:Array Obj):Ext w (Sort.grow (w.drewN k) os):=
 ⟨rfl,rfl,rfl,by simp[Sort.grow],fun i hi=>by simp only[Sort.grow];exact Array.getElem?_append_left hi⟩
class ItoaE (n:Int) (s:outParam ByteArray):Prop where h:(0≤n∧n≤1000000)∧S (digits n.toNat)=s
instance{W:World}{n:Int}{s:ByteArray}[hv:EnvC W][q:ItoaE n s]:FunC Tryz.prog 204 #[.int .i64 n] W (RTx W s):=⟨by
 rw[←q.h.2];refine(Tryz.strconv_Itoa n (by have:=q.h.1;omega) (by have:=q.h.1;omega) W hv.h.tab).mono ?_
 rintro e w' ⟨rfl,k,os,rfl⟩;exact⟨by rw[xA q.h.1.1];rfl,⟨Kf W k os⟩⟩⟩
theorem tS(c:Nat):Lib.repeatL [48] c=List.replicate c 48:=by
 induction c with
 |zero=>rfl
 |succ c ih=>rw[Lib.repeatL,ih];rfl
class RepE (c:Int) (s:outParam ByteArray):Prop where h:∃k:Nat,c=k∧k≤1000000∧S (List.replicate k 48)=s
instance{W:World}{c:Int}{s:ByteArray}[q:RepE c s]:FunC Tryz.prog 258 #[.string ⟨#[48]⟩,.int .i64 c] W (RTx W s):=⟨by
 obtain⟨k,rfl,hk,rfl⟩:=q.h;refine(Tryz.strings_Repeat ⟨#[48]⟩ k W (by omega) (by show 1*k≤_;omega)).mono ?_
 rintro e w' ⟨rfl,hb⟩;refine⟨?_,⟨hb⟩⟩;rw[←tS];rfl⟩
theorem join_list:∀ls:List (List UInt8),Lib.join ls [32]=Rules.joinW ls
 | []=>rfl
 | [a]=>by simp[Lib.join,Rules.joinW,List.intercalate]
 |a::b::ls=>by
  have ih:=join_list (b::ls);unfold Lib.join at ih⊢;rw[Rules.joinW,←ih];simp[List.intercalate]
class JoinE (l:List ByteArray) (s:outParam ByteArray):Prop where h:(l.length≤1000000∧(Rules.joinW (l.map (·.data.toList))).length≤1000000000)∧S (Rules.joinW (l.map (·.data.toList)))=s
instance{W:World}{g n c:Nat}{l:List ByteArray}{s:ByteArray}[hl:ListC ByteArray W (.slice (some ⟨g,0,none⟩) n c) l][q:JoinE l s]:FunC Tryz.prog 205 #[.slice (some ⟨g,0,none⟩) n c,.string ⟨#[32]⟩] W (RTx W s):=⟨by
 obtain⟨⟨hn,hj⟩,hs⟩:=q.h;obtain⟨A,c',e,h1,h2⟩:=hl.h.form;injection e with e1 e2 e3
 subst e1 e2 e3;have hj2:Lib.join (l.map (·.data.toList)) (⟨#[32]⟩:ByteArray).data.toList=Rules.joinW (l.map (·.data.toList)):=join_list _
 by_cases h0:l=[]
 ·subst h0;refine(Tryz.strings_Join_none _ _ ⟨#[32]⟩ W).mono ?_;rintro e w' ⟨rfl,rfl⟩;exact⟨by rw[←hs];rfl,⟨Ext.refl _⟩⟩
 ·have hcell:∀(j:Nat)x,l[j]? =some x→W.cell? ⟨g,0+j,none⟩=some (.string x):=fun j x hx=>by
   obtain⟨hj3,rfl⟩:=List.getElem?_eq_some_iff.1 hx;obtain⟨ad,e,hc⟩:=hl.h.elem hj3;injection e with e
   subst e;have:=hc 0 (.string l[j]) rfl;rw[add_zero',addr0] at this;simpa [Enc.size] using this
  have hg:g<W.heap.size:=by
   obtain⟨x,l',rfl⟩:=List.exists_cons_of_ne_nil h0;have:=hcell 0 x rfl;unfold World.cell? at this
   cases hh:W.heap[g]? with
   |none=>simp[hh] at this
   |some o=>exact(Array.getElem?_eq_some_iff.1 hh).1
  have hJ:=Tryz.strings_Join g 0 c l ⟨#[32]⟩ W hcell hg (by omega) h1 (by rw[hj2];omega)
  rw[hj2] at hJ;refine hJ.mono ?_;rintro e w' ⟨rfl,hb⟩;exact⟨by rw[←hs];rfl,⟨hb⟩⟩⟩
class CatC (p q:ByteArray) (r:outParam ByteArray):Prop where h:p++q=r∧p.size+q.size≤1000000000
section
variable{P:Program}{ops:Array Oper}{Q:Exit→Act→World→Prop}{A:Act}{rest:List Oper}{W:World}{p q r:ByteArray}
variable{d:Option Tmp}{ty ty' t9:TypeId}{pos:String}{after:Array Edge}{x y:Operand}{gd:Option (Tmp×Bool)}
theorem Im(hx:A.eval x=.string p)(hy:A.eval y=.string q)(c:CatC p q r):(execOp A.eval (⟨d,.binOp .add t9 x y ty',ty,pos,after,gd⟩:Oper)).run P W=.ok (.value (.string r)) W:=by
 have h1:=run_string_add_sum (P:=P) W p q (by have:=c.h.2;omega)
 rw[c.h.1] at h1;simp[execOp,hx,hy,binOp,h1,Result.andThen,eqGuard]
theorem Il{v:Value}(hx:A.eval x=.string p)(hy:A.eval y=.string q)(c:CatC p q r)(hv:Value.string r=v):(execOp A.eval (⟨d,.binOp .add t9 x y ty',ty,pos,after,gd⟩:Oper)).run P W=.ok (.value v) W:=by subst hv;exact Im hx hy c
theorem oP(hx:A.eval x=.string p)(hy:A.eval y=.string q)(c:CatC p q r)(k:wpList P ops Q rest (A.put d (.string r)) W):wpList P ops Q (⟨d,.binOp .add t9 x y ty',ty,pos,after,none⟩::rest) A W:=Co rfl (Im hx hy c) k
end
theorem Mi(n k:Nat)(h:(pad n k).length≤4):(digits n).length≤4∧k-(digits n).length≤4:=by
 unfold pad at h;rw[List.length_append,List.length_replicate] at h;omega
class PadE (n k:Int) (s:outParam ByteArray):Prop where h:∃a b:Nat,n=a∧k=b∧a≤9999∧b≤4∧(pad a b).length≤4∧S (pad a b)=s
theorem zQ(a b:Nat)(ha:a≤9999)(hb:b≤4)(hp:(pad a b).length≤4)(w:World)[hv:EnvC w]:Calls Tryz.prog 202 #[.int .i64 a,.int .i64 b] w (RTx w (S (pad a b))):=by
 have i0:=EnvB.mk hv.h;obtain⟨h1,h2⟩:=Mi a b hp;obtain⟨D,hD⟩:∃D,digits a=D:=⟨_,rfl⟩;have hpd:pad a b=List.replicate (b-D.length) 48++D:=by rw[←hD];rfl
 rw[hD] at h1 h2;rw[hpd];have i1:ItoaE (a:Int) (S D):=⟨by omega,by rw[Int.toNat_natCast,hD]⟩
 obtain⟨s,hs⟩:∃s,S D=s:=⟨_,rfl⟩;have hsz:s.size=D.length:=by rw[←hs,fR]
 obtain⟨c,hc⟩:∃c,b-D.length=c:=⟨_,rfl⟩;rw[hc] at h2⊢;have w0:IntKind.i64.wrap ((b:Int)-(s.size:Int))=(b:Int)-(s.size:Int):=IntWalk.i64_in _ (by omega)
 have hm:max 0 ((b:Int)-(s.size:Int))=(c:Int):=by omega
 have i2:RepE (c:Int) (S (List.replicate c 48)):=⟨c,rfl,by omega,rfl⟩
 have i3:CatC (S (List.replicate c 48)) s (S (List.replicate c 48++D)):=⟨by rw[←hs,rN],by rw[fR,hsz,List.length_replicate];omega⟩
 rw[hs] at i1;clear hD hpd hs hc hsz hp;go_enter Tryz.func202,Tryz.ntmps202
 go_wp2_with (first|(with_reducible refine oP (by with_unfolding_all rfl) (by with_unfolding_all rfl) (by infer_instance) ?_)|(first|(with_reducible refine aB ?_;first|rintro _ V ⟨rfl,(_:StepC _ _)⟩)))
 go_ret
 exact⟨rfl,⟨ExtC.h⟩⟩
instance{W:World}{n k:Int}{s:ByteArray}[hv:EnvC W][q:PadE n k s]:FunC Tryz.prog 202 #[.int .i64 n,.int .i64 k] W (RTx W s):=⟨by
 obtain⟨a,b,rfl,rfl,h1,h2,h3,rfl⟩:=q.h;exact zQ a b h1 h2 h3 W⟩
theorem gY{a b:List UInt8}(p q:ByteArray)(hp:p=S a)(hq:q=S b)(h:a.length+b.length≤1000000):CatC p q (S (a++b)):=⟨by rw[hp,hq,rN],by rw[hp,hq,fR,fR];omega⟩
theorem Fr(day:Int)(h:0≤day∧day≤40000)(w:World)[hv:EnvC w]:Calls Tryz.prog 135 #[.int .i64 day] w (RTx w (S (datedL day))):=by
 have i0:=EnvB.mk hv.h;obtain⟨y,m,d,h1,h2,hy,hm,hd⟩:=kS (inB_t.2 h);have i1:=DateE.mk h2;have hdl:datedL day=pad y.toNat 4++45::(pad m.toNat 2++45::pad d.toNat 2):=by unfold datedL;rw[h1]
 have ly:=(pad4 (n:=y.toNat) (by omega) (by omega)).2.2.2.2
 have lm:=(pad2 (n:=m.toNat) (by omega)).2.2.2.2
 have ld:=(pad2 (n:=d.toNat) (by omega)).2.2.2.2
 have p1:PadE y 4 (S (pad y.toNat 4)):=⟨y.toNat,4,by omega,rfl,by omega,by omega,ly,rfl⟩
 have p2:PadE m 2 (S (pad m.toNat 2)):=⟨m.toNat,2,by omega,rfl,by omega,by omega,lm,rfl⟩
 have p3:PadE d 2 (S (pad d.toNat 2)):=⟨d.toNat,2,by omega,rfl,by omega,by omega,ld,rfl⟩
 rw[hdl];obtain⟨Y,hY⟩:∃Y,pad y.toNat 4=Y:=⟨_,rfl⟩;obtain⟨M,hM⟩:∃M,pad m.toNat 2=M:=⟨_,rfl⟩;obtain⟨D,hD⟩:∃D,pad d.toNat 2=D:=⟨_,rfl⟩;rw[hY] at p1 ly;rw[hM] at p2 lm;rw[hD] at p3 ld;rw[hY,hM,hD];have c1:CatC (S Y) ⟨#[45]⟩ (S (Y++ [45])):=gY _ _ rfl rfl (by simp;omega)
 have c2:CatC (S (Y++ [45])) (S M) (S (Y++ [45]++M)):=gY _ _ rfl rfl (by simp;omega)
 have c3:CatC (S (Y++ [45]++M)) ⟨#[45]⟩ (S (Y++ [45]++M++ [45])):=gY _ _ rfl rfl (by simp;omega)
 have c4:CatC (S (Y++ [45]++M++ [45])) (S D) (S (Y++45::(M++45::D))):=⟨by rw[rN];simp,by rw[fR,fR];simp;omega⟩
 clear hY hM hD hdl ly lm ld h1 h2 hy hm hd;go_enter Tryz.func135,Tryz.ntmps135
 go_wp2_with (first|(with_reducible refine aB ?_;first|rintro _ V ⟨rfl,(_:StepC _ _)⟩)|(with_reducible refine aG ?_;intro V g _ _ _))
 refine aP ((.take 0 (.take 1 (.take 4 (.take 5 (.take 9 (.take 10 (.one 2 (.take 3 (.one 6 (.take 7 (.take 8 (.one 11 (.take 12 (.take 13 .nil))))))))))))))) (fun hHd=> ?_) (hQ:=by intro _ _ _ _ _ h;exact h)
 repeat' first|((with_reducible refine aX ?_);(first|(refine tk (v:= ?_) ?_ hHd ?_;rotate_left;(·(intro W' h;have:=StepC.mk h;first|with_reducible exact aJ|with_reducible exact Il (by with_unfolding_all rfl) (by with_unfolding_all rfl) (by infer_instance) (by rfl))))|(refine tk (v:= ?_) ?_ hHd ?_;rotate_left;(·(intro wq hSw;go_simp;(try with_reducible rfl)))));(try simp only[pS]))|((with_reducible refine bC ?_);refine aQ (by simp only[gS];rfl) ?_)|((with_reducible refine aN ?_);first|(rintro _ V ⟨rfl,(_:StepC _ _)⟩;refine⟨_,rfl,?_⟩))|((with_reducible refine bD ?_);clear hHd;refine aM ExtC.h (fun hHd=> ?_);(try simp only[pS]))|(with_reducible refine aF ?_)
 all_goals
  go_wp2
  go_ret
  exact⟨rfl,⟨ExtC.h⟩⟩
class DatedE (day:Int) (s:outParam ByteArray):Prop where h:(0≤day∧day≤40000)∧S (datedL day)=s
instance{W:World}{day:Int}{s:ByteArray}[hv:EnvC W][q:DatedE day s]:FunC Tryz.prog 135 #[.int .i64 day] W (RTx W s):=⟨by rw[←q.h.2];exact Fr day q.h.1 W⟩
end Go.Rg
end
section
namespace Go.Rg
open Go Go.Bp Go.RowKit Go.Walk Go.Proofs
def wordTo(s:Sys)(r:Right)(k:Nat):List UInt8:=s.nameL r.cls++(((List.range k).filter fun j=>r.codes.toNat.testBit j).flatMap fun j=>46::s.codeL j)
theorem pE(s:Sys)(r:Right):wordTo s r s.codes.length=s.wordL r:=rfl
theorem nW(s:Sys)(r:Right):wordTo s r 0=s.nameL r.cls:=by simp[wordTo]
theorem nX(s:Sys)(r:Right)(k:Nat):wordTo s r (k+1)=if r.codes.toNat.testBit k=true then wordTo s r k++46::s.codeL k else wordTo s r k:=by
 unfold wordTo;rw[List.range_succ,List.filter_append,List.flatMap_append,List.filter_cons];split<;>simp_all
theorem pD{s:Sys}(ho:s.Ok){r:Right}(hc:0≤r.cls∧r.cls<s.classes.length):∀k,k≤s.codes.length→(wordTo s r k).length≤16+17*k
 |0,_=>by rw[nW];exact eK (ho.name hc)
 |k+1,hk=>by
  have ih:=pD ho hc k (by omega)
  have h2:(s.codeL k).length≤16:=eK (Sys.nameErr_0 (ho.code k (by omega))).1
  rw[nX];split
  ·rw[List.length_append,List.length_cons];omega
  ·omega
theorem Nw(c:Nat)(k:Nat)(hc:c<256)(hk:k≤8):(bits .and .i64 ((c/2^k:Nat):Int) 1==1)=c.testBit k:=by
 have h1:c/2^k<2^62:=Nat.lt_of_le_of_lt (Nat.div_le_self _ _) (by omega)
 have:=xY (a:=c/2^k) (b:=1) h1 (by decide)
 rw[show((1:Nat):Int)=1 from rfl] at this
 rw[this,Nat.and_one_is_mod,Nat.testBit_eq_decide_div_mod_eq];obtain⟨q,hq⟩:∃q,c/2^k=q:=⟨_,rfl⟩;rw[hq,Bool.eq_iff_iff];simp only[beq_iff_eq,decide_eq_true_eq];omega
theorem xS{W:World}{A:Option Addr}{n c:Nat}{l:List Cls}(h:ClsV W (.slice A n c) l){k:Nat}(hk:k<l.length):
 ∃ad a q,A=some ad∧n=l.length∧n≤c∧c≤9223372036854775807∧Cells W (ad.add (k*5)) [.string l[k].name,.slice a l[k].incl.length q,.int .i64 l[k].needs,.int .i64 l[k].age,.int .i64 l[k].term]:=by
 obtain⟨m,hm1,hm2,-⟩:=h.h;have hml:m.length=l.length:=by rw[←hm1,List.length_map]
 obtain⟨ad,rfl,hc⟩:=hm2.elem (i:=k) (by omega)
 have hcap:=hm2.caps;have hat:l[k]=(m[k]'(by omega)).c:=by simp only[←hm1];rw[List.getElem_map]
 obtain⟨A',c',e,h1⟩:=hm2.form;injection e with e1 e2 e3
 subst e2;rw[hat];exact⟨ad,_,_,rfl,hml,by omega,by omega,hc⟩
class WriteE (s:Sys) (x:Right) (t:outParam ByteArray):Prop where h:s.check=(0,0,0)∧s.rightErr x=0∧S (s.wordL x)=t
abbrev RTxI(W:World)(s:ByteArray)(n:Int)(e:Ending)(W':World):Prop:=e=.returned (.tuple #[.string s,.int .i64 n])∧StepC W W'
theorem Bt(s:Sys)(v:Value)(g0:Nat)(xc xo:Int)(w:World)(h:SysV w v s)(hB:BlkC w g0 74 [.int .i64 xc,.int .i64 xo])(hck:s.check=(0,0,0))(hr:s.rightErr ⟨xc,xo⟩=0):Calls Tryz.prog 203 #[v,.slice (some ⟨g0,0,none⟩) 1 1] w (RTxI w (S (s.wordL ⟨xc,xo⟩)) 0):=by
 obtain⟨A,_,k,A',k',rfl,rfl,hcl,hcd⟩:=h.h;have i1:=SysB.mk h;have i2:AskOk s [⟨xc,xo⟩]:=⟨by rw[uQ hck];exact hr⟩
 have ho:s.Ok:=Sys.ok_of (by rw[hck])
 have hri:=Sys.right_in hr;have hn8:=ho.c;have hn12:=ho.n;have hwl:=pD (r:=⟨xc,xo⟩) ho hri.1;obtain⟨c,rfl⟩:∃c:Nat,xc=(c:Int):=⟨xc.toNat,by have:=hri.1.1;simp only at this;omega⟩
 obtain⟨o,rfl⟩:∃o:Nat,xo=(o:Int):=⟨xo.toNat,by have:=hri.2.1;simp only at this;omega⟩
 have hcl2:c<s.classes.length:=by have:=hri.1.2;simp only at this;omega
 have ho256:o<256:=by
  have h1:=hri.2.2;unfold Sys.sets at h1;have:=eU hn8;simp only at h1;omega
 have hnm:S (s.nameL (c:Int))=s.classes[c].name:=by unfold Sys.nameL;rw[Sys.at_eq hcl2,uR]
 have Hnm:=Lib.hid hnm;have Hwl:=Lib.hid hwl;clear hr hri hcl hcd hnm hwl hck;go_enter Tryz.func203,Tryz.ntmps203
 go_wp2_with (first|(with_reducible refine aB ?_;rintro _ Vr ⟨gp,Ap,kp,Aq,kq,cv,rfl,(_:BlkC _ _ _ _),hRC,hRL,hRD,(_:StepC _ _)⟩)|(with_reducible refine kV ?_;intro Vw gw hEw hRw)|(first|(with_reducible refine aA ?_)|(with_reducible refine aH ?_;intro V g _ _ _)|(with_reducible refine aD ?_;intro V g _ _ _)))
 obtain⟨ad,ca,cq,rfl,-,hb1,hb2,hcc⟩:=xS hRL.h hcl2;have j1:CellsB Vr (ad.add (c*5)) [.string s.classes[c].name,.slice ca s.classes[c].incl.length cq,.int .i64 s.classes[c].needs,.int .i64 s.classes[c].age,.int .i64 s.classes[c].term]:=⟨hcc⟩;have hcap:=hRD.h.caps;go_loopw [27,8] (fun iv lv wr=>StepC Vr wr∧((iv=.int .i64 0∧lv=.slice (some ⟨gw,0,none⟩) 0 0∧RowC wr (.slice (some ⟨gw,0,none⟩) 0 0) Vr 9 1 0 [])∨(iv=.int .i64 1∧∃A2 c2,lv=.slice A2 1 c2∧RowC wr (.slice A2 1 c2) Vr 9 1 1 [.string (S (s.wordL ⟨(c:Int),(o:Int)⟩))]))) (fun iv _ _=>1-(RowKit.intOf iv).toNat)
 case atStart=>exact⟨⟨ExtC.h⟩,.inl ⟨rfl,rfl,inferInstance⟩⟩
 case round=>
  obtain⟨_,⟨rfl,rfl,hRo⟩|⟨rfl,A2,c2,rfl,hRo⟩⟩:=hrel
  ·go_wp2_with (first|(with_reducible refine aG (uu:=10) ?_;intro V10 g10 hE10 hB10 hA10)|(first|(with_reducible refine aA ?_)))
   refine aP ((.take 0 (.take 1 (.take 2 (.take 3 (.take 4 (.take 5 (.take 6 (.take 7 (.take 8 (.take 9 (.take 10 .nil)))))))))))) (fun hHd=> ?_) (hQ:=by intro _ _ _ _ _ h;exact h)
   repeat' first|((with_reducible refine aX ?_);(first|(refine tk (v:= ?_) ?_ hHd ?_;rotate_left;(·(intro W' h;have:=StepC.mk h;first|with_reducible exact aJ)))|(refine tk (v:= ?_) ?_ hHd ?_;rotate_left;(·(intro wq hSw;go_simp;(try with_reducible rfl)))));(try simp only[pS]))|(with_reducible refine aF ?_)
   all_goals
    go_wp2_with (first|(with_reducible refine aA ?_))
    go_loopw [47,11] (fun iv tv wr2=>StepC V10 wr2∧∃k:Nat,k≤s.codes.length∧iv=.int .i64 k∧tv=.string (S (wordTo s ⟨(c:Int),(o:Int)⟩ k))) (fun iv _ _=>s.codes.length-(RowKit.intOf iv).toNat)
    case atStart=>exact⟨⟨ExtC.h⟩,0,by omega,rfl,by rw[nW,Hnm.out]⟩
    case round=>
     obtain⟨_,k,hk,rfl,rfl⟩:=hrel;by_cases lk:k<s.codes.length
     ·obtain⟨ad2,rfl,hc2⟩:=hRD.h.elem lk;obtain⟨cn,hcn⟩:∃x,s.codes[k]=x:=⟨_,rfl⟩;rw[hcn] at hc2;have j2:CellsB Vr (ad2.add k) [.string cn]:=⟨by simpa [Enc.size,Enc.enc] using hc2⟩
      have hcl3:s.codeL k=cn.data.toList:=by unfold Sys.codeL;rw[←hcn];simp[List.getD,lk]
      have hl1:=Hwl.out k hk;have hl2:=Hwl.out (k+1) lk;obtain⟨b,hb⟩:∃b,o.testBit k=b:=⟨_,rfl⟩;have hsu:wordTo s ⟨(c:Int),(o:Int)⟩ (k+1)=if b=true then wordTo s ⟨(c:Int),(o:Int)⟩ k++46::s.codeL k else wordTo s ⟨(c:Int),(o:Int)⟩ k:=by rw[←hb];exact nX s ⟨(c:Int),(o:Int)⟩ k
      have hba:(bits .and .i64 ((o:Int)/2^k) 1==1)=b:=by
       have:=Nw o k ho256 (by omega)
       rw[hb] at this;rw[←this];push_cast;rfl
      have zk:IntKind.i64.wrap ((k:Int)+1)=(k:Int)+1:=IntWalk.i64_in _ (by omega)
      have k8:k≤8:=by omega
      have hln:(s.codeL k).length≤16:=eK (Sys.nameErr_0 (ho.code k lk)).1;have q1:CatC ⟨#[46]⟩ cn (S (46::s.codeL k)):=⟨by rw[hcl3];rw[show(⟨#[46]⟩:ByteArray)=S [46] from rfl,←uR cn,rN,nS];rfl,by rw[hcl3] at hln;rw[Lib.size_eq cn];show 1+_≤_;omega⟩
      have q2:CatC (S (wordTo s ⟨(c:Int),(o:Int)⟩ k)) (S (46::s.codeL k)) (S (wordTo s ⟨(c:Int),(o:Int)⟩ k++46::s.codeL k)):=gY _ _ rfl rfl (by simp only[List.length_cons];omega)
      have Hsu:=Lib.hid hsu;clear hsu hb hcn hc2 hcl3
      cases b
      ·go_wp2_with (first|(first|(with_reducible refine aA ?_)))
       exact⟨⟨⟨ExtC.h⟩,k+1,lk,by push_cast;rfl,by rw[Hsu.out];simp⟩,by simp[RowKit.intOf];omega⟩
      ·go_wp2_with (first|(with_reducible refine oP (by with_unfolding_all rfl) (by with_unfolding_all rfl) (by infer_instance) ?_)|(first|(with_reducible refine aA ?_)))
       exact⟨⟨⟨ExtC.h⟩,k+1,lk,by push_cast;rfl,by rw[Hsu.out];simp⟩,by simp[RowKit.intOf];omega⟩
     ·obtain rfl:k=s.codes.length:=by omega
      rw[pE];go_wp2_with (first|(with_reducible refine aD ?_;intro V g _ _ _)|(with_reducible refine bR ?_;intro _ _ V hR _))
      exact⟨⟨⟨ExtC.h⟩,.inr ⟨rfl,_,_,rfl,hR⟩⟩,by simp[RowKit.intOf]⟩
  ·obtain⟨g,rfl⟩:=vS hRo (by omega)
   have hL:ListV wr (.slice (some ⟨g,0,none⟩) 1 c2) [S (s.wordL ⟨(c:Int),(o:Int)⟩)]:=hRo.list rfl rfl rfl;have i3:ListC ByteArray wr (.slice (some ⟨g,0,none⟩) 1 c2) [S (s.wordL ⟨(c:Int),(o:Int)⟩)]:=⟨hL⟩;have hl9:=Hwl.out s.codes.length (Nat.le_refl _);rw[pE] at hl9;have i4:JoinE [S (s.wordL ⟨(c:Int),(o:Int)⟩)] (S (s.wordL ⟨(c:Int),(o:Int)⟩)):=⟨by simp[Rules.joinW,nS];omega,by simp[Rules.joinW,nS]⟩
   go_wp2_with (first|(with_reducible refine aB ?_;first|rintro _ V ⟨rfl,(_:StepC _ _)⟩))
   go_ret2
   exact⟨rfl,⟨ExtC.h⟩⟩
instance{W:World}{v:Value}{s:Sys}{g:Nat}{xc xo:Int}{t:ByteArray}[h:SysC W v s][hB:BlkC W g 74 [.int .i64 xc,.int .i64 xo]][q:WriteE s ⟨xc,xo⟩ t]:FunC Tryz.prog 203 #[v,.slice (some ⟨g,0,none⟩) 1 1] W (RTxI W t 0):=⟨by
 rw[←q.h.2.2];exact Bt s v g xc xo W h.h ⟨hB.h⟩ q.h.1 q.h.2.1⟩
end Go.Rg
end
