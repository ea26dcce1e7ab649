import Derived.Test.YtbfbepnkofampaaGreatDoorXPX08
set_option maxRecDepth 100000
set_option synthInstance.maxSize 2000
set_option synthInstance.maxHeartbeats 400000
set_option maxHeartbeats 8000000
set_option linter.all false
section
namespace Go.Rg
open Go Go.Bp Go.RowKit Go.Walk Go.Proofs
abbrev RRead(W:World)(b:Int)(l:List Event)(n:Int)(e:Ending)(W':World):Prop:=∃A c,e=.returned (.tuple #[.agg #[.int .i64 b,.slice A l.length c],.int .i64 n])∧ListB Event W' (.slice A l.length c) l∧StepC W W'
theorem zI(g4 g5:Nat)(a4 b4 a5:Value)(e:Int)(w:World)(h4:BlkC w g4 31 [a4,b4])(h5:BlkC w g5 32 [a5]):
 CallsD Tryz.prog 82 #[.pointer (some ⟨g4,0,none⟩),.pointer (some ⟨g5,0,none⟩)] (.panicking (errForm e)) w fun o u' w'=>
  o=.returned (.tuple #[])∧u'=.panicking [{v:=.iface 32 (.int .i64 e),recovered:=true}]∧Blk w' g4 31 #[.int .i64 0,.slice none 0 0]∧Blk w' g5 32 #[.int .i64 e]∧∀v0:World,Ext v0 w→v0.heap.size≤g4→v0.heap.size≤g5→Ext v0 w':=by
 have n45:g4≠g5:=fun h=>by subst h;have h1:=h4.h;have h2:=h5.h;unfold Blk at h1 h2;rw[h1] at h2;injection h2 with h2;injection h2 with _ h2;cases h2
 refine callsD_of_wpS Tryz.func82 rfl fun c₀ cs hu=> ?_
 apply wpS_seq;apply wpS_region;simp[wpOpsS,go_sem,recoverD,hu,errForm,Tryz.ntmps82,Exit.thenS];apply wpS_seq;apply wpS_region;simp[wpOpsS,go_sem,Tryz.ntmps82,Exit.thenS];refine wpS_cond (t:=true) (by simp[Act.eval,Array.replicate]) ?_
 simp only[if_true];apply wpS_of_wp;have hta:=fun W=>tassert e W
 have ne1:NeC g4 g5:=⟨n45⟩;have ne2:NeC g5 g4:=⟨n45.symm⟩;simp only[List.size_toArray,List.length_cons,List.length_nil,Nat.reduceAdd,Nat.reduceSub,Array.replicate_succ,Array.replicate_zero,List.push_toArray,List.append_toArray,List.nil_append,List.cons_append,List.setIfInBounds_toArray,List.set_cons_zero,List.set_cons_succ];refine gM ?_;refine dA ((.take 0 (.take 1 (.take 2 (.one 3 (.one 4 .nil)))))) (fun _=>True) trivial (fun hHd=> ?_) (hQ:=by intro _ _ _ _ _ h;exact absurd h.1 (fun e=>by cases e))
 repeat' first|((with_reducible refine aX ?_);(first|(refine tk (v:= ?_) ?_ hHd ?_;rotate_left;(·(intro wq hSw;go_simp;(try with_reducible rfl)))));(try simp only[pS]))|((with_reducible refine bC ?_);refine aQ (by simp only[gS];rfl) ?_)|(with_reducible refine aI ?_;intro Vs hS hSB)|((with_reducible refine bD ?_);clear hHd;refine aM trivial (fun hHd=> ?_);(try simp only[pS]))|(with_reducible refine aF ?_)
 all_goals
  refine⟨rfl,?_⟩;refine⟨rfl,_,rfl,.tuple #[],by simp[results,Tryz.results82],rfl,rfl,(inferInstance:BlkC Vs g4 31 [.int .i64 0,.slice none 0 0]).h,(inferInstance:BlkC Vs g5 32 [.int .i64 e]).h,fun v0 hv l4 l5=> ?_⟩
  have c1:StepC v0 w:=⟨hv⟩;have c2:AtC v0 g4:=⟨l4⟩;have c3:AtC v0 g5:=⟨l5⟩;exact ExtC.h
def readDefer(g4 g5:Nat):List Deferred:=[{target:=.fn (.func 82) #[.pointer (some ⟨g4,0,none⟩),.pointer (some ⟨g5,0,none⟩)],args:=#[]}]
theorem tT{a:Array Value}{g4 g5:Nat}{w:World}{u v:Value}{e:Int}(h4:a.getD 4 undef=.pointer (some ⟨g4,0,none⟩))(h5:a.getD 5 undef=.pointer (some ⟨g5,0,none⟩))(hB4:Blk w g4 31 #[u,v])(hB5:Blk w g5 32 #[.int .i64 e]):
 (results Tryz.f40 a).run Tryz.prog w=.ok (.tuple #[.agg #[u,v],.int .i64 e]) w:=by
 have i4:BlkC w g4 31 [u,v]:=⟨hB4⟩;have hl4:(loadVar 31 ⟨g4,0,none⟩).run Tryz.prog w=.ok (.agg #[u,v]) w:=(inferInstance:LoadC Tryz.prog w 31 ⟨g4,0,none⟩ (.agg [u,v].toArray)).h;have hl5:(loadVar 32 ⟨g5,0,none⟩).run Tryz.prog w=.ok (.int .i64 e) w:=jB (ScalT.h (P:=Tryz.prog) (t:=32)) (by simpa using hB5.cell 0)
 have h4':a[4]?.getD undef=.pointer (some ⟨g4,0,none⟩):=by simpa [Array.getD_eq_getD_getElem?] using h4
 have h5':a[5]?.getD undef=.pointer (some ⟨g5,0,none⟩):=by simpa [Array.getD_eq_getD_getElem?] using h5
 simp[results,Tryz.results40,h4',h5',asAddr,hl4,hl5,Result.andThen,Sem.run_bind]
theorem Ef{v0 w:World}{g4 g5:Nat}{a4 b4 a5:Value}{e:Int}{a:Act}(hd:a.defers=readDefer g4 g5)(h4:a.tmps.getD 4 undef=.pointer (some ⟨g4,0,none⟩))(h5:a.tmps.getD 5 undef=.pointer (some ⟨g5,0,none⟩))
 (i4:BlkC w g4 31 [a4,b4])(b5:BlkC w g5 32 [a5])(hE:Ext v0 w)(l4:AtC v0 g4)(l5:AtC v0 g5):
 bodyPostD Tryz.prog Tryz.f40 (RRead v0 0 [] e) (.panic (errForm e)) a w:=by
 show Leaves Tryz.prog Tryz.f40 a.tmps _ a.defers (.panicking (errForm e)) w
 rw[hd];refine leaves_cons (f:=82) (args:=#[.pointer (some ⟨g4,0,none⟩),.pointer (some ⟨g5,0,none⟩)]) (by simp) (by simp[go_sem]) ?_
 refine(zI g4 g5 _ _ _ e w i4 b5).mono ?_;rintro o u' w'' ⟨rfl,rfl,h4',h5',hn⟩;show Leaves Tryz.prog Tryz.f40 a.tmps _ [] .returning w''
 exact⟨_,tT h4 h5 h4' h5',⟨none,0,rfl,⟨ListV.nil⟩,⟨hn v0 hE l4.h l5.h⟩⟩⟩
class CutE (s sep:ByteArray) (a b:outParam ByteArray) (f:outParam Bool):Prop where h:s.size<4294967281∧∃x y,Lib.cut s.data.toList sep.data.toList=(x,y,f)∧S x=a∧S y=b
instance{W:World}{s sep a b:ByteArray}{f:Bool}[hv:EnvC W][q:CutE s sep a b f]:FunC Tryz.prog 83 #[.string s,.string sep] W (fun e w'=>e=.returned (.tuple #[.string a,.string b,.bool f])∧StepC W w'):=⟨by
 obtain⟨h1,x,y,h2,rfl,rfl⟩:=q.h;obtain⟨m,hm⟩:=hv.h.maxLen;refine(Tryz.strings_Cut s sep m W h1 hm).mono ?_;rintro e w' ⟨rfl,n,rfl⟩;rw[h2];exact⟨rfl,⟨(Ext.refl _).drewN n⟩⟩⟩
class PrefE (s p:ByteArray) (a:outParam ByteArray) (f:outParam Bool):Prop where h:S (Lib.trimPrefix s.data.toList p.data.toList)=a∧Lib.hasPrefix s.data.toList p.data.toList=f
instance{W:World}{s p a:ByteArray}{f:Bool}[q:PrefE s p a f]:FunC Tryz.prog 84 #[.string s,.string p] W (fun e w'=>e=.returned (.tuple #[.string a,.bool f])∧StepC W w'):=⟨by
 refine(Tryz.strings_CutPrefix s p W).mono ?_;rintro e w' ⟨rfl,rfl⟩;rw[q.h.2];exact⟨by rw[←q.h.1];rfl,⟨Ext.refl _⟩⟩⟩
class ReadNoE (r:Rules) (t:ByteArray):Prop where h:r.check.2.2=0∧t.size≤6000∧(Lib.cut t.data.toList [10]).2.2=false
theorem Gk(r:Rules)(v:Value)(t:ByteArray)(w:World)(h:RulesV w v r)(hv:EnvC w)(q:ReadNoE r t):Calls Tryz.prog 40 #[v,.string t] w (RRead w 0 [] 6):=by
 obtain⟨A1,n1,c1,A2,n2,c2,A3,n3,c3,rfl⟩:=h.form;have i1:=RulesB.mk h;have i0:=EnvB.mk hv.h;obtain⟨hck,hs,hn⟩:=q.h;have i2:=RChkE.mk (jT hck);have i3:CutE t ⟨#[10]⟩ (S (Lib.cut t.data.toList [10]).1) (S (Lib.cut t.data.toList [10]).2.1) false:=⟨by omega,_,_,by rw[←hn],rfl,rfl⟩
 obtain⟨C1,hC1⟩:∃x,S (Lib.cut t.data.toList [10]).1=x:=⟨_,rfl⟩;obtain⟨C2,hC2⟩:∃x,S (Lib.cut t.data.toList [10]).2.1=x:=⟨_,rfl⟩;rw[hC1,hC2] at i3;obtain⟨P1,hP1⟩:∃x,S (Lib.trimPrefix C1.data.toList [98,111,114,110,32])=x:=⟨_,rfl⟩;obtain⟨P2,hP2⟩:∃x,Lib.hasPrefix C1.data.toList [98,111,114,110,32]=x:=⟨_,rfl⟩;have i4:PrefE C1 ⟨#[98,111,114,110,32]⟩ P1 P2:=⟨hP1,hP2⟩;have q1:decide ((t.size:Int)>6000)=false:=by simp;omega
 clear hv q hck hn hC1 hC2 hP1 hP2;go_enter_defers Tryz.func40,Tryz.ntmps40
 go_wp2_with (first|(with_reducible refine aH (d:=some 2) ?_;intro V2 g2 hE2 hB2 hA2)|(with_reducible refine aR (d:=some 4) ?_;intro V4 g4 hE4 hB4 hA4)|(with_reducible refine aR (d:=some 5) ?_;intro V5 g5 hE5 hB5 hA5)|(with_reducible refine aI ?_;intro Vs hS hSB)|(first|(with_reducible refine aA ?_)|(with_reducible refine aB ?_;first|rintro _ V ⟨rfl,(_:StepC _ _)⟩))|(go_at_call 85;refine(qK _ _).mono ?_;rintro _ Vm ⟨rfl,rfl⟩))
 show bodyPostD _ _ _ (.panic (errForm 6)) _ _
 exact Ef (g4:=g4) (g5:=g5) rfl rfl rfl (by infer_instance) (by infer_instance) ExtC.h (AtC.up hA4) (AtC.up hA5)
instance(priority:=500){W:World}{v:Value}{r:Rules}{t:ByteArray}[h:RulesC W v r][hv:EnvC W][q:ReadNoE r t]:FunC Tryz.prog 40 #[v,.string t] W (RRead W 0 [] 6):=⟨Gk r v t W h.h hv q⟩
class BansE (r:Rules) (p:Person) (l:outParam (List Span)) (n:outParam Int):Prop where h:r.bansAns p=(l,n)
theorem Dt{W B:World}{g n c:Nat}{l:List Span}(h:RowC W (.slice (some ⟨g,0,none⟩) n c) B 95 2 n (encL l))(hn:n=l.length){i:Nat}(hi:i<l.length):Cells W ⟨g,i*2,none⟩ (Enc.enc l[i]):=by
 obtain⟨a1,e1,c1⟩:=(h.list (l:=l) rfl rfl hn).elem hi;injection e1 with e1
 subst e1;rw[addr0] at c1;exact c1
theorem Rl{ls:List Span}(h:ls.Pairwise fun a b=>0≤cmpL [b.lo] [a.lo]):ls.Pairwise fun a b=>a.lo≤b.lo:=h.imp fun{a b}h=>by
 simp only[cmpL] at h;by_cases h1:b.lo<a.lo
 ·rw[if_pos h1] at h;omega
 ·omega
theorem yM(r:Rules)(p:Person)(v pv:Value)(l:List Span)(n:Int)(w:World)(h:RulesV w v r)(hp:PersonV w pv p)(hs:r.bansAns p=(l,n)):Calls Tryz.prog 22 #[v,pv] w (RLR 95 w l n):=by
 obtain⟨A1,n1,c1,A2,n2,c2,A3,n3,c3,rfl⟩:=h.form;obtain⟨A,c,rfl,hl⟩:=hp.h;have i1:=RulesB.mk h;have i2:=PersonB.mk hp;unfold Rules.bansAns at hs;by_cases hz:r.personErr p=0
 ·rw[if_neg (by simp[hz])] at hs
  injection hs with m1 m2
  subst m1 m2;have i3:PersOk r p:=⟨hz⟩;obtain⟨hbo,hbl⟩:=Nx hz;have hbl2:(courts (sortE p.events)).length+(r.offs (sortE p.events)).bans.length≤60:=by simpa [Rules.bansOf] using hbl
  have Hbo:=Lib.hid hbo;obtain⟨R,hRR⟩:∃R,runsTo (r.bansOf (sortE p.events)) 40001=R:=⟨_,rfl⟩;rw[hRR];clear hz hbo;go_enter Tryz.func22,Tryz.ntmps22
  go_wp2_with (first|(with_reducible refine aB ?_;rintro _ Vo ⟨gf,gt,Ae,ce,Ac,cc,Ap,cp,Ag,cg,tkn,rfl,(_:BlkC _ _ _ _),(_:RowC _ _ _ _ _ _ _),(_:RowC _ _ _ _ _ _ _),(_:RowC _ _ _ _ _ _ _),(_:RowC _ _ _ _ _ _ _),(_:MapC _ _ _ _),hTk,hagf,hagt,(_:StepC _ _)⟩)|(first|(with_reducible refine aA ?_)|(with_reducible refine aH ?_;intro V g _ _ _)))
  have iP:=ListB.mk ((inferInstance:RowC Vo (.slice Ap (r.offs (sortE p.events)).bans.length cp) _ 95 2 _ _).list rfl rfl rfl);refine dA ((.take 0 (.take 1 (.take 2 (.take 3 (.take 4 (.take 5 (.take 6 (.take 7 (.one 8 (.take 9 .nil))))))))))) (fun w'=>Ext w w'∧Blk w' gf 121 #[.slice A1 n1 c1,.slice A2 n2 c2,.slice A3 n3 c3,.int .i64 r.limit,.int .i64 r.fall,.int .i64 r.ban,.int .i64 p.born,.slice Ae (sortE p.events).length ce,.slice Ac (courts (sortE p.events)).length cc,.slice Ap (r.offs (sortE p.events)).bans.length cp,.map (some gt),.slice Ag (r.grants p.born (sortE p.events)).length cg]) ?_ (fun hHd=> ?_) (hQ:=by intro _ _ _ _ _ h;exact h)
  ·exact⟨ExtC.h,(inferInstance:BlkC _ gf 121 _).h⟩
  repeat' first|((with_reducible refine aX ?_);(first|(refine tk (v:= ?_) ?_ hHd ?_;rotate_left;(·(intro W' h;obtain⟨h,ha⟩:=h;have:=StepC.mk h;have i6:BlkC W' gf 121 [.slice A1 n1 c1,.slice A2 n2 c2,.slice A3 n3 c3,.int .i64 r.limit,.int .i64 r.fall,.int .i64 r.ban,.int .i64 p.born,.slice Ae (sortE p.events).length ce,.slice Ac (courts (sortE p.events)).length cc,.slice Ap (r.offs (sortE p.events)).bans.length cp,.map (some gt),.slice Ag (r.grants p.born (sortE p.events)).length cg]:=⟨ha⟩;first|with_reducible exact aJ)))|(refine tk (v:= ?_) ?_ hHd ?_;rotate_left;(·(intro wq hSw;go_simp;(try with_reducible rfl)))));(try simp only[pS]))|((with_reducible refine bC ?_);refine aQ (by simp only[gS];rfl) ?_)|(with_reducible refine kK ?_;intro A9 c9 Va hR hG)|((with_reducible refine bD ?_);clear hHd;refine aM ⟨ExtC.h,(inferInstance:BlkC _ gf 121 _).h⟩ (fun hHd=> ?_);(try simp only[pS]))|(with_reducible refine aF ?_)
  have el:(courts (sortE p.events)).length+(r.offs (sortE p.events)).bans.length=(r.bansOf (sortE p.events)).length:=by simp[Rules.bansOf]
  have hR2:=hR;have ea:encL (courts (sortE p.events))++encL (r.offs (sortE p.events)).bans=encL (r.bansOf (sortE p.events)):=(Walk.encL_app _ _).symm;rw[el,ea] at hR2;rw[el];obtain⟨all,hall⟩:∃a,r.bansOf (sortE p.events)=a:=⟨_,rfl⟩;rw[hall] at hR2 hbl Hbo⊢;have jL:LtC all.length:=⟨by omega⟩
  clear hR el ea hbl2;go_wp2_with (first|(with_reducible refine aB ?_;rintro _ Vq ⟨ls,rfl,hls,hRs,(_:GrowC _ _ _ _)⟩))
  have hlen:all.length=ls.length:=hls.1.length_eq.symm;have hjo:joinS [] ls=runsTo all 40001:=Dk (Rl hls.2) (fun s=>hls.1.mem_iff) Hbo.out
  have hlb:∀s∈ls,0≤s.lo∧s.lo≤s.hi∧s.hi≤40000:=fun s hs=>Hbo.out s (hls.1.mem_iff.1 hs)
  rw[hlen] at hRs hbl⊢;have hLs:=hRs.list (l:=ls) rfl rfl rfl;have hcap:=hLs.caps;have hX0:Ext w Vq:=ExtC.h;rw[←hall,hRR] at hjo;clear hall;have Hlb:=Lib.hid hlb;clear hlb hlen hls Hbo hRR;go_loopw [33,4] (fun iv lv wr=>StepC Vq wr∧∃(k:Nat)(o:List Span)(Ao:Option Addr)(co:Nat),k≤ls.length∧iv=.int .i64 k∧lv=.slice Ao o.length co∧RowC wr (.slice Ao o.length co) Vq 95 2 o.length (encL o)∧o.length≤k∧joinS o (ls.drop k)=R∧∀s∈o,0≤s.lo∧s.hi≤40000∧s.lo≤s.hi) (fun iv _ _=>ls.length-(RowKit.intOf iv).toNat)
  case atStart=>exact⟨⟨ExtC.h⟩,0,[],none,0,by omega,rfl,rfl,RowC.nil,by simp,hjo,by simp⟩
  case round=>
   obtain⟨_,k,o,Ao,co,hk,rfl,rfl,hRo,hok,hjk,hob⟩:=hrel;by_cases lk:k<ls.length
   ·obtain⟨ad,rfl,hc⟩:=hLs.elem lk;have hlk:=Hlb.out _ (List.getElem_mem lk);rw[List.drop_eq_getElem_cons lk] at hjk;obtain⟨⟨lo,hi⟩,hx⟩:∃x,ls[k]=x:=⟨_,rfl⟩;rw[hx] at hc hjk hlk;simp only at hlk;have i9:CellsB Vq (ad.add (k*2)) [.int .i64 lo,.int .i64 hi]:=⟨hc⟩;have zk:IntKind.i64.wrap ((k:Int)+1)=(k:Int)+1:=IntWalk.i64_in _ (by omega)
    have Hob:=Lib.hid hob;clear hc hx hob;rcases List.eq_nil_or_concat o with rfl|⟨q,t,ho⟩
    ·rw[Am] at hjk;have Hjk:=Lib.hid hjk;clear hjk;simp only[List.length_nil] at hRo⊢;have z0:IntKind.i64.wrap (((0:Nat):Int)-1)= -1:=by decide
     go_wp2_with (first|(with_reducible refine aG (uu:=9) ?_;intro V9 g9 hE9 hB9 hA9)|(first|(with_reducible refine aA ?_)))
     refine aP ((.take 0 (.take 1 (.take 2 (.take 3 (.take 4 (.take 5 (.take 6 (.take 7 (.take 8 (.take 9 (.take 10 (.take 11 (.take 12 .nil)))))))))))))) (fun hHd=> ?_) (hQ:=by intro _ _ _ _ _ h;exact h)
     repeat' first|((with_reducible refine aX ?_);(first|(refine tk (v:= ?_) ?_ hHd ?_;rotate_left;(·(intro wq hSw;go_simp;(try with_reducible rfl))))|(refine ts hHd ?_));(try simp only[pS]))|(with_reducible refine aF ?_)
     all_goals
      go_wp2_with (first|(with_reducible refine aA ?_)|(with_reducible refine aD ?_;intro V g _ _ _)|(with_reducible refine bR ?_;intro _ _ V hR _))
      exact⟨⟨⟨ExtC.h⟩,k+1,[⟨lo,hi⟩],_,_,lk,by push_cast;rfl,rfl,hR,by simp,Hjk.out,by simp;omega⟩,by simp[RowKit.intOf];omega⟩
    ·rw[List.concat_eq_append] at ho;subst ho;rw[Ff] at hjk;have htb:=Hob.out t (by simp)
     have hqb:=Lib.hid (show∀s∈q,0≤s.lo∧s.hi≤40000∧s.lo≤s.hi from fun s hs=>Hob.out s (by simp[hs]))
     simp only[List.length_append,List.length_cons,List.length_nil,Nat.zero_add] at hRo hok⊢;obtain⟨g,rfl⟩:=vS hRo (by omega)
     have hel:=Dt (l:=q++ [t]) hRo (by simp) (i:=q.length) (by simp)
     have hcl:wr.cell? ⟨g,q.length*2+1,none⟩=some (.int .i64 t.hi):=by
      have:=hel 1 (.int .i64 t.hi) (by simp[Enc.enc])
      rwa [addr1] at this
     have i8:=CellB.mk hcl;obtain⟨b,hb⟩:∃b,decide (lo≤t.hi+1)=b:=⟨_,rfl⟩;have z1:IntKind.i64.wrap (q.length:Int)=(q.length:Int):=IntWalk.i64_in _ (by omega)
     have z2:IntKind.i64.wrap ((q.length:Int)+1-1)=(q.length:Int):=by rw[Int.add_sub_cancel];exact z1
     have z3:IntKind.i64.wrap (t.hi+1)=t.hi+1:=IntWalk.i64_in _ (by omega)
     have z4:((q.length:Int)≥0):=by omega
     have z5:((q.length:Int)<(q.length:Int)+1):=by omega
     have hRq:=hRo;have e2:(lo≤t.hi+1)=(b=true):=by rw[←hb];simp
     simp only[e2] at hjk;have Hjk:=Lib.hid hjk;have Htb:=Lib.hid htb;clear hjk hel hcl e2 htb
     cases b
     ·go_wp2_with (first|(with_reducible refine aG (uu:=9) ?_;intro V9 g9 hE9 hB9 hA9)|(first|(with_reducible refine aA ?_)))
      refine aP ((.take 0 (.take 1 (.take 2 (.take 3 (.take 4 (.take 5 (.take 6 (.take 7 (.take 8 (.take 9 (.take 10 (.take 11 (.take 12 .nil)))))))))))))) (fun hHd=> ?_) (hQ:=by intro _ _ _ _ _ h;exact h)
      repeat' first|((with_reducible refine aX ?_);(first|(refine tk (v:= ?_) ?_ hHd ?_;rotate_left;(·(intro wq hSw;go_simp;(try with_reducible rfl))))|(refine tw (v:= ?_) ?_ hHd ?_;rotate_left;(·(intro W' h;have:=StepC.mk h;first|with_reducible exact aJ)))|(refine tw (v:= ?_) ?_ hHd ?_;rotate_left;(·(intro wq hSw;go_simp;(try with_reducible rfl)))));(try simp only[pS]))|(with_reducible refine aF ?_)
      all_goals
       (try simp only[hb])
       go_wp2_with (first|(with_reducible refine aA ?_)|(with_reducible refine aD ?_;intro V g _ _ _)|(with_reducible refine bR ?_;intro _ _ V hR _))
       have el2:(q++ [t]++ [(⟨lo,hi⟩:Span)]).length=q.length+1+1:=by simp
       have Ht:=Htb.out;exact⟨⟨⟨ExtC.h⟩,k+1,q++ [t]++ [⟨lo,hi⟩],_,_,lk,by push_cast;rfl,by rw[el2],by rw[el2,Walk.encL_snoc];exact hR,by simp;omega,by simpa using Hjk.out,fun s hs=>by
        rcases List.mem_append.1 hs with hs|hs
        ·exact Hob.out s hs
        ·rw[List.mem_singleton] at hs;subst hs;simp only;omega⟩,by simp[RowKit.intOf];omega⟩
     ·go_wp2_with (first|(with_reducible refine aG (uu:=9) ?_;intro V9 g9 hE9 hB9 hA9)|(first|(with_reducible refine aA ?_)))
      refine aP ((.take 0 (.take 1 (.take 2 (.take 3 (.take 4 (.take 5 (.take 6 (.take 7 (.take 8 (.take 9 (.take 10 (.take 11 (.take 12 .nil)))))))))))))) (fun hHd=> ?_) (hQ:=by intro _ _ _ _ _ h;exact h)
      repeat' first|((with_reducible refine aX ?_);(first|(refine tk (v:= ?_) ?_ hHd ?_;rotate_left;(·(intro wq hSw;go_simp;(try with_reducible rfl))))|(refine tw (v:= ?_) ?_ hHd ?_;rotate_left;(·(intro W' h;have:=StepC.mk h;first|with_reducible exact aJ)))|(refine tw (v:= ?_) ?_ hHd ?_;rotate_left;(·(intro wq hSw;go_simp;(try with_reducible rfl)))));(try simp only[pS]))|(with_reducible refine aF ?_)
      all_goals
       (try simp only[hb])
       go_wp2
       refine dA ((.take 0 (.take 1 (.take 2 (.take 3 (.take 4 (.take 5 (.take 7 (.take 8 (.one 6 (.take 9 (.take 10 (.take 11 (.one 12 .nil)))))))))))))) (fun w'=>Ext Vq w'∧Blk w' g9 95 #[.int .i64 lo,.int .i64 hi]) ?_ (fun hHd=> ?_) (hQ:=by intro _ _ _ _ _ h;exact h)
       ·exact⟨ExtC.h,(inferInstance:BlkC _ g9 95 _).h⟩
       repeat' first|((with_reducible refine aX ?_);(first|(refine tk (v:= ?_) ?_ hHd ?_;rotate_left;(·(intro W' h;obtain⟨h,hb9⟩:=h;have:=StepC.mk h;have i9:BlkC W' g9 95 [.int .i64 lo,.int .i64 hi]:=⟨hb9⟩;first|with_reducible exact aJ)))|(refine tk (v:= ?_) ?_ hHd ?_;rotate_left;(·(intro wq hSw;go_simp;(try with_reducible rfl)))));(try simp only[pS]))|((with_reducible refine bC ?_);refine aQ (by simp only[gS];rfl) ?_)|(with_reducible refine aA ?_)|(refine Eb (off:=q.length*2+1) (v:=.int .i64 (max t.hi hi)) (inferInstance:RowC _ (.slice (some ⟨g,0,none⟩) (q.length+1) co) Vq 95 2 (q.length+1) (encL (q++ [t]))) ?_;intro Vs hRs hGs)|((with_reducible refine bD ?_);clear hHd;refine aM ⟨ExtC.h,(inferInstance:BlkC _ g9 95 _).h⟩ (fun hHd=> ?_);(try simp only[pS]))|(with_reducible refine aF ?_)
       all_goals
        go_wp2
        have el2:(q++ [(⟨t.lo,max t.hi hi⟩:Span)]).length=q.length+1:=by simp
        have Ht:=Htb.out;exact⟨⟨⟨ExtC.h⟩,k+1,q++ [⟨t.lo,max t.hi hi⟩],_,_,lk,by push_cast;rfl,by rw[el2],by rw[el2,←Kj];exact hRs,by simp;omega,by simpa using Hjk.out,fun s hs=>by
         rcases List.mem_append.1 hs with hs|hs
         ·exact hqb.out s hs
         ·rw[List.mem_singleton] at hs;subst hs;simp only;omega⟩,by simp[RowKit.intOf];omega⟩
   ·obtain rfl:k=ls.length:=by omega
    rw[List.drop_length,Kd] at hjk;subst hjk;go_wp2
    go_ret2
    exact⟨Ao,co,Vq,rfl,inferInstance,⟨ExtC.h⟩⟩
 ·rw[if_pos hz] at hs;injection hs with m1 m2
  subst m1 m2;have i3:PersBad r p _:=⟨rfl,hz⟩;have q:(r.personErr p !=0)=true:=by simpa using hz
  obtain⟨er,her⟩:∃e,r.personErr p=e:=⟨_,rfl⟩;rw[her] at i3 q⊢;clear hz her;go_enter Tryz.func22,Tryz.ntmps22
  go_wp2_with (first|(with_reducible refine aA ?_)|(with_reducible refine aB ?_;first|rintro _ V ⟨rfl,(_:StepC _ _)⟩)|(with_reducible refine aH ?_;intro V g _ _ _))
  go_ret2
  exact⟨none,0,w,rfl,RowC.nil,⟨ExtC.h⟩⟩
theorem Ls(r:Rules)(p:Person)(v pv:Value)(l:List Span)(n:Int)(w:World)(h:RulesV w v r)(hp:PersonV w pv p)(hs:r.bansAns p=(l,n)):Calls Tryz.prog 22 #[v,pv] w (RLI w l n):=by
 refine(yM r p v pv l n w h hp hs).mono ?_;rintro e W' ⟨A,c,B,rfl,hR,hS⟩;exact⟨A,c,rfl,⟨hR.list rfl rfl rfl⟩,hS⟩
instance{W:World}{v pv:Value}{r:Rules}{p:Person}{l:List Span}{n:Int}[h:RulesC W v r][hp:PersonC W pv p][q:BansE r p l n]:FunC Tryz.prog 22 #[v,pv] W (RLI W l n):=⟨Ls r p v pv l n W h.h hp.h q.h⟩
end Go.Rg
end
