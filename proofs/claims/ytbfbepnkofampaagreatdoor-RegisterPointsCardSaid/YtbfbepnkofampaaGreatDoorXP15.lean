import Derived.Test.YtbfbepnkofampaaGreatDoorXP14
set_option maxRecDepth 100000
set_option synthInstance.maxSize 2000
set_option synthInstance.maxHeartbeats 400000
set_option maxHeartbeats 8000000
set_option linter.all false
section
namespace Go.Rg
open Go Go.Bp Go.RowKit Go.Walk Go.Proofs
def ofL(kind:Int)(l:List Event):List (Nat×Event):=(l.zipIdx.filter fun p=>decide (p.1.kind=kind)).map fun p=>(p.2,p.1)
theorem Cv(kind:Int)(l m:List Event):ofL kind (l++m)=ofL kind l++((m.zipIdx l.length).filter fun p=>decide (p.1.kind=kind)).map fun p=>(p.2,p.1):=by
 unfold ofL;rw[List.zipIdx_append,List.filter_append,List.map_append];simp
theorem Ji{kind:Int}{l:List Event}{k:Nat}(hk:k<l.length):ofL kind (l.take (k+1))=ofL kind (l.take k)++if l[k].kind=kind then [(k,l[k])] else []:=by
 rw[List.take_succ_eq_append_getElem hk,Cv];congr 1
 have:(l.take k).length=k:=by rw[List.length_take];omega
 rw[this];by_cases h:l[k].kind=kind<;>simp[h]
theorem Mn(kind:Int)(l:List Event)(k:Nat):∃r,ofL kind l=ofL kind (l.take k)++r:=by
 have:=Cv kind (l.take k) (l.drop k);rw[List.take_append_drop] at this;exact⟨_,this⟩
theorem dK(kind:Int)(l:List Event):(ofL kind l).map Prod.snd=l.filter fun x=>decide (x.kind=kind):=by
 unfold ofL;rw[List.map_map];have:∀(m:List Event)(n:Nat),((m.zipIdx n).filter fun p=>decide (p.1.kind=kind)).map (Prod.snd∘fun p:Event×Nat=>(p.2,p.1))=m.filter fun x=>decide (x.kind=kind):=by
  intro m;induction m with
  |nil=>intro n;rfl
  |cons x m ih=>
   intro n;rw[List.zipIdx_cons,List.filter_cons,List.filter_cons];by_cases h:x.kind=kind
   ·simp only[h,decide_true,if_true,List.map_cons,ih];rfl
   ·simp only[h,decide_false,Bool.false_eq_true,if_false,ih]
 exact this l 0
theorem oV(kind:Int)(l:List Event):(ofL kind l).length≤l.length:=by
 have:=congrArg List.length (dK kind l);rw[List.length_map] at this;rw[this];exact List.length_filter_le _ _
theorem enters_of1:∀(args:Array Value)(W:World),(callFunc 128 args).run Tryz.prog W=.ok (.enter 128 args) W:=enters_of Tryz.func128 (by kernel_rfl) rfl
structure OfSt(g1 g2 gf:Nat)(kind:Int)(A:Option Addr)(c:Nat)(l:List Event)(W:World):Prop where
 p:Blk W g1 115 #[.pointer (some ⟨gf,0,none⟩)]
 k:Blk W g2 3 #[.int .i64 kind]
 f:W.cell? ⟨gf,7,none⟩=some (.slice A l.length c)
 l:ListV W (.slice A l.length c) l
theorem OfSt.ext{g1 g2 gf c:Nat}{kind:Int}{A:Option Addr}{l:List Event}{W W':World}(h:OfSt g1 g2 gf kind A c l W)(e:Ext W W'):OfSt g1 g2 gf kind A c l W':=⟨h.p.ext e,h.k.ext e,e.cell_some h.f,h.l.ext e⟩
theorem OfSt.ctl{g1 g2 gf c:Nat}{kind:Int}{A:Option Addr}{l:List Event}{W W' v0:World}(h:OfSt g1 g2 gf kind A c l W)(e:CtlC W W' v0):OfSt g1 g2 gf kind A c l W':=by
 have i1:BlkC W g1 115 [.pointer (some ⟨gf,0,none⟩)]:=⟨h.p⟩;have i2:BlkC W g2 3 [.int .i64 kind]:=⟨h.k⟩;refine⟨(inferInstance:BlkC W' g1 115 _).h,(inferInstance:BlkC W' g2 3 _).h,?_,yY h.l e⟩;obtain⟨row,h1,h2⟩:=e.h;exact cell_kept h.f h1 (fun r e=>(h2 r e).2)
def encOf(p:Nat×Event):Array Value:=#[.int .i64 p.1,Enc.val p.2]
theorem lI(g1 g2 gf:Nat)(kind:Int)(A:Option Addr)(c:Nat)(l:List Event):SeqG Tryz.prog 128 #[.pointer (some ⟨g1,0,none⟩),.pointer (some ⟨g2,0,none⟩)] (ofL kind l) encOf Ext (fun _ W=>OfSt g1 g2 gf kind A c l W):=by
 intro ly J Jx W hJ hJx hY h0 hs0;show Calls Tryz.prog 128 #[.func (.yield ly) #[] #[],.pointer (some ⟨g1,0,none⟩),.pointer (some ⟨g2,0,none⟩)] W _
 have i1:BlkC W g1 115 [.pointer (some ⟨gf,0,none⟩)]:=⟨hs0.p⟩;have i2:BlkC W g2 3 [.int .i64 kind]:=⟨hs0.k⟩;have i3:=CellB.mk hs0.f;have hcap:=hs0.l.caps;have HJ:=Lib.hid hJ;have HY:=Lib.hid hY;have HS:=Lib.hid hs0;clear hJ hY hs0;go_enter Tryz.func128,Tryz.ntmps128
 obtain⟨hc,hChid⟩:∃f:Nat→Array Oper→Bool→Go.Code,f=Go.Code.region:=⟨_,rfl⟩;rw[show Go.Code.region 3=hc 3 by rw[hChid]]
 have HCh:=Lib.hid hChid;clear hChid;go_wp2_with (first|(with_reducible refine aA ?_))
 go_loopw [11] (fun iv wr=>∃k:Nat,k≤l.length∧iv=.int .i64 k∧J (ofL kind (l.take k)).length wr∧OfSt g1 g2 gf kind A c l wr) (fun iv _=>l.length-(intOf iv).toNat)
 case atStart=>exact⟨0,by omega,rfl,by simpa [ofL] using h0,HS.out⟩
 case round=>
  obtain⟨k,hk,rfl,hJ1,hS1⟩:=hrel;clear h0;by_cases lk:k<l.length
  ·obtain⟨ad,rfl,hc⟩:=hS1.l.elem lk;have hsu:=Ji (kind:=kind) lk;obtain⟨rr,hrr⟩:=Mn kind l (k+1);have hy:=fun(hj:(ofL kind (l.take k)).length<(ofL kind l).length)W1=>HY.out (ofL kind (l.take k)).length hj W1
   obtain⟨⟨ek,ed,⟨ec,eo⟩,et,eq,ep,eu,em⟩,hx⟩:∃x,l[k]=x:=⟨_,rfl⟩;rw[hx] at hc hsu;simp only at hsu;have j1:BlkC wr g1 115 [.pointer (some ⟨gf,0,none⟩)]:=⟨hS1.p⟩;have j2:BlkC wr g2 3 [.int .i64 kind]:=⟨hS1.k⟩;have j3:CellsB wr (ad.add (k*9)) [.int .i64 ek,.int .i64 ed,.int .i64 ec,.int .i64 eo,.int .i64 et,.int .i64 eq,.int .i64 ep,.int .i64 eu,.int .i64 em]:=⟨hc⟩;have zk:IntKind.i64.wrap ((k:Int)+1)=(k:Int)+1:=IntWalk.i64_in _ (by omega)
   have HS1:=Lib.hid (show∀W1,Ext wr W1→OfSt g1 g2 gf kind (some ad) c l W1 from fun W1 h=>hS1.ext h)
   have HJ1:=Lib.hid (show∀W1,Ext wr W1→J (ofL kind (l.take k)).length W1 from fun W1 h=>HJ.out _ _ _ hJ1 h)
   by_cases e:ek=kind
   ·rw[if_pos e] at hsu;have hln:(ofL kind (l.take (k+1))).length=(ofL kind (l.take k)).length+1:=by rw[hsu];simp
    have hjl:(ofL kind (l.take k)).length<(ofL kind l).length:=by rw[hrr,List.length_append,hln];omega
    have hget:(ofL kind l)[(ofL kind (l.take k)).length]'hjl=(k,⟨ek,ed,⟨ec,eo⟩,et,eq,ep,eu,em⟩):=by
     have e1:=hrr.trans (by rw[hsu])
     have:(ofL kind l)[(ofL kind (l.take k)).length]? =some (k,⟨ek,ed,⟨ec,eo⟩,et,eq,ep,eu,em⟩):=by
      rw[e1,List.append_assoc,List.getElem?_append_right (Nat.le_refl _)];simp
     rw[List.getElem?_eq_getElem hjl] at this;exact Option.some.inj this
    have hyy:=hy hjl;rw[hget] at hyy;have Hy:=Lib.hid hyy;have Hln:=Lib.hid hln;have Hjl:=Lib.hid hjl;subst e;clear hc hx hsu hrr hy hyy hJ1 hS1 hln hjl hget;go_wp2_with (first|(first|(with_reducible refine aA ?_)|(with_reducible refine aI ?_;intro V _ _)|(with_reducible refine aR ?_;intro V g _ _ _)))
    have hChid:=HCh.out;clear HCh;subst hChid;refine pX ?_;gi_wp2_with (first|(with_reducible refine Ah ?_)|(with_reducible refine Ce (Hy.out _ (HJ1.out _ ExtC.h) (HS1.out _ ExtC.h)) ?_;rintro _ W5 (⟨rfl,hJ5,hS5⟩|⟨rfl,hJx5⟩);(all_goals refine⟨_,rfl,?_⟩)))
    ·go_wp2
     exact⟨⟨k+1,lk,by push_cast;rfl,by rw[Hln.out];exact hJ5,hS5⟩,by simp[intOf];omega⟩
    ·go_wp2
     (first|refine bodyPost_ret (results_none rfl _ _ _) (by rfl) ?_)
     exact⟨⟨_,rfl⟩,.inr ⟨_,Hjl.out,hJx5⟩⟩
   ·rw[if_neg e,List.append_nil] at hsu;have q1:(ek==kind)=false:=by simpa using e
    have Hsu:=Lib.hid hsu;clear hc hx hsu hrr hy hJ1 hS1 e;go_wp2_with (first|(first|(with_reducible refine aA ?_)|(with_reducible refine aI ?_;intro V _ _)|(with_reducible refine aR ?_;intro V g _ _ _)))
    have hChid:=HCh.out;clear HCh;subst hChid;refine pX ?_;gi_wp2_with (first|(with_reducible refine Ah ?_)|(with_reducible refine And.intro (fun _ h=>(by cases h)) ?_))
    go_wp2
    exact⟨⟨k+1,lk,by push_cast;rfl,by rw[Hsu.out];exact HJ1.out _ ExtC.h,HS1.out _ ExtC.h⟩,by simp[intOf];omega⟩
  ·obtain rfl:k=l.length:=by omega
   rw[List.take_length] at hJ1;go_wp2
   (first|refine bodyPost_end (results_none rfl _ _ _) (by rfl) ?_)
   exact⟨⟨_,rfl⟩,.inl hJ1⟩
instance{W:World}{g:Nat}{k:Int}:FunC Tryz.prog 69 #[.pointer (some ⟨g,0,none⟩),.int .i64 k] W (fun e W'=>∃g1 g2,e=.returned (.func (.func 128) #[] #[.pointer (some ⟨g1,0,none⟩),.pointer (some ⟨g2,0,none⟩)])∧BlkC W' g1 115 [.pointer (some ⟨g,0,none⟩)]∧BlkC W' g2 3 [.int .i64 k]∧AtC W g1∧AtC W g2∧StepC W W'):=⟨Pz g k W⟩
end Go.Rg
end
section
namespace Go.Rg
open Go Go.Bp Go.RowKit Go.Walk Go.Proofs
structure Pair2(t:TypeId)(k1:TypeDesc)(t0 t1:TypeId):Prop where
 und:Tryz.prog.underlying t=some (.struct (Tryz.prog.fieldsOf t))
 eqg:Tryz.prog.eqGuardType Tryz.prog.depth t=false
 sto:Tryz.prog.stoodInHeld t=false
 fld:∃n0 n1,(Tryz.prog.fieldsOf t).toList.map (fun f=>(f.name,f.type,f.offset))=[(n0,t0,0),(n1,t1,1)]∧n0≠ "_" ∧n1≠ "_"
 u0:Tryz.prog.underlying t0=some (.int .i64)
 u1:Tryz.prog.underlying t1=some k1
theorem mM{t t0 t1:TypeId}(h:Pair2 t (.int .i64) t0 t1)(w:World)(n:Nat)(a b a' b':Int):
 (Op.equalIn (n+2) t (.agg #[.int .i64 a,.int .i64 b]) (.agg #[.int .i64 a',.int .i64 b'])).run Tryz.prog w=.ok (decide (a=a'∧b=b')) w:=by
 rw[run_equalIn_struct w (n+1) t _ _ h.und h.sto];obtain⟨n0,n1,hf,m0,m1⟩:=h.fld;generalize (Tryz.prog.fieldsOf t).toList=l at hf⊢;have hl:l.length=2:=by have:=congrArg List.length hf;simpa using this
 obtain⟨f0,f1,rfl⟩:∃f0 f1,l=[f0,f1]:=by
  rcases l with _|⟨f0,_|⟨f1,_|⟨f2,l⟩⟩⟩<;>simp at hl
  exact⟨f0,f1,rfl⟩
 simp only[List.map_cons,List.map_nil,List.cons.injEq,Prod.mk.injEq,and_true] at hf;obtain⟨⟨n0',t0',o0⟩,⟨n1',t1',o1⟩⟩:=hf;by_cases e0:a=a'<;>by_cases e1:b=b'<;>
  simp[Op.eqFields,n0',n1',m0,m1,t0',t1',o0,o1,part,isAgg,run_underlying h.u0,run_underlying h.u1,run_equalIn_int w n t0 .i64 .i64 _ _ h.u0,run_equalIn_int w n t1 .i64 .i64 _ _ h.u1,e0,e1]
def kvI(a:Int×Int):Value:=.agg #[.int .i64 a.1,.int .i64 a.2]
theorem My{a b:Int×Int}(h:kvI a=kvI b):a=b:=by
 obtain⟨a1,a2⟩:=a;obtain⟨b1,b2⟩:=b;simp only[kvI,Value.agg.injEq] at h;have h2:=congrArg Array.toList h;simp at h2;simp[h2.1,h2.2]
theorem qU{t t0 t1:TypeId}(h:Pair2 t (.int .i64) t0 t1)(w:World)(a:Int×Int):∀(es:List MapEntry)(i:Nat),(∀e∈es,∃b,e.key=kvI b)→(∀e∈es,e.key≠kvI a)→(Instr.findAsking t (kvI a) es i).run Tryz.prog w=.ok none w
 | [],_,_,_=>by simp[Instr.findAsking]
 |e::es,i,hk,hn=>by
  obtain⟨b,hb⟩:=hk e (by simp)
  have hne:¬(a.1=b.1∧a.2=b.2):=fun k=>hn e (by simp) (by rw[hb,show a=b from Prod.ext k.1 k.2])
  have he:(Op.equal t (kvI a) e.key).run Tryz.prog w=.ok false w:=by
   rw[hb];have:=mM h w 9998 a.1 a.2 b.1 b.2;rw[show(9998+2:Nat)=Op.maxDepth from rfl] at this
   simpa [Op.equal,kvI,hne] using this
  unfold Instr.findAsking;simp only[Sem.run_bind,he,Result.andThen_ok,Bool.false_eq_true,if_false];exact qU h w a es (i+1) (fun e he=>hk e (by simp[he])) (fun e he=>hn e (by simp[he]))
theorem oN{t t0 t1:TypeId}(h:Pair2 t (.int .i64) t0 t1)(w:World)(a:Int×Int):∀(es:List MapEntry)(i j:Nat)(hj:j<es.length),(∀e∈es,∃b,e.key=kvI b)→es[j].key=kvI a→(∀q(hq:q<j),es[q].key≠kvI a)→(Instr.findAsking t (kvI a) es i).run Tryz.prog w=.ok (some (i+j,es[j].val)) w
 | [],_,_,hj,_,_,_=>by simp at hj
 |e::es,i,0,hj,hk,he,_=>by
  simp only[List.getElem_cons_zero] at he;have he':(Op.equal t (kvI a) e.key).run Tryz.prog w=.ok true w:=by
   rw[he];have:=mM h w 9998 a.1 a.2 a.1 a.2;rw[show(9998+2:Nat)=Op.maxDepth from rfl] at this
   simpa [Op.equal,kvI] using this
  unfold Instr.findAsking;simp[Sem.run_bind,he']
 |e::es,i,j+1,hj,hk,he,hn=>by
  obtain⟨b,hb⟩:=hk e (by simp)
  have hne:¬(a.1=b.1∧a.2=b.2):=fun k=>hn 0 (by omega) (by simp[hb,show a=b from Prod.ext k.1 k.2])
  have he':(Op.equal t (kvI a) e.key).run Tryz.prog w=.ok false w:=by
   rw[hb];have:=mM h w 9998 a.1 a.2 b.1 b.2;rw[show(9998+2:Nat)=Op.maxDepth from rfl] at this
   simpa [Op.equal,kvI,hne] using this
  unfold Instr.findAsking;simp only[Sem.run_bind,he',Result.andThen_ok,Bool.false_eq_true,if_false];have:=oN h w a es (i+1) j (by simpa using hj) (fun e he=>hk e (by simp[he])) (by simpa using he) (fun q hq=>by have:=hn (q+1) (by omega);simpa using this)
  rw[this];simp[Nat.add_assoc,Nat.add_comm 1 j]
theorem oM{t t0 t1:TypeId}(h:Pair2 t (.int .i64) t0 t1)(w:World)(a:Int×Int)(es:List MapEntry):(Instr.findKey t (kvI a) es).run Tryz.prog w=(Instr.findAsking t (kvI a) es 0).run Tryz.prog w:=by
 unfold Instr.findKey;simp only[Sem.run_bind,run_underlying h.und,Result.andThen_ok]
 cases es with
 |nil=>simp[Instr.findNow,Instr.findAsking]
 |cons e es=>simp[Instr.findNow,Instr.sameNow]
theorem Bj{t t0 t1:TypeId}(h:Pair2 t (.int .i64) t0 t1)(w:World)(b:Bool)(a:Int×Int)(n:Nat):(Instr.checkKey b (n+2) t (kvI a)).run Tryz.prog w=.ok () w:=by
 obtain⟨n0,n1,hf,m0,m1⟩:=h.fld;have hu:=h.und;unfold kvI;rw[show n+2=(n+1)+1 from rfl,Instr.checkKey]
 simp only[Sem.run_bind,run_underlying hu,Result.andThen_ok];generalize Tryz.prog.fieldsOf t=fs at hf⊢;obtain⟨l⟩:=fs;simp only at hf;have hl2:l.length=2:=by have:=congrArg List.length hf;simpa using this
 obtain⟨f0,f1,rfl⟩:∃f0 f1,l=[f0,f1]:=by
  rcases l with _|⟨f0,_|⟨f1,_|⟨f2,l⟩⟩⟩<;>simp at hl2
  exact⟨f0,f1,rfl⟩
 simp only[List.map_cons,List.map_nil,List.cons.injEq,Prod.mk.injEq,and_true] at hf;obtain⟨⟨n0',t0',o0⟩,⟨n1',t1',o1⟩⟩:=hf;simp[n0',n1',m0,m1,t0',t1',o0,o1,part,isAgg,run_underlying h.u0,run_underlying h.u1,Instr.checkKey,Sem.run_bind]
theorem pairRight:Pair2 74 (.int .i64) 3 3 where
 und:=by kernel_rfl
 eqg:=by kernel_rfl
 sto:=by kernel_rfl
 fld:=⟨"Class","Codes",by kernel_rfl,by decide,by decide⟩
 u0:=Tryz.underlying3
 u1:=Tryz.underlying3
theorem vX(x:Right):Enc.val x=kvI (x.cls,x.codes):=rfl
instance:KeyC Right Tryz.prog 74 where
 no w a es hk hn:=by
  have:=qU pairRight w (a.cls,a.codes) es 0 (fun e he=>by obtain⟨b,hb⟩:=hk e he;exact⟨(b.cls,b.codes),hb⟩) (fun e he h=>hn e he h)
  rw[vX,oM pairRight];exact this
 yes w a es j hj hk he hn:=by
  have:=oN pairRight w (a.cls,a.codes) es 0 j hj (fun e he=>by obtain⟨b,hb⟩:=hk e he;exact⟨(b.cls,b.codes),hb⟩) he hn
  rw[vX,oM pairRight,this,Nat.zero_add]
 check w b a:=Bj pairRight w b (a.cls,a.codes) 9998
 bits a:=by simp[Instr.sameBits,Enc.val]
 inj:=fun{a b}h=>by
  have:=My (a:=(a.cls,a.codes)) (b:=(b.cls,b.codes)) h;obtain⟨a1,a2⟩:=a;obtain⟨b1,b2⟩:=b;simp only[Prod.mk.injEq] at this;obtain⟨rfl,rfl⟩:=this;rfl
theorem qT(a:Int):∀(es:List MapEntry)(i:Nat),(∀e∈es,∃b:Int,e.key=.int .i64 b)→(∀e∈es,e.key≠ .int .i64 a)→Instr.findNow (.int .i64) (.int .i64 a) es i=some none
 | [],_,_,_=>rfl
 |e::es,i,hk,hn=>by
  obtain⟨b,hb⟩:=hk e (by simp)
  have hne:a≠b:=fun h=>hn e (by simp) (by rw[hb,h])
  have hs:Instr.sameNow (.int .i64) (.int .i64 a) (.int .i64 b)=some false:=by simp[Instr.sameNow,hne]
  unfold Instr.findNow;rw[hb,hs];exact qT a es (i+1) (fun e he=>hk e (by simp[he])) (fun e he=>hn e (by simp[he]))
theorem oL(a:Int):∀(es:List MapEntry)(i j:Nat)(h:j<es.length),(∀e∈es,∃b:Int,e.key=.int .i64 b)→es[j].key=.int .i64 a→(∀q(hq:q<j),es[q].key≠ .int .i64 a)→Instr.findNow (.int .i64) (.int .i64 a) es i=some (some (i+j,es[j].val))
 | [],_,_,h,_,_,_=>by simp at h
 |e::es,i,0,h,hk,he,_=>by
  simp only[List.getElem_cons_zero] at he⊢;have hs:Instr.sameNow (.int .i64) (.int .i64 a) (.int .i64 a)=some true:=by simp[Instr.sameNow]
  unfold Instr.findNow;rw[he,hs];simp
 |e::es,i,j+1,h,hk,he,hn=>by
  obtain⟨b,hb⟩:=hk e (by simp)
  have hne:a≠b:=fun h=>hn 0 (by omega) (by simp[hb,h])
  have hs:Instr.sameNow (.int .i64) (.int .i64 a) (.int .i64 b)=some false:=by simp[Instr.sameNow,hne]
  unfold Instr.findNow;rw[hb,hs];have:=oL a es (i+1) j (by simpa using h) (fun e he=>hk e (by simp[he])) (by simpa using he) (fun q hq=>by have:=hn (q+1) (by omega);simpa using this)
  simp only[this];simp[Nat.add_assoc,Nat.add_comm 1 j]
theorem Fx(w:World)(b:Bool)(a:Int)(n:Nat):(Instr.checkKey b (n+1) 3 (.int .i64 a)).run Tryz.prog w=.ok () w:=by simp[Instr.checkKey,run_underlying Tryz.underlying3]
instance:KeyC Int Tryz.prog 3 where
 no w a es hk hn:=by
  have:=qT a es 0 hk hn;simp[Instr.findKey,Sem.run_bind,run_underlying Tryz.underlying3,Enc.val,this]
 yes w a es j hj hk he hn:=by
  have:=oL a es 0 j hj hk he hn;simp[Instr.findKey,Sem.run_bind,run_underlying Tryz.underlying3,Enc.val,this]
 check w b a:=Fx w b a 9999
 bits a:=by show Instr.sameBits 10000 (.int .i64 a) (.int .i64 a)=true;simp[Instr.sameBits]
 inj:=fun{a b}h=>by injection h
theorem uT(w:World):(zeroValue 3).run Tryz.prog w=.ok (.int .i64 0) w:=by
 have h:∃i,Tryz.prog.info? 3=some i∧i.zero=some (.int .i64 0):=by
  have:(Tryz.prog.info? 3).map TypeInfo.zero=some (some (.int .i64 0)):=by kernel_rfl
  cases hi:Tryz.prog.info? 3 with
  |none=>rw[hi] at this;cases this
  |some i=>rw[hi] at this;exact⟨i,rfl,by simpa using this⟩
 obtain⟨i,h1,h2⟩:=h;simp[zeroValue,typeInfo,h1,h2,Sem.run_bind]
instance:MapT Tryz.prog 118 3:=⟨_,Tryz.underlying118,uT⟩
instance:MapT Tryz.prog 260 74:=⟨_,Tryz.underlying260,uT⟩
end Go.Rg
end
section
namespace Go.Rg
open Go Go.Bp Go.Walk
theorem nL{κ:Type}[Enc κ][DecidableEq κ](m:List (κ×Int))(k j:κ)(v:Int):getL (putL m k v) j=if k=j then some v else getL m j:=by
 have hf:∀m:List (κ×Int),getL (m.map fun p=>if p.1=k then(k,v) else p) j=if k=j then(if k∈m.map Prod.fst then some v else none) else getL m j:=by
  intro m;induction m with
  |nil=>simp[getL]
  |cons p m ih=>
   unfold getL at ih⊢;rw[List.map_cons,List.find?_cons,List.find?_cons];by_cases h1:p.1=k
   ·rw[if_pos h1];by_cases h2:k=j
    ·simp[h1,h2]
    ·simp only[h2,decide_false,if_false] at ih⊢;rw[ih];have:p.1≠j:=by rw[h1];exact h2
     simp[this]
   ·rw[if_neg h1];by_cases h2:p.1=j
    ·have h3:k≠j:=fun e=>h1 (by rw[h2,e])
     simp[h2,h3]
    ·simp only[h2,decide_false];rw[ih];by_cases h3:k=j
     ·subst h3;have h4:k≠p.1:=fun e=>h2 e.symm
      have h5:k∈(p::m).map Prod.fst↔k∈m.map Prod.fst:=by rw[List.map_cons,List.mem_cons];exact⟨fun h=>h.elim (fun e=>absurd e h4) id,.inr⟩
      simp only[if_true];by_cases h6:k∈m.map Prod.fst
      ·rw[if_pos h6,if_pos (h5.2 h6)]
      ·rw[if_neg h6,if_neg (fun h=>h6 (h5.1 h))]
     ·simp[h3]
 unfold putL;split
 ·rename_i h;rw[hf];simp[h]
 ·rename_i h;have hn:=getL_none.2 h;unfold getL at hn⊢;rw[List.find?_append];by_cases h2:k=j
  ·subst h2
   cases hq:m.find? (fun p=>decide (p.1=k)) with
   |none=>simp
   |some q=>rw[hq] at hn;cases hn
  ·cases hq:m.find? (fun p=>decide (p.1=j))<;>simp[h2]
theorem sL{κ:Type}[Enc κ][DecidableEq κ](m:List (κ×Int))(k j:κ)(v:Int):j∈(putL m k v).map Prod.fst↔j=k∨j∈m.map Prod.fst:=by
 have h1:=getL_none (m:=putL m k v) (k:=j);have h2:=getL_none (m:=m) (k:=j);rw[nL] at h1;by_cases h:k=j
 ·rw[if_pos h] at h1;constructor
  ·intro _;exact .inl h.symm
  ·intro _;exact Classical.byContradiction fun hn=>by have:=h1.2 hn;cases this
 ·rw[if_neg h] at h1;have hx:j∉(putL m k v).map Prod.fst↔j∉m.map Prod.fst:=h1.symm.trans h2;constructor
  ·intro hj;exact .inr (Classical.byContradiction fun hn=>(hx.2 hn) hj)
  ·rintro(e|hj)
   ·exact absurd e.symm h
   ·exact Classical.byContradiction fun hn=>(hx.1 hn) hj
theorem Fm{κ:Type}[Enc κ][DecidableEq κ](m:List (κ×Int))(k j:κ):getL (delL m k) j=if k=j then none else getL m j:=by
 unfold getL delL;rw[List.find?_filter];by_cases h:k=j
 ·subst h;rw[if_pos rfl];have:(fun a:κ×Int=>decide (decide (a.1≠k)=true∧decide (a.1=k)=true))=fun _=>false:=by funext a;by_cases h:a.1=k<;>simp[h]
  rw[this];simp
 ·rw[if_neg h];have:(fun a:κ×Int=>decide (decide (a.1≠k)=true∧decide (a.1=j)=true))=fun a=>decide (a.1=j):=by
   funext a
   by_cases h2:a.1=j
   ·have:a.1≠k:=fun e=>h (by rw[←e,h2])
    simp[h2,show j≠k from fun e=>h e.symm]
   ·simp[h2]
  rw[this]
def addDay(m:List (Int×Int))(x:Event):List (Int×Int):=putL m x.day ((getL m x.day).getD 0+x.points)
def daysTo(xs:List Event):List (Int×Int):=xs.foldl addDay []
theorem gQ(xs:List Event)(x:Event):daysTo (xs++ [x])=addDay (daysTo xs) x:=by unfold daysTo;rw[List.foldl_append];rfl
theorem vB(a b:List Int):sumL (a++b)=sumL a+sumL b:=by
 induction a with
 |nil=>simp[sumL_nil]
 |cons x a ih=>rw[List.cons_append,dN,dN,ih];omega
theorem pO{α:Type}{p:List α→Prop}(h0:p [])(h1:∀l x,p l→p (l++ [x])):∀l,p l:=by
 intro l;have:∀m:List α,p m.reverse:=by
  intro m;induction m with
  |nil=>exact h0
  |cons x m ih=>rw[List.reverse_cons];exact h1 _ _ ih
 have:=this l.reverse;rwa [List.reverse_reverse] at this
theorem mP(xs:List Event):((daysTo xs).map Prod.fst).Nodup:=by
 refine pO (p:=fun xs=>((daysTo xs).map Prod.fst).Nodup) (by simp[daysTo]) (fun l x ih=> ?_) xs
 rw[gQ];exact lE ih
theorem kG(xs:List Event)(d:Int):d∈(daysTo xs).map Prod.fst↔∃x∈xs,x.day=d:=by
 refine pO (p:=fun xs=>d∈(daysTo xs).map Prod.fst↔∃x∈xs,x.day=d) (by simp[daysTo]) (fun l x ih=> ?_) xs
 rw[gQ];unfold addDay;rw[sL,ih];constructor
 ·rintro(e|⟨y,hy,e⟩)
  ·exact⟨x,by simp,e.symm⟩
  ·exact⟨y,by simp[hy],e⟩
 ·rintro⟨y,hy,e⟩;rcases List.mem_append.1 hy with hy|hy
  ·exact .inr ⟨y,hy,e⟩
  ·rw[List.mem_singleton.1 hy] at e;exact .inl e.symm
theorem rC(xs:List Event)(d:Int):(getL (daysTo xs) d).getD 0=sumL ((xs.filter fun x=>decide (x.day=d)).map fun x=>x.points):=by
 refine pO (p:=fun xs=>(getL (daysTo xs) d).getD 0=sumL ((xs.filter fun x=>decide (x.day=d)).map fun x=>x.points)) (by simp[daysTo,getL,sumL_nil]) (fun l x ih=> ?_) xs
 rw[gQ];unfold addDay;rw[nL,List.filter_append,List.map_append,vB,←ih];by_cases h:x.day=d
 ·rw[if_pos h];simp[h,dN,sumL_nil]
 ·rw[if_neg h];simp[h,sumL_nil]
theorem Kr(l:List Event)(d:Int):(getL (daysTo (l.filter isOff)) d).getD 0=ptsOn l d:=by rw[rC,←Rules.isOff_filter]
theorem vI{l m:List Int}(h1:l.Pairwise (· < ·))(h2:m.Pairwise (· < ·))(h:∀x,x∈l↔x∈m):l=m:=gU (lt:=(· < ·)) (fun a=>by omega) (fun h k=>by omega) h1 h2 h
theorem xP{l:List Event}{ss:List Int}(hp:ss.Perm ((daysTo (l.filter isOff)).map Prod.fst)):ss.mergeSort (fun x y=>decide (x≤y))=offDays l:=by
 refine vI ?_ (fW _) fun x=> ?_
 ·have h1:(ss.mergeSort (fun x y=>decide (x≤y))).Pairwise (fun x y=>decide (x≤y)=true):=List.pairwise_mergeSort (fun a b c=>by simp;omega) (fun a b=>by simp;omega) ss
  have h2:(ss.mergeSort (fun x y=>decide (x≤y))).Nodup:=(List.mergeSort_perm ss _).nodup_iff.2 (hp.nodup_iff.2 (mP _))
  refine(h1.and h2).imp fun h=> ?_
  have:=of_decide_eq_true h.1;have:=h.2;omega
 ·rw[(List.mergeSort_perm ss _).mem_iff,hp.mem_iff,kG];have:=offDays_mem (l:=l) (d:=x);refine Iff.trans ?_ this.symm;constructor
  ·rintro⟨y,hy,e⟩;obtain⟨h1,h2⟩:=List.mem_filter.1 hy;exact⟨y,h1,h2,e⟩
  ·rintro⟨y,h1,h2,e⟩;exact⟨y,List.mem_filter.2 ⟨h1,h2⟩,e⟩
structure CntI(fall day:Int)(M cur left:List (Int×Int))(sum:Int):Prop where
 sub:∀p∈left,p∈M
 nodup:(left.map Prod.fst).Nodup
 cur:cur=M.filter fun p=>decide (day-p.1<fall)||decide (p∈left)
 sum:sum=sumL ((M.filter fun p=>decide (day-p.1<fall)&& !decide (p∈left)).map Prod.snd)
theorem CntI.start{fall day:Int}{M:List (Int×Int)}(hn:(M.map Prod.fst).Nodup):CntI fall day M M M 0:=by
 refine⟨fun p h=>h,hn,?_,?_⟩
 ·symm;rw[List.filter_eq_self];intro p hp;simp[hp]
 ·have:M.filter (fun p=>decide (day-p.1<fall)&& !decide (p∈M))=[]:=by rw[List.filter_eq_nil_iff];intro p hp;simp[hp]
  rw[this];rfl
theorem CntI.done{fall day:Int}{M cur:List (Int×Int)}{sum:Int}(h:CntI fall day M cur [] sum):cur=M.filter (fun p=>decide (day-p.1<fall))∧sum=sumL ((M.filter fun p=>decide (day-p.1<fall)).map Prod.snd):=by
 refine⟨by rw[h.cur];simp,by rw[h.sum];simp⟩
theorem nI{m:List (Int×Int)}(hn:(m.map Prod.fst).Nodup){p q:Int×Int}(hp:p∈m)(hq:q∈m)(e:p.1=q.1):p=q:=by
 have h1:=(sY (v:=p.2) hn).2 hp;have h2:=(sY (v:=q.2) hn).2 hq;rw[e] at h1;have e1:p.1=q.1:=e;rw[h1] at h2;injection h2 with h2
 exact Prod.ext e1 h2
theorem uJ{m:List (Int×Int)}(hn:(m.map Prod.fst).Nodup){p q:Int×Int}(hp:p∈m):q∈delL m p.1↔q∈m∧q≠p:=by
 unfold delL;rw[List.mem_filter,decide_eq_true_eq];constructor
 ·rintro⟨h1,h2⟩;exact⟨h1,fun e=>h2 (by rw[e])⟩
 ·rintro⟨h1,h2⟩;exact⟨h1,fun e=>h2 (nI hn h1 hp e)⟩
theorem Ia{M:List (Int×Int)}(hn:(M.map Prod.fst).Nodup){p:Int×Int}(hp:p∈M){P Q:Int×Int→Bool}(h0:P p=false)(h1:Q p=true)(h:∀q∈M,q≠p→Q q=P q):sumL ((M.filter Q).map Prod.snd)=sumL ((M.filter P).map Prod.snd)+p.2:=by
 induction M with
 |nil=>cases hp
 |cons a M ih=>
  rw[List.map_cons,List.nodup_cons] at hn;rcases List.mem_cons.1 hp with e|hp'
  ·subst e;have hne:∀q∈M,q≠p:=fun q hq e=>hn.1 (List.mem_map.2 ⟨q,hq,by rw[e]⟩)
   have:M.filter Q=M.filter P:=List.filter_congr fun q hq=>h q (List.mem_cons_of_mem _ hq) (hne q hq)
   rw[List.filter_cons_of_pos h1,List.filter_cons_of_neg (by simp[h0]),this,List.map_cons,dN];omega
  ·have hap:a≠p:=fun e=>hn.1 (List.mem_map.2 ⟨p,hp',by rw[e]⟩)
   have hi:=ih hn.2 hp' fun q hq=>h q (List.mem_cons_of_mem _ hq)
   have ha:=h a (by simp) hap
   by_cases hP:P a=true
   ·rw[List.filter_cons_of_pos hP,List.filter_cons_of_pos (by rw[ha];exact hP),List.map_cons,List.map_cons,dN,dN,hi];omega
   ·rw[List.filter_cons_of_neg hP,List.filter_cons_of_neg (by rw[ha];exact hP),hi]
theorem CntI.live{fall day:Int}{M cur left:List (Int×Int)}{sum:Int}(hn:(M.map Prod.fst).Nodup)(h:CntI fall day M cur left sum){p:Int×Int}(hp:p∈left)(hl:day-p.1<fall):CntI fall day M cur (delL left p.1) (sum+p.2):=by
 have hm:=fun q=>uJ h.nodup (q:=q) hp
 refine⟨fun q hq=>h.sub q ((hm q).1 hq).1,fA h.nodup,?_,?_⟩
 ·rw[h.cur];apply List.filter_congr;intro q hq;by_cases e:q=p
  ·subst e;simp[hl]
  ·have:q∈delL left p.1↔q∈left:=⟨fun h=>((hm q).1 h).1,fun h=>(hm q).2 ⟨h,e⟩⟩
   simp[this]
 ·rw[h.sum];symm
  refine Ia hn (h.sub p hp) (by simp[hp]) ?_ fun q hq e=> ?_
  ·have:p∉delL left p.1:=fun h=>((hm p).1 h).2 rfl
   simp[hl,this]
  ·have:q∈delL left p.1↔q∈left:=⟨fun h=>((hm q).1 h).1,fun h=>(hm q).2 ⟨h,e⟩⟩
   simp[this]
theorem CntI.dead{fall day:Int}{M cur left:List (Int×Int)}{sum:Int}(hn:(M.map Prod.fst).Nodup)(h:CntI fall day M cur left sum){p:Int×Int}(hp:p∈left)(hl:¬day-p.1<fall):CntI fall day M (delL cur p.1) (delL (delL left p.1) p.1) sum:=by
 have hm:=fun q=>uJ h.nodup (q:=q) hp
 have hdd:delL (delL left p.1) p.1=delL left p.1:=Dc fun hk=>by
  obtain⟨q,hq,e⟩:=List.mem_map.1 hk;have:=(hm q).1 hq;exact this.2 (nI h.nodup this.1 hp e)
 rw[hdd];refine⟨fun q hq=>h.sub q ((hm q).1 hq).1,fA h.nodup,?_,?_⟩
 ·have hcn:(cur.map Prod.fst).Nodup:=by rw[h.cur];exact hn.sublist (List.filter_sublist.map _)
  have e1:delL cur p.1=cur.filter fun q=>decide (q≠p):=by
   unfold delL;apply List.filter_congr;intro q hq;apply decide_eq_decide.2;have hpc:p∈cur:=by rw[h.cur];exact List.mem_filter.2 ⟨h.sub p hp,by simp[hp]⟩
   exact⟨fun h1 e=>h1 (by rw[e]),fun h1 e=>h1 (nI hcn hq hpc e)⟩
  rw[e1,h.cur,List.filter_filter];apply List.filter_congr;intro q hq;by_cases e:q=p
  ·subst e;have:q∉delL left q.1:=fun h=>((hm q).1 h).2 rfl
   simp[hl,this]
  ·have:q∈delL left p.1↔q∈left:=⟨fun h=>((hm q).1 h).1,fun h=>(hm q).2 ⟨h,e⟩⟩
   simp[this,e]
 ·rw[h.sum];congr 2
  apply List.filter_congr;intro q hq;by_cases e:q=p
  ·subst e;simp[hl]
  ·have:q∈delL left p.1↔q∈left:=⟨fun h=>((hm q).1 h).1,fun h=>(hm q).2 ⟨h,e⟩⟩
   simp[this]
structure TakI(day:Int)(M left T0 T:List (Int×Int)):Prop where
 sub:∀p∈left,p∈M
 nodup:(left.map Prod.fst).Nodup
 get:∀d,getL T d=if d∈M.map Prod.fst∧d∉left.map Prod.fst then some day else getL T0 d
theorem TakI.start{day:Int}{M T0:List (Int×Int)}(hn:(M.map Prod.fst).Nodup):TakI day M M T0 T0:=⟨fun p h=>h,hn,fun d=>by rw[if_neg (fun h=>h.2 h.1)]⟩
theorem TakI.step{day:Int}{M left T0 T:List (Int×Int)}(h:TakI day M left T0 T){p:Int×Int}(hp:p∈left):TakI day M (delL left p.1) T0 (putL T p.1 day):=by
 have hm:=fun q=>uJ h.nodup (q:=q) hp
 have hk:∀d,d∈(delL left p.1).map Prod.fst↔d∈left.map Prod.fst∧d≠p.1:=fun d=>by
  unfold delL;simp only[List.mem_map,List.mem_filter,decide_eq_true_eq];constructor
  ·rintro⟨q,⟨h1,h2⟩,rfl⟩;exact⟨⟨q,h1,rfl⟩,h2⟩
  ·rintro⟨⟨q,h1,rfl⟩,h2⟩;exact⟨q,⟨h1,h2⟩,rfl⟩
 refine⟨fun q hq=>h.sub q ((hm q).1 hq).1,fA h.nodup,fun d=> ?_⟩
 rw[nL];by_cases e:p.1=d
 ·rw[if_pos e,if_pos];exact⟨List.mem_map.2 ⟨p,h.sub p hp,e⟩,fun hd=>((hk d).1 hd).2 e.symm⟩
 ·rw[if_neg e,h.get d];by_cases h1:d∈M.map Prod.fst∧d∉left.map Prod.fst
  ·rw[if_pos h1,if_pos ⟨h1.1,fun hd=>h1.2 ((hk d).1 hd).1⟩]
  ·rw[if_neg h1,if_neg];rintro⟨h2,h3⟩;exact h1 ⟨h2,fun hd=>h3 ((hk d).2 ⟨hd,fun e2=>e e2.symm⟩)⟩
theorem pF(t:List (Int×Int))(d:Int):whenIn t d=getL t d:=rfl
theorem TakI.done{day:Int}{M T0 T t:List (Int×Int)}(h:TakI day M [] T0 T)(h0:∀d,getL T0 d=whenIn t d)(ha:∀p∈M,∀q∈t,p.1≠q.1):∀d,getL T d=whenIn (t++M.map fun p=>(p.1,day)) d:=by
 intro d;rw[h.get d,pG];by_cases hd:d∈M.map Prod.fst
 ·rw[if_pos ⟨hd,by simp⟩]
  obtain⟨p,hp,rfl⟩:=List.mem_map.1 hd;have h1:whenIn t p.1=none:=by
   rw[pF,getL_none];intro hk;obtain⟨q,hq,e⟩:=List.mem_map.1 hk;exact ha p hp q hq e.symm
  rw[h1];have h2:whenIn (M.map fun p=>(p.1,day)) p.1=some day:=by
   unfold whenIn;rw[List.find?_map];have:∃q∈M,((fun p_1:Int×Int=>decide (p_1.1=p.1))∘fun p:Int×Int=>(p.1,day)) q=true:=⟨p,hp,by simp⟩
   cases hq:M.find? ((fun p_1:Int×Int=>decide (p_1.1=p.1))∘fun p:Int×Int=>(p.1,day)) with
   |none=>rw[List.find?_eq_none] at hq;obtain⟨q,hq1,hq2⟩:=this;exact absurd hq2 (hq q hq1)
   |some q=>rfl
  rw[h2];rfl
 ·rw[if_neg (fun h=>hd h.1),h0 d]
  have:whenIn (M.map fun p=>(p.1,day)) d=none:=by
   rw[pF,getL_none,List.map_map];intro hk;obtain⟨q,hq,e⟩:=List.mem_map.1 hk;exact hd (List.mem_map.2 ⟨q,hq,e⟩)
  rw[this]
  cases whenIn t d<;>rfl
end Go.Rg
end
