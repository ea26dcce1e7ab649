/- Chapter 11: contracts of functions of the program and of the reference, and plain laws (out of RSg RSh Held4 NAw). No condition of its own. -/
import Derived.Test.YtbfbepnkofampaaGreatDoorYP23
import Derived.Test.YtbfbepnkofampaaGreatDoorYP24
set_option maxRecDepth 100000
set_option linter.all false
section
namespace Go.Rg
open Go Go.Bp Go.RowKit Go.Walk Go.Proofs
set_option synthInstance.maxSize 2000
set_option synthInstance.maxHeartbeats 400000
set_option maxHeartbeats 4000000
class RDrvE (r:Rules) (p:Person) (d:Drive) (e:outParam Int):Prop where h:r.driveErr p d=e
instance qRSg19{W:World}{v pv:Value}{r:Rules}{p:Person}{dd dc df e:Int}[h:RulesC W v r][hp:PersonC W pv p][hc:CntC r.sys][q:RDrvE r p ⟨dd,dc,df⟩ e]:FunC Tryz.prog 77 #[v,pv,.agg #[.int .i64 dd,.int .i64 dc,.int .i64 df]] W (RI W e):=⟨q.h▸rDrive_any r p v pv dd dc df W h.h hp.h hc⟩
end Go.Rg
end
section
namespace Go.Rg
open Go Go.Bp Go.RowKit Go.Walk Go.Proofs
set_option synthInstance.maxSize 2000
set_option synthInstance.maxHeartbeats 400000
set_option maxHeartbeats 4000000
class ValE (r:Rules) (p:Person) (d:Drive) (b:outParam Bool):Prop where h:(decide (r.personErr p=0)&&decide (r.driveErr p d=0))=b
set_option maxHeartbeats 8000000 in
theorem valid_any(r:Rules)(p:Person)(v pv:Value)(dd dc df:Int)(b:Bool)(w:World)(h:RulesV w v r)(hp:PersonV w pv p)(hb:(decide (r.personErr p=0)&&decide (r.driveErr p ⟨dd,dc,df⟩=0))=b):Calls Tryz.prog 45 #[v,pv,.agg #[.int .i64 dd,.int .i64 dc,.int .i64 df]] w (RB w b):=by
 obtain⟨A1,n1,c1,A2,c2,A3,c3,rfl,-⟩:=h.h;obtain⟨A,c,rfl,hl⟩:=hp.h;have i1:=RulesB.mk h;have i2:=PersonB.mk hp;obtain⟨e1,h1⟩:∃x,r.personErr p=x:=⟨_,rfl⟩;have j1:=RPerE.mk h1;by_cases z:e1=0
 ·subst z;have j2:CntC r.sys:=cnt_ok (Rules.ok_of (Rules.person_ok h1).1).check;obtain⟨e2,h2⟩:∃x,r.driveErr p ⟨dd,dc,df⟩=x:=⟨_,rfl⟩;have j3:=RDrvE.mk h2;rw[h1,h2] at hb;by_cases z2:e2=0
  ·subst z2;obtain rfl:true=b:=by simpa using hb
   clear h1 h2 hb;go_enter Tryz.func45,Tryz.ntmps45
   go_wp2_with (first|(with_reducible refine load_c ?_)|(with_reducible refine load_g ?_)|(with_reducible refine call_c ?_;first|rintro _ V ⟨rfl,(_:StepC _ _)⟩)|(with_reducible refine box_c ?_;intro V g _ _ _))
   all_goals
    go_ret
    exact⟨rfl,⟨ExtC.h⟩⟩
  ·have q2:(e2==0)=false:=by simpa using z2
   obtain rfl:false=b:=by simpa [z2] using hb
   clear h1 h2 hb z2;go_enter Tryz.func45,Tryz.ntmps45
   go_wp2_with (first|(with_reducible refine load_c ?_)|(with_reducible refine load_g ?_)|(with_reducible refine call_c ?_;first|rintro _ V ⟨rfl,(_:StepC _ _)⟩)|(with_reducible refine box_c ?_;intro V g _ _ _))
   all_goals
    go_ret
    exact⟨rfl,⟨ExtC.h⟩⟩
 ·have q1:(e1==0)=false:=by simpa using z
  obtain rfl:false=b:=by simpa [h1,z] using hb
  clear h1 hb z;go_enter Tryz.func45,Tryz.ntmps45
  go_wp2_with (first|go_skip|(with_reducible refine load_c ?_)|(with_reducible refine call_c ?_;first|rintro _ V ⟨rfl,(_:StepC _ _)⟩)|(with_reducible refine box_c ?_;intro V g _ _ _))
  all_goals
   go_ret
   exact⟨rfl,⟨ExtC.h⟩⟩
instance qRSh15{W:World}{v pv:Value}{r:Rules}{p:Person}{dd dc df:Int}{b:Bool}[h:RulesC W v r][hp:PersonC W pv p][q:ValE r p ⟨dd,dc,df⟩ b]:FunC Tryz.prog 45 #[v,pv,.agg #[.int .i64 dd,.int .i64 dc,.int .i64 df]] W (RB W b):=⟨valid_any r p v pv dd dc df b W h.h hp.h q.h⟩
end Go.Rg
end
section
namespace Go.Bp
open Go.RowKit
section
variable{P:Program}{md:Region.Mode}{ops:Array Oper}{Q:Exit→Act→World→Prop}{S:World→Prop}
def okTree3(md:Region.Mode)(ops:Array Oper):OTree3→Array Bool→Bool
 | .nil,l=>(Region.ready md ops l).isEmpty
 | .take i r,l=>Region.free md ops l i&&(Region.ready md ops l).contains i&&okTree3 md ops r (l.setIfInBounds i true)
 | .one i r,l=>(Region.ready md ops l== [i])&&okTree3 md ops r (l.setIfInBounds i true)
 | .two i r j s,l=>(Region.ready md ops l== [i,j])&&okTree3 md ops r (l.setIfInBounds i true)&&okTree3 md ops s (l.setIfInBounds j true)
 | .three i r j s k u,l=>(Region.ready md ops l== [i,j,k])&&okTree3 md ops r (l.setIfInBounds i true)&&okTree3 md ops s (l.setIfInBounds j true)&&okTree3 md ops u (l.setIfInBounds k true)
def wpTree3(P:Program)(ops:Array Oper)(Q:Exit→Act→World→Prop)(S:World→Prop):OTree3→Act→World→Prop
 | .nil,a,w=>Q .normal a w
 | .take i r,a,w=>∃oi v,ops[i]? =some oi∧YieldsIf P ops S oi v a∧S w∧wpTree3 P ops Q S r (a.put oi.dst v) w
 | .one i r,a,w=>wpOp P ops Q i (fun a' w'=>S w'∧wpTree3 P ops Q S r a' w') a w
 | .two i r j s,a,w=>wpOp P ops Q i (fun a' w'=>S w'∧wpTree3 P ops Q S r a' w') a w∧wpOp P ops Q j (fun a' w'=>S w'∧wpTree3 P ops Q S s a' w') a w
 | .three i r j s k u,a,w=>wpOp P ops Q i (fun a' w'=>S w'∧wpTree3 P ops Q S r a' w') a w∧wpOp P ops Q j (fun a' w'=>S w'∧wpTree3 P ops Q S s a' w') a w∧wpOp P ops Q k (fun a' w'=>S w'∧wpTree3 P ops Q S u a' w') a w
theorem wpAnyH_of_tree3(hs:Region.noSelect ops=true)(hQ:∀c(a:Act)(d:Tmp)(v:Value)(w:World),Q (.panic c) (a.put (some d) v) w→Q (.panic c) a w):
 ∀(t:OTree3)(l:Array Bool)(fuel:Nat)(a:Act)(w:World),t.depth≤fuel→okTree3 md ops t l=true→wpTree3 P ops Q S t a w→wpAnyH P md ops Q S fuel l a w
 | .nil,l,fuel,a,w,_,hok,h=>wpAnyH_done (by simpa [okTree3] using hok) h fuel
 | .take i r,l,0,a,w,hf,_,_=>by simp[OTree3.depth] at hf
 | .one i r,l,0,a,w,hf,_,_=>by simp[OTree3.depth] at hf
 | .two i r j s,l,0,a,w,hf,_,_=>by simp[OTree3.depth] at hf
 | .three i r j s k u,l,0,a,w,hf,_,_=>by simp[OTree3.depth] at hf
 | .take i r,l,fuel+1,a,w,hf,hok,h=>by
  obtain⟨oi,v,ho,hy,hS,h⟩:=h;simp only[okTree3,Bool.and_eq_true] at hok;exact wpAnyH_take ho hs hok.1.1 hok.1.2 (fun c a w h=>put_any hQ c a oi.dst v w h) hy hS (wpAnyH_of_tree3 hs hQ r _ fuel _ _ (by simpa [OTree3.depth] using hf) hok.2 h)
 | .one i r,l,fuel+1,a,w,hf,hok,h=>by
  simp only[okTree3,Bool.and_eq_true,beq_iff_eq] at hok;refine wpAnyH_all hok.1 (by simp) fun j hj=> ?_
  obtain rfl:j=i:=by simpa using hj
  exact wpOp_mono (fun a' w' h'=>⟨h'.1,wpAnyH_of_tree3 hs hQ r _ fuel _ _ (by simpa [OTree3.depth] using hf) hok.2 h'.2⟩) h
 | .two i r j s,l,fuel+1,a,w,hf,hok,h=>by
  simp only[okTree3,Bool.and_eq_true,beq_iff_eq] at hok;obtain⟨h1,h2⟩:=h;have hd:r.depth≤fuel∧s.depth≤fuel:=by simp only[OTree3.depth] at hf;omega
  refine wpAnyH_all hok.1.1 (by simp) fun k hk=> ?_
  have hk:k=i∨k=j:=by simpa using hk
  rcases hk with rfl|rfl
  ·exact wpOp_mono (fun a' w' h'=>⟨h'.1,wpAnyH_of_tree3 hs hQ r _ fuel _ _ hd.1 hok.1.2 h'.2⟩) h1
  ·exact wpOp_mono (fun a' w' h'=>⟨h'.1,wpAnyH_of_tree3 hs hQ s _ fuel _ _ hd.2 hok.2 h'.2⟩) h2
 | .three i r j s k u,l,fuel+1,a,w,hf,hok,h=>by
  simp only[okTree3,Bool.and_eq_true,beq_iff_eq] at hok;obtain⟨h1,h2,h3⟩:=h;have hd:r.depth≤fuel∧s.depth≤fuel∧u.depth≤fuel:=by simp only[OTree3.depth] at hf;omega
  refine wpAnyH_all hok.1.1.1 (by simp) fun z hz=> ?_
  have hz:z=i∨z=j∨z=k:=by simpa using hz
  rcases hz with rfl|rfl|rfl
  ·exact wpOp_mono (fun a' w' h'=>⟨h'.1,wpAnyH_of_tree3 hs hQ r _ fuel _ _ hd.1 hok.1.1.2 h'.2⟩) h1
  ·exact wpOp_mono (fun a' w' h'=>⟨h'.1,wpAnyH_of_tree3 hs hQ s _ fuel _ _ hd.2.1 hok.1.2 h'.2⟩) h2
  ·exact wpOp_mono (fun a' w' h'=>⟨h'.1,wpAnyH_of_tree3 hs hQ u _ fuel _ _ hd.2.2 hok.2 h'.2⟩) h3
theorem wp_region_tree3{id:Nat}{a:Act}{w:World}(t:OTree3)(S:World→Prop)(hm:P.follows .mixedOrders=true)
 (hs:Region.noSelect ops=true)(hf:Nat.ble t.depth ops.size=true)(hok:okTree3 .any ops t (Array.replicate ops.size false)=true)
 (hQ:∀c(a:Act)(d:Tmp)(v:Value)(w:World),Q (.panic c) (a.put (some d) v) w→Q (.panic c) a w)
 (hS:S w.drew)(h:S w.drew→wpTree3 P ops Q S t a w.drew):(Code.region id ops true).wp P Q a w:=
 wp_region_held_drew (S:=S) hm hS fun hS=>wpAnyH_of_tree3 hs hQ t _ _ _ _ (Nat.le_of_ble_eq_true hf) hok (h hS)
variable{i j k:Nat}{r s u:OTree3}{o:Oper}{a:Act}{w:World}
theorem t3_done(h:Q .normal a w):wpTree3 P ops Q S .nil a w:=h
theorem t3_take{v:Value}(ho:ops[i]? =some o)(hg:o.guard=none)(hy:∀w,S w→(execOp a.eval o).run P w=.ok (.value v) w)(hS:S w)
 (k:wpTree3 P ops Q S r (a.put o.dst v) w):wpTree3 P ops Q S (.take i r) a w:=
 ⟨o,v,ho,.inl ⟨by simp[Region.wanted,hg],hy⟩,hS,k⟩
def thenTree3(P:Program)(ops:Array Oper)(Q:Exit→Act→World→Prop)(S:World→Prop)(r:OTree3):Exit→Act→World→Prop
 | .normal,a,w=>S w∧wpTree3 P ops Q S r a w
 |e,a,w=>Q e a w
theorem upon_thenT3{next:Act→World→Prop}{x:Result Next}(h:o.upon P a next (thenTree3 P ops Q S r) x):o.upon P a next Q x:=by
 cases x with
 |ok n w'=>
  cases n with
  |enter f args=>exact Calls.mono h fun e w'' he=>by cases e<;>exact he
  |_=>exact h
 |halt x w'=>
  cases x<;>exact h
theorem wpOp_list3(ho:ops[i]? =some o)(h:wpList P ops (thenTree3 P ops Q S r) [o] a w):wpOp P ops Q i (fun a' w'=>S w'∧wpTree3 P ops Q S r a' w') a w:=by
 unfold wpOp;simp only[ho];unfold wpList at h;split
 ·rename_i hw;rw[if_pos hw] at h;rcases h with h|⟨h1,⟨a2,w2,h2⟩⟩
  ·exact .inl (upon_thenT3 h)
  ·exact .inr ⟨h1,⟨a2,w2,h2⟩⟩
 ·rename_i hw;rw[if_neg hw] at h;exact h
theorem t3_one(ho:ops[i]? =some o)(h:wpList P ops (thenTree3 P ops Q S r) [o] a w):wpTree3 P ops Q S (.one i r) a w:=wpOp_list3 ho h
theorem t3_two{o':Oper}(ho:ops[i]? =some o)(ho':ops[j]? =some o')(h:wpList P ops (thenTree3 P ops Q S r) [o] a w)(h':wpList P ops (thenTree3 P ops Q S s) [o'] a w):wpTree3 P ops Q S (.two i r j s) a w:=
 ⟨wpOp_list3 ho h,wpOp_list3 ho' h'⟩
theorem t3_three{o' o'':Oper}(ho:ops[i]? =some o)(ho':ops[j]? =some o')(ho'':ops[k]? =some o'')(h:wpList P ops (thenTree3 P ops Q S r) [o] a w)(h':wpList P ops (thenTree3 P ops Q S s) [o'] a w)(h'':wpList P ops (thenTree3 P ops Q S u) [o''] a w):wpTree3 P ops Q S (.three i r j s k u) a w:=
 ⟨wpOp_list3 ho h,wpOp_list3 ho' h',wpOp_list3 ho'' h''⟩
theorem t3_next(hS:S w)(k:S w→wpTree3 P ops Q S r a w):wpList P ops (thenTree3 P ops Q S r) [] a w:=⟨hS,k hS⟩
end
section
variable{P:Program}{ops:Array Oper}{Q:Exit→Act→World→Prop}{S:World→Prop}{a:Act}{w:World}{rest l:List Oper}{r:OTree3}
theorem t3_tk{i:Nat}(h:wpTree3 P ops Q S (.take i r) a w):wpTree3 P ops Q S (.take i r) a w:=h
theorem t3_on{i:Nat}(h:wpTree3 P ops Q S (.one i r) a w):wpTree3 P ops Q S (.one i r) a w:=h
theorem t3_tw{i j:Nat}{s:OTree3}(h:wpTree3 P ops Q S (.two i r j s) a w):wpTree3 P ops Q S (.two i r j s) a w:=h
theorem t3_th{i j k:Nat}{s u:OTree3}(h:wpTree3 P ops Q S (.three i r j s k u) a w):wpTree3 P ops Q S (.three i r j s k u) a w:=h
end
section
variable{P:Program}{ops:Array Oper}{Q:Exit→Act→World→Prop}{S:World→Prop}{a:Act}{w:World}{rest l:List Oper}{r:OTree3}
theorem wp_rt3{id:Nat}{a:Act}{w:World}(t:OTree3)(S:World→Prop)(hS:S w.drew)(h:S w.drew→wpTree3 P ops Q S t a w.drew)(hm:P.follows .mixedOrders=true:=by kernel_rfl)(hs:Region.noSelect ops=true:=by kernel_rfl)(hf:Nat.ble t.depth ops.size=true:=by kernel_rfl)(hok:okTree3 .any ops t (Array.replicate ops.size false)=true:=by kernel_rfl)(hQ:∀c(a:Act)(d:Tmp)(v:Value)(w:World),Q (.panic c) (a.put (some d) v) w→Q (.panic c) a w:=by intro _ _ _ _ _ h;first|exact h|exact absurd h.1 (fun e=>by cases e)):(Code.region id ops true).wp P Q a w:=wp_region_tree3 t S hm hs hf hok hQ hS h
theorem t3k{i:Nat}{o:Oper}{v:Value}(hy:∀w,S w→(execOp a.eval o).run P w=.ok (.value v) w)(hS:S w)(k:wpTree3 P ops Q S r (a.put o.dst v) w)(ho:ops[i]? =some o:=by simp only[gS];rfl)(hg:o.guard=none:=by rfl):wpTree3 P ops Q S (.take i r) a w:=t3_take ho hg hy hS k
end
end Go.Bp
end
section
namespace Go.Walk
open Go Go.Bp Go.RowKit
class BytT (P:Program) (e:TypeId) (b:outParam Nat):Prop where h:(P.info? e).map TypeInfo.bytes=some b
class RoomC (n m b:Nat):Prop where h:(n+m)*b≤140737488355328
section
variable{P:Program}{ops:Array Oper}{Q:Exit→Act→World→Prop}{A:Act}{rest:List Oper}
variable{d:Option Tmp}{t e e2 ty:TypeId}{pos:String}{after:Array Edge}{x y:Operand}{z cs l:List Value}{A0 A1:Option Addr}{c0 c1 n m size g b:Nat}{B W:World}
theorem ZeroT.withBytes(q:ZeroT P e z)(r:BytT P e b):∃zv,(P.info? e).map (fun i=>(i.zero,i.size,i.bytes))=some (some zv,z.length,b)∧zv.cells=z.toArray:=by
 obtain⟨zv,b',h1,h2,_⟩:=q.h;have h3:=r.h
 cases hi:P.info? e with
 |none=>rw[hi] at h1;cases h1
 |some i=>
  rw[hi] at h1 h3;simp only[Option.map_some,Option.some.injEq,Prod.mk.injEq] at h1 h3⊢;exact⟨zv,⟨h1.1,h1.2.1,h3⟩,h2⟩
theorem append_sw[st:SlT P t e][q:ZeroT P e z]
 (k:∀A' c' W',RowC W' (.slice A' (n+m) c') B e size (n+m) (cs++l)→GrowC W W' B (.slice A0 n c0)→wpList P ops Q rest (A.put d (.slice A' (n+m) c')) W')
 (h:BytT P e b∧A.eval x=.slice A0 n c0∧RowC W (.slice A0 n c0) B e size n cs∧A.eval y=.slice A1 m c1∧SlC W (.slice A1 m c1) size m l∧size=z.length∧ExtC B W∧0<z.length∧RoomC n m b∧0<b:=by
  (refine⟨by infer_instance,?_⟩;refine⟨by with_unfolding_all rfl,?_⟩;refine⟨by infer_instance,?_⟩;refine⟨by with_unfolding_all rfl,?_⟩;refine⟨by infer_instance,by simp,by infer_instance,by simp,?_⟩;refine⟨by infer_instance,by simp⟩)):
 wpList P ops Q (⟨d,.call {callee:=.builtin .append,args:=#[x,y],argTypes:=#[t,t]},ty,pos,after,none⟩::rest) A W:=by
 obtain⟨r,h1,h2,h3,h4,rfl,h7,h8,h9,h10⟩:=h;obtain⟨zv,i1,i2⟩:=q.withBytes r;obtain⟨⟨A2,c2,e2,_,_,s3,s4⟩,s5⟩:=h4.h;injection e2 with e21 _ e23
 subst e21 e23;have h63:n+m≤maxLen:=by
  have:=Nat.le_mul_of_pos_right (n+m) h10;have:=h9.h;unfold maxLen;omega
 refine q_append st.h i1 (by rw[i2];simp) h8 h1 h2.h h3 s4 s3 s5 h9.h h63 h7.h.size fun v' W' r1 r2 r3=> ?_
 obtain⟨A',c',rfl,_⟩:=Sl.of_own r1;exact k A' c' W' ⟨r1⟩ ⟨r2,fun g hg=>(h2.from_ hg).1⟩
theorem append_cw[st:SlT P t e][q:ZeroT P e z]
 (k:∀A' c' W',RowC W' (.slice A' (n+m) c') B e size (n+m) (cs++l)→GrowC W W' B (.slice A0 n c0)→wpList P ops Q rest (A.put d (.slice A' (n+m) c')) W')
 (h:BytT P e b∧A.eval x=.slice A0 n c0∧RowC W (.slice A0 n c0) B e size n cs∧A.eval y=.slice (some ⟨g,0,none⟩) m m∧BlkC W g e2 l∧size=z.length∧l.length=m*z.length∧(∀u∈l,u.oneCell'=true)∧ExtC B W∧0<z.length∧RoomC n m b∧0<b:=by
  (refine⟨by infer_instance,?_⟩;refine⟨by with_unfolding_all rfl,?_⟩;refine⟨by infer_instance,?_⟩;refine⟨by with_unfolding_all rfl,?_⟩;refine⟨by infer_instance,by simp,by simp,by simp[Value.oneCell'],by infer_instance,by simp,?_⟩;refine⟨by infer_instance,by simp⟩)):
 wpList P ops Q (⟨d,.call {callee:=.builtin .append,args:=#[x,y],argTypes:=#[t,t]},ty,pos,after,none⟩::rest) A W:=by
 obtain⟨r,h1,h2,h3,h4,rfl,h5,h6,h7,h8,h9,h10⟩:=h;obtain⟨zv,i1,i2⟩:=q.withBytes r;have h63:n+m≤maxLen:=by
  have:=Nat.le_mul_of_pos_right (n+m) h10;have:=h9.h;unfold maxLen;omega
 refine q_append st.h i1 (by rw[i2];simp) h8 h1 h2.h h3 (fun _=>⟨_,rfl,?_⟩) h5 h6 h9.h h63 h7.h.size fun v' W' r1 r2 r3=> ?_
 ·have:=h4.h.cells;simpa using this
 ·obtain⟨A',c',rfl,_⟩:=Sl.of_own r1;exact k A' c' W' ⟨r1⟩ ⟨r2,fun g hg=>(h2.from_ hg).1⟩
end
end Go.Walk
end
