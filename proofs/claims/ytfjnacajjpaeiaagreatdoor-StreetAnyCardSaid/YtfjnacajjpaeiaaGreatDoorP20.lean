/- Chapter 03: contracts of functions of the program and of the reference, and plain laws (out of Held5 Held6 Held7 SA6 SA5 SA4 SA3 SA2 SA1). No condition of its own. -/
import Derived.Test.YtfjnacajjpaeiaaGreatDoorP19
set_option maxRecDepth 100000
set_option linter.all false
section
namespace Go.Bp
open Go.RowKit Go.Proofs
inductive OTree4 where
 |nil
 |take (i:Nat) (r:OTree4)
 |one (i:Nat) (r:OTree4)
 |two (i:Nat) (r:OTree4) (j:Nat) (s:OTree4)
 |three (i:Nat) (r:OTree4) (j:Nat) (s:OTree4) (k:Nat) (u:OTree4)
 |four (i:Nat) (r:OTree4) (j:Nat) (s:OTree4) (k:Nat) (u:OTree4) (m:Nat) (v:OTree4)
def OTree4.depth:OTree4→Nat
 | .nil=>0
 | .take _ r=>r.depth+1
 | .one _ r=>r.depth+1
 | .two _ r _ s=>max r.depth s.depth+1
 | .three _ r _ s _ u=>max (max r.depth s.depth) u.depth+1
 | .four _ r _ s _ u _ v=>max (max (max r.depth s.depth) u.depth) v.depth+1
section
variable{P:Program}{md:Region.Mode}{ops:Array Oper}{Q:Exit→Act→World→Prop}{S:World→Prop}
def cQ(md:Region.Mode)(ops:Array Oper):OTree4→Array Bool→Bool
 | .nil,l=>(Region.ready md ops l).isEmpty
 | .take i r,l=>Region.free md ops l i&&(Region.ready md ops l).contains i&&cQ md ops r (l.setIfInBounds i true)
 | .one i r,l=>(Region.ready md ops l== [i])&&cQ md ops r (l.setIfInBounds i true)
 | .two i r j s,l=>(Region.ready md ops l== [i,j])&&cQ md ops r (l.setIfInBounds i true)&&cQ md ops s (l.setIfInBounds j true)
 | .three i r j s k u,l=>(Region.ready md ops l== [i,j,k])&&cQ md ops r (l.setIfInBounds i true)&&cQ md ops s (l.setIfInBounds j true)&&cQ md ops u (l.setIfInBounds k true)
 | .four i r j s k u m v,l=>(Region.ready md ops l== [i,j,k,m])&&cQ md ops r (l.setIfInBounds i true)&&cQ md ops s (l.setIfInBounds j true)&&cQ md ops u (l.setIfInBounds k true)&&cQ md ops v (l.setIfInBounds m true)
def bH(P:Program)(ops:Array Oper)(Q:Exit→Act→World→Prop)(S:World→Prop):OTree4→Act→World→Prop
 | .nil,a,w=>Q .normal a w
 | .take i r,a,w=>∃oi v,ops[i]? =some oi∧YieldsIf P ops S oi v a∧S w∧bH P ops Q S r (a.put oi.dst v) w
 | .one i r,a,w=>wpOp P ops Q i (fun a' w'=>S w'∧bH P ops Q S r a' w') a w
 | .two i r j s,a,w=>wpOp P ops Q i (fun a' w'=>S w'∧bH P ops Q S r a' w') a w∧wpOp P ops Q j (fun a' w'=>S w'∧bH P ops Q S s a' w') a w
 | .three i r j s k u,a,w=>wpOp P ops Q i (fun a' w'=>S w'∧bH P ops Q S r a' w') a w∧wpOp P ops Q j (fun a' w'=>S w'∧bH P ops Q S s a' w') a w∧wpOp P ops Q k (fun a' w'=>S w'∧bH P ops Q S u a' w') a w
 | .four i r j s k u m v,a,w=>wpOp P ops Q i (fun a' w'=>S w'∧bH P ops Q S r a' w') a w∧wpOp P ops Q j (fun a' w'=>S w'∧bH P ops Q S s a' w') a w∧wpOp P ops Q k (fun a' w'=>S w'∧bH P ops Q S u a' w') a w∧wpOp P ops Q m (fun a' w'=>S w'∧bH P ops Q S v a' w') a w
theorem bV(hs:Region.noSelect ops=true)(hQ:∀c(a:Act)(d:Tmp)(v:Value)(w:World),Q (.panic c) (a.put (some d) v) w→Q (.panic c) a w):
 ∀(t:OTree4)(l:Array Bool)(fuel:Nat)(a:Act)(w:World),t.depth≤fuel→cQ md ops t l=true→bH P ops Q S t a w→wpAnyH P md ops Q S fuel l a w
 | .nil,l,fuel,a,w,_,hok,h=>wpAnyH_done (by simpa [cQ] using hok) h fuel
 | .take i r,l,0,a,w,hf,_,_=>by simp[OTree4.depth] at hf
 | .one i r,l,0,a,w,hf,_,_=>by simp[OTree4.depth] at hf
 | .two i r j s,l,0,a,w,hf,_,_=>by simp[OTree4.depth] at hf
 | .three i r j s k u,l,0,a,w,hf,_,_=>by simp[OTree4.depth] at hf
 | .four i r j s k u m v,l,0,a,w,hf,_,_=>by simp[OTree4.depth] at hf
 | .take i r,l,fuel+1,a,w,hf,hok,h=>by
  obtain⟨oi,v,ho,hy,hS,h⟩:=h;simp only[cQ,Bool.and_eq_true] at hok;exact wpAnyH_take ho hs hok.1.1 hok.1.2 (fun c a w h=>xY hQ c a oi.dst v w h) hy hS (bV hs hQ r _ fuel _ _ (by simpa [OTree4.depth] using hf) hok.2 h)
 | .one i r,l,fuel+1,a,w,hf,hok,h=>by
  simp only[cQ,Bool.and_eq_true,beq_iff_eq] at hok;refine wpAnyH_all hok.1 (by simp) fun j hj=> ?_
  obtain rfl:j=i:=by simpa using hj
  exact wpOp_mono (fun a' w' h'=>⟨h'.1,bV hs hQ r _ fuel _ _ (by simpa [OTree4.depth] using hf) hok.2 h'.2⟩) h
 | .two i r j s,l,fuel+1,a,w,hf,hok,h=>by
  simp only[cQ,Bool.and_eq_true,beq_iff_eq] at hok;obtain⟨h1,h2⟩:=h;have hd:r.depth≤fuel∧s.depth≤fuel:=by simp only[OTree4.depth] at hf;omega
  refine wpAnyH_all hok.1.1 (by simp) fun k hk=> ?_
  have hk:k=i∨k=j:=by simpa using hk
  rcases hk with rfl|rfl
  ·exact wpOp_mono (fun a' w' h'=>⟨h'.1,bV hs hQ r _ fuel _ _ hd.1 hok.1.2 h'.2⟩) h1
  ·exact wpOp_mono (fun a' w' h'=>⟨h'.1,bV hs hQ s _ fuel _ _ hd.2 hok.2 h'.2⟩) h2
 | .three i r j s k u,l,fuel+1,a,w,hf,hok,h=>by
  simp only[cQ,Bool.and_eq_true,beq_iff_eq] at hok;obtain⟨h1,h2,h3⟩:=h;have hd:r.depth≤fuel∧s.depth≤fuel∧u.depth≤fuel:=by simp only[OTree4.depth] at hf;omega
  refine wpAnyH_all hok.1.1.1 (by simp) fun z hz=> ?_
  have hz:z=i∨z=j∨z=k:=by simpa using hz
  rcases hz with rfl|rfl|rfl
  ·exact wpOp_mono (fun a' w' h'=>⟨h'.1,bV hs hQ r _ fuel _ _ hd.1 hok.1.1.2 h'.2⟩) h1
  ·exact wpOp_mono (fun a' w' h'=>⟨h'.1,bV hs hQ s _ fuel _ _ hd.2.1 hok.1.2 h'.2⟩) h2
  ·exact wpOp_mono (fun a' w' h'=>⟨h'.1,bV hs hQ u _ fuel _ _ hd.2.2 hok.2 h'.2⟩) h3
 | .four i r j s k u m v,l,fuel+1,a,w,hf,hok,h=>by
  simp only[cQ,Bool.and_eq_true,beq_iff_eq] at hok;obtain⟨h1,h2,h3,h4⟩:=h;have hd:r.depth≤fuel∧s.depth≤fuel∧u.depth≤fuel∧v.depth≤fuel:=by simp only[OTree4.depth] at hf;omega
  refine wpAnyH_all hok.1.1.1.1 (by simp) fun z hz=> ?_
  have hz:z=i∨z=j∨z=k∨z=m:=by simpa using hz
  rcases hz with rfl|rfl|rfl|rfl
  ·exact wpOp_mono (fun a' w' h'=>⟨h'.1,bV hs hQ r _ fuel _ _ hd.1 hok.1.1.1.2 h'.2⟩) h1
  ·exact wpOp_mono (fun a' w' h'=>⟨h'.1,bV hs hQ s _ fuel _ _ hd.2.1 hok.1.1.2 h'.2⟩) h2
  ·exact wpOp_mono (fun a' w' h'=>⟨h'.1,bV hs hQ u _ fuel _ _ hd.2.2.1 hok.1.2 h'.2⟩) h3
  ·exact wpOp_mono (fun a' w' h'=>⟨h'.1,bV hs hQ v _ fuel _ _ hd.2.2.2 hok.2 h'.2⟩) h4
theorem sW{id:Nat}{a:Act}{w:World}(t:OTree4)(S:World→Prop)(hm:P.follows .mixedOrders=true)
 (hs:Region.noSelect ops=true)(hf:Nat.ble t.depth ops.size=true)(hok:cQ .any ops t (Array.replicate ops.size false)=true)
 (hQ:∀c(a:Act)(d:Tmp)(v:Value)(w:World),Q (.panic c) (a.put (some d) v) w→Q (.panic c) a w)
 (hS:S w.drew)(h:S w.drew→bH P ops Q S t a w.drew):(Code.region id ops true).wp P Q a w:=
 wp_region_held_drew (S:=S) hm hS fun hS=>bV hs hQ t _ _ _ _ (Nat.le_of_ble_eq_true hf) hok (h hS)
variable{i j k m:Nat}{r s u v:OTree4}{o:Oper}{a:Act}{w:World}
theorem tE(h:Q .normal a w):bH P ops Q S .nil a w:=h
theorem Mb{v:Value}(ho:ops[i]? =some o)(hg:o.guard=none)(hy:∀w,S w→(execOp a.eval o).run P w=.ok (.value v) w)(hS:S w)
 (k:bH P ops Q S r (a.put o.dst v) w):bH P ops Q S (.take i r) a w:=
 ⟨o,v,ho,.inl ⟨by simp[Region.wanted,hg],hy⟩,hS,k⟩
theorem Iu{v:Value}(ho:ops[i]? =some o)(hw:Region.wanted o (yielded ops a.tmps)=true)(hy:∀w,S w→(execOp a.eval o).run P w=.ok (.value v) w)(hS:S w)
 (k:bH P ops Q S r (a.put o.dst v) w):bH P ops Q S (.take i r) a w:=
 ⟨o,v,ho,.inl ⟨hw,hy⟩,hS,k⟩
def dD(P:Program)(ops:Array Oper)(Q:Exit→Act→World→Prop)(S:World→Prop)(r:OTree4):Exit→Act→World→Prop
 | .normal,a,w=>S w∧bH P ops Q S r a w
 |e,a,w=>Q e a w
theorem rS{next:Act→World→Prop}{x:Result Next}(h:o.upon P a next (dD P ops Q S r) x):o.upon P a next Q x:=by
 cases x with
 |ok n w'=>
  cases n with
  |enter f args=>exact Calls.mono h fun e w'' he=>by cases e<;>exact he
  |_=>exact h
 |halt x w'=>
  cases x<;>exact h
theorem eL(ho:ops[i]? =some o)(h:wpList P ops (dD P ops Q S r) [o] a w):wpOp P ops Q i (fun a' w'=>S w'∧bH P ops Q S r a' w') a w:=by
 unfold wpOp;simp only[ho];unfold wpList at h;split
 ·rename_i hw;rw[if_pos hw] at h;rcases h with h|⟨h1,⟨a2,w2,h2⟩⟩
  ·exact .inl (rS h)
  ·exact .inr ⟨h1,⟨a2,w2,h2⟩⟩
 ·rename_i hw;rw[if_neg hw] at h;exact h
theorem xP(ho:ops[i]? =some o)(h:wpList P ops (dD P ops Q S r) [o] a w):bH P ops Q S (.one i r) a w:=eL ho h
theorem Pn{o':Oper}(ho:ops[i]? =some o)(ho':ops[j]? =some o')(h:wpList P ops (dD P ops Q S r) [o] a w)(h':wpList P ops (dD P ops Q S s) [o'] a w):bH P ops Q S (.two i r j s) a w:=
 ⟨eL ho h,eL ho' h'⟩
theorem It{o' o'':Oper}(ho:ops[i]? =some o)(ho':ops[j]? =some o')(ho'':ops[k]? =some o'')(h:wpList P ops (dD P ops Q S r) [o] a w)(h':wpList P ops (dD P ops Q S s) [o'] a w)(h'':wpList P ops (dD P ops Q S u) [o''] a w):bH P ops Q S (.three i r j s k u) a w:=
 ⟨eL ho h,eL ho' h',eL ho'' h''⟩
theorem Mc{o' o'' o3:Oper}(ho:ops[i]? =some o)(ho':ops[j]? =some o')(ho'':ops[k]? =some o'')(ho3:ops[m]? =some o3)(h:wpList P ops (dD P ops Q S r) [o] a w)(h':wpList P ops (dD P ops Q S s) [o'] a w)(h'':wpList P ops (dD P ops Q S u) [o''] a w)(h3:wpList P ops (dD P ops Q S v) [o3] a w):bH P ops Q S (.four i r j s k u m v) a w:=
 ⟨eL ho h,eL ho' h',eL ho'' h'',eL ho3 h3⟩
theorem tD(hS:S w)(k:S w→bH P ops Q S r a w):wpList P ops (dD P ops Q S r) [] a w:=⟨hS,k hS⟩
end
section
variable{P:Program}{ops:Array Oper}{Q:Exit→Act→World→Prop}{S:World→Prop}{a:Act}{w:World}{rest l:List Oper}{r:OTree4}
theorem iY{i:Nat}(h:bH P ops Q S (.take i r) a w):bH P ops Q S (.take i r) a w:=h
theorem Ea{i:Nat}(h:bH P ops Q S (.one i r) a w):bH P ops Q S (.one i r) a w:=h
theorem Rh{i j:Nat}{s:OTree4}(h:bH P ops Q S (.two i r j s) a w):bH P ops Q S (.two i r j s) a w:=h
theorem Ri{i j k:Nat}{s u:OTree4}(h:bH P ops Q S (.three i r j s k u) a w):bH P ops Q S (.three i r j s k u) a w:=h
theorem Rj{i j k m:Nat}{s u v:OTree4}(h:bH P ops Q S (.four i r j s k u m v) a w):bH P ops Q S (.four i r j s k u m v) a w:=h
end
section
variable{P:Program}{ops:Array Oper}{Q:Exit→Act→World→Prop}{S:World→Prop}{a:Act}{w:World}{rest l:List Oper}{r:OTree4}
theorem t4k{i:Nat}{o:Oper}{v:Value}(hy:∀w,S w→(execOp a.eval o).run P w=.ok (.value v) w)(hS:S w)(k:bH P ops Q S r (a.put o.dst v) w)(ho:ops[i]? =some o:=by simp only[gS];rfl)(hg:o.guard=none:=by rfl):bH P ops Q S (.take i r) a w:=Mb ho hg hy hS k
theorem t4w{i:Nat}{o:Oper}{v:Value}(hy:∀w,S w→(execOp a.eval o).run P w=.ok (.value v) w)(hS:S w)(k:bH P ops Q S r (a.put o.dst v) w)(ho:ops[i]? =some o:=by simp only[gS];rfl)(hw:Region.wanted o (yielded ops a.tmps)=true:=by rfl):bH P ops Q S (.take i r) a w:=Iu ho hw hy hS k
end
end Go.Bp
end
section
namespace Go.Bp
open Go.RowKit Go.Proofs
def OTree4.graft:OTree4→OTree4→OTree4
 | .nil,u=>u
 | .take i r,u=>.take i (r.graft u)
 | .one i r,u=>.one i (r.graft u)
 | .two i r j s,u=>.two i (r.graft u) j (s.graft u)
 | .three i r j s k v,u=>.three i (r.graft u) j (s.graft u) k (v.graft u)
 | .four i r j s k v m z,u=>.four i (r.graft u) j (s.graft u) k (v.graft u) m (z.graft u)
section
variable{P:Program}{ops:Array Oper}{Q Q':Exit→Act→World→Prop}{S:World→Prop}{a:Act}{w:World}
theorem eK{i:Nat}{K:Act→World→Prop}{u:OTree4}(h:wpOp P ops (dD P ops Q S u) i K a w):wpOp P ops Q i K a w:=by
 unfold wpOp at h⊢
 cases ho:ops[i]? with
 |none=>simp only[ho] at h⊢;exact h
 |some o=>
  simp only[ho] at h⊢;split
  ·rename_i hw;rw[if_pos hw] at h;rcases h with h|⟨h1,⟨a2,w2,h2⟩⟩
   ·exact .inl (rS h)
   ·exact .inr ⟨h1,⟨a2,w2,h2⟩⟩
  ·rename_i hw;rw[if_neg hw] at h;exact h
theorem eI{u:OTree4}:∀{t:OTree4}{a:Act}{w:World},bH P ops (dD P ops Q S u) S t a w→bH P ops Q S (t.graft u) a w
 | .nil,a,w,h=>h.2
 | .take i r,a,w,h=>by
  obtain⟨oi,v,h1,h2,h3,h4⟩:=h;exact⟨oi,v,h1,h2,h3,eI h4⟩
 | .one i r,a,w,h=>wpOp_mono (fun a' w' h'=>⟨h'.1,eI h'.2⟩) (eK h)
 | .two i r j s,a,w,h=>⟨wpOp_mono (fun a' w' h'=>⟨h'.1,eI h'.2⟩) (eK h.1),wpOp_mono (fun a' w' h'=>⟨h'.1,eI h'.2⟩) (eK h.2)⟩
 | .three i r j s k v,a,w,h=>⟨wpOp_mono (fun a' w' h'=>⟨h'.1,eI h'.2⟩) (eK h.1),wpOp_mono (fun a' w' h'=>⟨h'.1,eI h'.2⟩) (eK h.2.1),wpOp_mono (fun a' w' h'=>⟨h'.1,eI h'.2⟩) (eK h.2.2)⟩
 | .four i r j s k v m z,a,w,h=>⟨wpOp_mono (fun a' w' h'=>⟨h'.1,eI h'.2⟩) (eK h.1),wpOp_mono (fun a' w' h'=>⟨h'.1,eI h'.2⟩) (eK h.2.1),wpOp_mono (fun a' w' h'=>⟨h'.1,eI h'.2⟩) (eK h.2.2.1),wpOp_mono (fun a' w' h'=>⟨h'.1,eI h'.2⟩) (eK h.2.2.2)⟩
end
end Go.Bp
end
section
namespace Go.Bp
open Go.RowKit Go.Proofs
def cR(md:Region.Mode)(ops:Array Oper)(L:Array Bool):OTree4→Array Bool→Bool
 | .nil,l=>l==L
 | .take i r,l=>Region.free md ops l i&&(Region.ready md ops l).contains i&&cR md ops L r (l.setIfInBounds i true)
 | .one i r,l=>(Region.ready md ops l== [i])&&cR md ops L r (l.setIfInBounds i true)
 | .two i r j s,l=>(Region.ready md ops l== [i,j])&&cR md ops L r (l.setIfInBounds i true)&&cR md ops L s (l.setIfInBounds j true)
 | .three i r j s k u,l=>(Region.ready md ops l== [i,j,k])&&cR md ops L r (l.setIfInBounds i true)&&cR md ops L s (l.setIfInBounds j true)&&cR md ops L u (l.setIfInBounds k true)
 | .four i r j s k u m v,l=>(Region.ready md ops l== [i,j,k,m])&&cR md ops L r (l.setIfInBounds i true)&&cR md ops L s (l.setIfInBounds j true)&&cR md ops L u (l.setIfInBounds k true)&&cR md ops L v (l.setIfInBounds m true)
theorem bX{md:Region.Mode}{ops:Array Oper}{L:Array Bool}{z:OTree4}(hz:cQ md ops z L=true):∀(t:OTree4)(l:Array Bool),cR md ops L t l=true→cQ md ops (t.graft z) l=true
 | .nil,l,h=>by
  have e:l=L:=by simpa [cR] using h
  subst e;exact hz
 | .take i r,l,h=>by
  simp only[cR,OTree4.graft,cQ,Bool.and_eq_true] at h⊢;exact⟨h.1,bX hz r _ h.2⟩
 | .one i r,l,h=>by
  simp only[cR,OTree4.graft,cQ,Bool.and_eq_true] at h⊢;exact⟨h.1,bX hz r _ h.2⟩
 | .two i r j s,l,h=>by
  simp only[cR,OTree4.graft,cQ,Bool.and_eq_true] at h⊢;exact⟨⟨h.1.1,bX hz r _ h.1.2⟩,bX hz s _ h.2⟩
 | .three i r j s k u,l,h=>by
  simp only[cR,OTree4.graft,cQ,Bool.and_eq_true] at h⊢;exact⟨⟨⟨h.1.1.1,bX hz r _ h.1.1.2⟩,bX hz s _ h.1.2⟩,bX hz u _ h.2⟩
 | .four i r j s k u m v,l,h=>by
  simp only[cR,OTree4.graft,cQ,Bool.and_eq_true] at h⊢;exact⟨⟨⟨⟨h.1.1.1.1,bX hz r _ h.1.1.1.2⟩,bX hz s _ h.1.1.2⟩,bX hz u _ h.1.2⟩,bX hz v _ h.2⟩
theorem cY(z:OTree4):∀t:OTree4,(t.graft z).depth≤t.depth+z.depth
 | .nil=>by simp[OTree4.graft,OTree4.depth]
 | .take i r=>by have:=cY z r;simp only[OTree4.graft,OTree4.depth];omega
 | .one i r=>by have:=cY z r;simp only[OTree4.graft,OTree4.depth];omega
 | .two i r j s=>by have:=cY z r;have:=cY z s;simp only[OTree4.graft,OTree4.depth];omega
 | .three i r j s k u=>by have:=cY z r;have:=cY z s;have:=cY z u;simp only[OTree4.graft,OTree4.depth];omega
 | .four i r j s k u m v=>by have:=cY z r;have:=cY z s;have:=cY z u;have:=cY z v;simp only[OTree4.graft,OTree4.depth];omega
def qL(md:Region.Mode)(ops:Array Oper):OTree4→Array Bool→Bool
 | .take i r,l=>Region.free md ops l i&&(Region.ready md ops l).contains i&&qL md ops r (l.setIfInBounds i true)
 | .one i r,l=>(Region.ready md ops l== [i])&&qL md ops r (l.setIfInBounds i true)
 | .four i _ j _ k _ m _,l=>Region.ready md ops l== [i,j,k,m]
 |_,_=>false
def oK(md:Region.Mode)(ops:Array Oper)(L:Array Bool)(n:Nat):OTree4→Array Bool→Bool
 | .take i r,l=>oK md ops L n r (l.setIfInBounds i true)
 | .one i r,l=>oK md ops L n r (l.setIfInBounds i true)
 | .four i r j s k u m v,l=>if n=0 then cR md ops L r (l.setIfInBounds i true) else if n=1 then cR md ops L s (l.setIfInBounds j true) else if n=2 then cR md ops L u (l.setIfInBounds k true) else cR md ops L v (l.setIfInBounds m true)
 |_,_=>false
theorem pG{md:Region.Mode}{ops:Array Oper}{L:Array Bool}:∀(t:OTree4)(l:Array Bool),qL md ops t l=true→oK md ops L 0 t l=true→oK md ops L 1 t l=true→oK md ops L 2 t l=true→oK md ops L 3 t l=true→cR md ops L t l=true
 | .nil,l,h,_,_,_,_=>by simp[qL] at h
 | .take i r,l,h,h0,h1,h2,h3=>by
  simp only[qL,cR,Bool.and_eq_true] at h⊢;exact⟨h.1,pG r _ h.2 h0 h1 h2 h3⟩
 | .one i r,l,h,h0,h1,h2,h3=>by
  simp only[qL,cR,Bool.and_eq_true] at h⊢;exact⟨h.1,pG r _ h.2 h0 h1 h2 h3⟩
 | .two i r j s,l,h,_,_,_,_=>by simp[qL] at h
 | .three i r j s k u,l,h,_,_,_,_=>by simp[qL] at h
 | .four i r j s k u m v,l,h,h0,h1,h2,h3=>by
  simp only[cR,Bool.and_eq_true];exact⟨⟨⟨⟨h,h0⟩,h1⟩,h2⟩,h3⟩
end Go.Bp
end
section
def Go.Code.findR(n:Nat):Go.Code→Option (Array Go.Oper)
 | .region id ops _=>if id=n then some ops else none
 | .seq a b=>(a.findR n).orElse fun _=>b.findR n
 | .cond _ a b=>(a.findR n).orElse fun _=>b.findR n
 | .block _ b=>b.findR n
 | .loop b=>b.findR n
 | .scope b=>b.findR n
 | .rangeFunc _ _ a b=>(a.findR n).orElse fun _=>b.findR n
 |_=>none
namespace Go.St
open Go Go.Bp Go.RowKit Go.Proofs
theorem wQ{w:World}{g:Nat}{a b c:Int}(h:Blk w g 3 #[.int .i64 a,.int .i64 b,.int .i64 c]):bG w (.slice (some ⟨g,0,none⟩) 3 3) [a,b,c]:=qR (xs:=[a,b,c]) h (by simp)
theorem nU{w:World}{g:Nat}{a b c d:Int}(h:Blk w g 3 #[.int .i64 a,.int .i64 b,.int .i64 c,.int .i64 d]):bG w (.slice (some ⟨g,0,none⟩) 4 4) [a,b,c,d]:=qR (xs:=[a,b,c,d]) h (by simp)
section
variable{w:World}
theorem Rw(a b c:Int):(Instr.buildSlice 41 3 #[(0,.int .i64 a),(1,.int .i64 b),(2,.int .i64 c)]).run Tryz.prog w=.ok (.slice (some ⟨w.heap.size,0,none⟩) 3 3) (w.alloc (.cells #[.int .i64 a,.int .i64 b,.int .i64 c] 3)):=by kernel_rfl
theorem Nx(a b c d:Int):(Instr.buildSlice 41 4 #[(0,.int .i64 a),(1,.int .i64 b),(2,.int .i64 c),(3,.int .i64 d)]).run Tryz.prog w=.ok (.slice (some ⟨w.heap.size,0,none⟩) 4 4) (w.alloc (.cells #[.int .i64 a,.int .i64 b,.int .i64 c,.int .i64 d] 3)):=by kernel_rfl
theorem Th(p q r s:Nat):(Instr.buildSlice 47 4 #[(0,.slice (some ⟨p,0,none⟩) 4 4),(1,.slice (some ⟨q,0,none⟩) 4 4),(2,.slice (some ⟨r,0,none⟩) 4 4),(3,.slice (some ⟨s,0,none⟩) 4 4)]).run Tryz.prog w=.ok (.slice (some ⟨w.heap.size,0,none⟩) 4 4) (w.alloc (.cells #[.slice (some ⟨p,0,none⟩) 4 4,.slice (some ⟨q,0,none⟩) 4 4,.slice (some ⟨r,0,none⟩) 4 4,.slice (some ⟨s,0,none⟩) 4 4] 41)):=by kernel_rfl
theorem Tg(a b c:Int)(x y z:Bool):(Instr.buildSlice 32 3 #[(0,.agg #[.int .i64 a,.bool x]),(1,.agg #[.int .i64 b,.bool y]),(2,.agg #[.int .i64 c,.bool z])]).run Tryz.prog w=.ok (.slice (some ⟨w.heap.size,0,none⟩) 3 3) (w.alloc (.cells #[.int .i64 a,.bool x,.int .i64 b,.bool y,.int .i64 c,.bool z] 82)):=by kernel_rfl
end
section
variable{ops:Array Oper}{Q:Exit→Act→World→Prop}{a:Act}{w:World}{rest:List Oper}
variable{d:Option Tmp}{ty:TypeId}{pos:String}{after:Array Edge}
theorem Rl{x y z:Operand}{n0 n1 n2:Int}(hx:a.eval x=.int .i64 n0)(hy:a.eval y=.int .i64 n1)(hz:a.eval z=.int .i64 n2)
 (k:∀W g,Ext w W→Blk W g 3 #[.int .i64 n0,.int .i64 n1,.int .i64 n2]→w.heap.size≤g→wpList Tryz.prog ops Q rest (a.put d (.slice (some ⟨g,0,none⟩) 3 3)) W):
 wpList Tryz.prog ops Q (⟨d,.buildSlice 41 3 #[(0,x),(1,y),(2,z)],ty,pos,after,none⟩::rest) a w:=eV (by have:=Rw (w:=w) n0 n1 n2;simpa [hx,hy,hz] using this) k
end
theorem Ff{w:World}{g:Nat}{a b c d:Value}{x y z u:List Int}(h:Blk w g 41 #[a,b,c,d])(h1:bG w a x)(h2:bG w b y)(h3:bG w c z)(h4:bG w d u):Rows w (.slice (some ⟨g,0,none⟩) 4 4) [x,y,z,u]:=by
 refine⟨[a,b,c,d],rfl,⟨_,_,rfl,Nat.le_refl _,by unfold maxLen;decide,rfl,fun _=>⟨_,rfl,h.cells⟩⟩,fun i hi hi'=> ?_⟩
 simp only[List.length_cons,List.length_nil] at hi;match i,hi with
 |0,_=>exact h1
 |1,_=>exact h2
 |2,_=>exact h3
 |3,_=>exact h4
theorem Ke{w:World}{g:Nat}{a b c d e:Value}(h:Blk w g 36 #[a,b,c,d,e]):(loadVar 34 ⟨g,2,none⟩).run Tryz.prog w=.ok (.agg #[c,d]) w:=by
 obtain⟨i,hi,hs⟩:=iJ rA;have h2:=h.cells.sub 2 (cs':=[c,d]) (by intro j u hu;rcases j with _|_|j<;>simp_all)
 refine eH Tryz.underlying34 hi hs (fun j u hu=>h2 j u ?_)
 rcases j with _|_|j<;>simp_all
structure AwR(W:World)(g1 g4 g8:Nat)(A1 A4 A8:Option Addr)(c1 c4 c8:Nat)(rv rl:Value):Prop where
 B1:Blk W g1 36 #[.slice A1 3 c1,.int .i64 1400,.int .i64 5,.int .i64 7,.int .i64 3]
 B4:Blk W g4 36 #[.slice A4 2 c4,.int .i64 1000,.int .i64 3,.int .i64 6,.int .i64 1]
 B8:Blk W g8 36 #[.slice A8 3 c8,.int .i64 1200,.int .i64 4,.int .i64 9,.int .i64 3]
 S4:bY W (.slice A4 2 c4) [⟨2,false⟩,⟨3,false⟩]
 S8:bY W (.slice A8 3 c8) [⟨2,false⟩,⟨1,true⟩,⟨0,true⟩]
 R:Rows W rv nD
 L:bY W rl jY
def Bt:OTree4:=(.take 0 (.take 1 (.take 2 (.take 3 (.take 4 (.take 5 (.take 6 (.take 7 (.take 8 (.take 9 (.take 10 (.take 11 (.take 12 (.take 13 (.take 14 (.take 15 (.take 16 (.take 17 (.take 18 (.take 19 (.take 20 (.take 21 (.take 22 (.take 23 (.take 24 (.take 25 (.take 26 (.take 27 (.take 28 (.take 29 (.take 30 (.take 31 (.take 32 (.take 33 (.take 34 (.take 35 (.take 36 (.take 37 (.one 38 (.take 39 (.take 40 (.take 41 (.take 42 (.take 43 (.take 44 (.take 45 (.take 46 (.take 47 (.take 48 (.take 49 (.take 50 (.take 51 (.take 52 (.one 53 (.one 54 (.one 55 .nil))))))))))))))))))))))))))))))))))))))))))))))))))))))))
def vX:OTree4:=(.take 56 (.take 57 (.take 58 (.take 59 (.take 60 (.take 61 (.take 62 (.take 63 (.take 64 (.take 65 (.take 66 (.take 67 (.one 68 (.one 69 .nil))))))))))))))
def oF:OTree4:=(.take 70 (.take 71 (.take 72 (.take 73 (.take 74 (.take 75 (.take 76 (.take 77 (.four 78 (.three 79 (.two 80 (.one 81 .nil) 81 (.one 80 .nil)) 80 (.two 79 (.one 81 .nil) 81 (.one 79 .nil)) 81 (.two 79 (.one 80 .nil) 80 (.one 79 .nil))) 79 (.three 78 (.two 80 (.one 81 .nil) 81 (.one 80 .nil)) 80 (.two 78 (.one 81 .nil) 81 (.one 78 .nil)) 81 (.two 78 (.one 80 .nil) 80 (.one 78 .nil))) 80 (.three 78 (.two 79 (.one 81 .nil) 81 (.one 79 .nil)) 79 (.two 78 (.one 81 .nil) 81 (.one 78 .nil)) 81 (.two 78 (.one 79 .nil) 79 (.one 78 .nil))) 81 (.three 78 (.two 79 (.one 80 .nil) 80 (.one 79 .nil)) 79 (.two 78 (.one 80 .nil) 80 (.one 78 .nil)) 80 (.two 78 (.one 79 .nil) 79 (.one 78 .nil))))))))))))
def rR:OTree4:=(.one 82 (.one 83 (.take 84 (.take 85 (.take 86 (.take 87 (.take 88 (.take 89 (.take 90 (.take 91 (.take 92 (.take 93 (.one 94 (.one 95 (.take 96 (.take 97 .nil))))))))))))))))
def Pj:Array Bool:=#[true,true,true,true,true,true,true,true,true,true,true,true,true,true,true,true,true,true,true,true,true,true,true,true,true,true,true,true,true,true,true,true,true,true,true,true,true,true,true,true,true,true,true,true,true,true,true,true,true,true,true,true,true,true,true,true,false,false,false,false,false,false,false,false,false,false,false,false,false,false,false,false,false,false,false,false,false,false,false,false,false,false,false,false,false,false,false,false,false,false,false,false,false,false,false,false,false,false]
def xL:Array Bool:=#[true,true,true,true,true,true,true,true,true,true,true,true,true,true,true,true,true,true,true,true,true,true,true,true,true,true,true,true,true,true,true,true,true,true,true,true,true,true,true,true,true,true,true,true,true,true,true,true,true,true,true,true,true,true,true,true,true,true,true,true,true,true,true,true,true,true,true,true,true,true,false,false,false,false,false,false,false,false,false,false,false,false,false,false,false,false,false,false,false,false,false,false,false,false,false,false,false,false]
def Bs:Array Bool:=#[true,true,true,true,true,true,true,true,true,true,true,true,true,true,true,true,true,true,true,true,true,true,true,true,true,true,true,true,true,true,true,true,true,true,true,true,true,true,true,true,true,true,true,true,true,true,true,true,true,true,true,true,true,true,true,true,true,true,true,true,true,true,true,true,true,true,true,true,true,true,true,true,true,true,true,true,true,true,true,true,true,true,false,false,false,false,false,false,false,false,false,false,false,false,false,false,false,false]
theorem Sb:((Tryz.f19.body.bind (Code.findR 9)).all fun ops=>cR .any ops Pj Bt (Array.replicate ops.size false))=true:=by kernel_rfl
theorem Sa:((Tryz.f19.body.bind (Code.findR 9)).all fun ops=>cR .any ops xL vX Pj)=true:=by kernel_rfl
theorem Rz:((Tryz.f19.body.bind (Code.findR 9)).all fun ops=>qL .any ops oF xL)=true:=by kernel_rfl
theorem Qk:((Tryz.f19.body.bind (Code.findR 9)).all fun ops=>oK .any ops Bs 0 oF xL)=true:=by kernel_rfl
theorem Qj:((Tryz.f19.body.bind (Code.findR 9)).all fun ops=>oK .any ops Bs 1 oF xL)=true:=by kernel_rfl
theorem Qi:((Tryz.f19.body.bind (Code.findR 9)).all fun ops=>oK .any ops Bs 2 oF xL)=true:=by kernel_rfl
theorem Qh:((Tryz.f19.body.bind (Code.findR 9)).all fun ops=>oK .any ops Bs 3 oF xL)=true:=by kernel_rfl
theorem Ry:((Tryz.f19.body.bind (Code.findR 9)).all fun ops=>cQ .any ops rR Bs)=true:=by kernel_rfl
theorem Rx:((Tryz.f19.body.bind (Code.findR 9)).all fun ops=>Region.noSelect ops&&Nat.ble (Bt.depth+(vX.depth+(oF.depth+rR.depth))) ops.size)=true:=by kernel_rfl
theorem Li{ops:Array Oper}(h:Tryz.f19.body.bind (Code.findR 9)=some ops):Region.noSelect ops=true∧Nat.ble (Bt.graft (vX.graft (oF.graft rR))).depth ops.size=true∧cQ .any ops (Bt.graft (vX.graft (oF.graft rR))) (Array.replicate ops.size false)=true:=by
 have e0:=Sb;have e1:=Sa;have e2:=Rz;have e3:=Ry;have e4:=Rx;have ea:=Qk;have eb:=Qj;have ec:=Qi;have ed:=Qh;rw[h,Option.all_some] at e0 e1 e2 e3 e4 ea eb ec ed;rw[Bool.and_eq_true] at e4;refine⟨e4.1,?_,bX (bX (bX e3 _ _ (pG _ _ e2 ea eb ec ed)) _ _ e1) _ _ e0⟩;have h1:=cY rR oF;have h2:=cY (oF.graft rR) vX;have h3:=cY (vX.graft (oF.graft rR)) Bt;have h4:=Nat.le_of_ble_eq_true e4.2;exact Nat.ble_eq_true_of_le (by omega)
end Go.St
end
section
namespace Go.St
open Go Go.Bp Go.RowKit Go.Proofs
set_option maxHeartbeats 8000000 in
theorem Ti{ops:Array Oper}{Q:Exit→Act→World→Prop}{Wz w:World}{g1 g4 g8:Nat}{A1 A4 A8:Option Addr}{c1 c4 c8:Nat}{rv rl:Value}{g151 g152 g153 g154:Nat}{x0 x1 x2 x3 x4 x5 x6 x7 x8 x9 x11 x13 x15 x16 x18 x19 x20 x21 x22 x23 x24 x25 x26 x27 x28 x29 x30 x31 x32 x33 x34 x35 x36 x37 x38 x39 x40 x41 x42 x43 x44 x45 x46 x47 x48 x49 x50 x51 x52 x53 x54 x55 x56 x57 x58 x59 x60 x61 x62 x63 x64 x65 x66 x67 x68 x69 x70 x71 x72 x73 x74 x75 x76 x77 x78 x79 x80 x81 x82 x83 x84 x85 x86 x87 x88 x89 x90 x91 x92 x93 x94 x95 x96 x97 x98 x99 x100 x101 x102 x103 x104 x105 x106 x107 x108 x109 x110 x111 x112 x113 x114 x115 x116 x117 x118 x119 x120 x121 x122 x123 x124 x125 x126 x127 x128 x129 x130 x131 x132 x133 x134 x135 x136 x137 x138 x139 x140 x141 x142 x143 x144 x145 x146 x147 x148 x155 x156 x157 x158 x159 x160 x161 x162 x163 x164 x165 x166 x167 x168 x169:Value}(hops:Tryz.f19.body.bind (Code.findR 9)=some ops)(H:AwR Wz g1 g4 g8 A1 A4 A8 c1 c4 c8 rv rl)(hX:Ext Wz w)(hI151:bG w (.slice (some ⟨g151,0,none⟩) 4 4) [0,1000,-1,-1])(hI152:bG w (.slice (some ⟨g152,0,none⟩) 4 4) [300,1100,-1,-1])(hI153:bG w (.slice (some ⟨g153,0,none⟩) 4 4) [600,600,-1,-1])(hI154:bG w (.slice (some ⟨g154,0,none⟩) 4 4) [-1,-1,-1,-1])(K:∀(l:List Value)w',Ext Wz w'→Q .normal ⟨(.bool true::l).toArray,[]⟩ w'):bH Tryz.prog ops Q (fun w'=>Ext Wz w') (rR) ⟨#[x0,x1,x2,x3,x4,x5,x6,x7,x8,x9,rv,x11,.bool true,x13,.string (S mG),x15,x16,rl,x18,x19,x20,x21,x22,x23,x24,x25,x26,x27,x28,x29,x30,x31,x32,x33,x34,x35,x36,x37,x38,x39,x40,x41,x42,x43,x44,x45,x46,x47,x48,x49,x50,x51,x52,x53,x54,x55,x56,x57,x58,x59,x60,x61,x62,x63,x64,x65,x66,x67,x68,x69,x70,x71,x72,x73,x74,x75,x76,x77,x78,x79,x80,x81,x82,x83,x84,x85,x86,x87,x88,x89,x90,x91,x92,x93,x94,x95,x96,x97,x98,x99,x100,x101,x102,x103,x104,x105,x106,x107,x108,x109,x110,x111,x112,x113,x114,x115,x116,x117,x118,x119,x120,x121,x122,x123,x124,x125,x126,x127,x128,x129,x130,x131,x132,x133,x134,x135,x136,x137,x138,x139,x140,x141,x142,x143,x144,x145,x146,x147,x148,.bool true,rv,.slice (some ⟨g151,0,none⟩) 4 4,.slice (some ⟨g152,0,none⟩) 4 4,.slice (some ⟨g153,0,none⟩) 4 4,.slice (some ⟨g154,0,none⟩) 4 4,x155,x156,x157,x158,x159,x160,x161,x162,x163,x164,x165,x166,x167,x168,x169],[]⟩ w:=by
 conv at hops=>lhs;whnf
 injection hops with hops
 subst hops;have hst:(S mG).toList=[104,111,109,101,45,48,46,104,105,108,108,61,48,46,104,111,109,101,45,50,46,114,105,110,103]:=by rw[ByteArray.toList_eq];rfl
 have hRw:=H.R;have hRl:=H.L;have HLr:=Lib.hid (show∀v u W,bY W v jY→bY W u jY→Calls Tryz.prog 34 #[v,u] W (dB W true) from fun v u W h h'=>by have:=fV v u _ _ W h h';rwa [show decide (jY=jY)=true by simp] at this)
 have HTb:=Lib.hid (show∀v u W,Rows W v nD→Rows W u [[0,1000,-1,-1],[300,1100,-1,-1],[600,600,-1,-1],[-1,-1,-1,-1]]→Calls Tryz.prog 27 #[v,u] W (dB W true) from fun v u W h h'=>by have:=sU v u _ _ W h h';rwa [show decide (nD=[[0,1000,-1,-1],[300,1100,-1,-1],[600,600,-1,-1],[-1,-1,-1,-1]])=true by decide] at this)
 have hHd:=hX;delta rR
 repeat' first|((with_reducible refine iY ?_);(first|((with_reducible refine iY (i:=90) ?_);refine t4w (v:=.bool true) ?_ hHd ?_;(·(intro wq hSw;go_simp;first|done|exact hst)))|(refine t4k (v:= ?_) ?_ hHd ?_;rotate_left;(·(intro wq hSw;(try dsimp only at hSw);go_simp;(try with_reducible rfl))))|(refine t4w (v:= ?_) ?_ hHd ?_;rotate_left;(·(intro wq hSw;(try dsimp only at hSw);go_simp;(try with_reducible rfl)))));(try simp only[pS]))|((with_reducible refine Ea ?_);refine xP (by simp only[gS];rfl) ?_)|((with_reducible refine aH (d:=some 155) ?_);((refine bR (by rfl) (e:=41) (cs:=#[.slice (some ⟨g151,0,none⟩) 4 4,.slice (some ⟨g152,0,none⟩) 4 4,.slice (some ⟨g153,0,none⟩) 4 4,.slice (some ⟨g154,0,none⟩) 4 4]) ?_ ?_;(simp[Act.eval];exact Th _ _ _ _);intro W155 g155 hE155 hB155 hg155;have hR155:=Ff hB155 (hI151.ext hE155) (hI152.ext hE155) (hI153.ext hE155) (hI154.ext hE155);replace hX:=hX.trans hE155)))|((with_reducible refine aH (d:=some 156) ?_);((refine bN (by rfl) (HTb.out _ _ _ (hRw.ext hX) hR155) (by go_simp) ?_;rintro e W156 ⟨rfl,hE156⟩;refine⟨_,rfl,?_⟩;replace hX:=hX.trans hE156)))|((with_reducible refine aH (d:=some 167) ?_);((refine bN (by rfl) (Bk _) (by go_simp) ?_;rintro e W167 ⟨tl2,rfl,hT2,hE167⟩;refine⟨_,rfl,?_⟩;replace hX:=hX.trans hE167)))|((with_reducible refine aH (d:=some 168) ?_);((refine bN (by rfl) (HLr.out _ _ _ (hRl.ext hX) hT2) (by go_simp) ?_;rintro e W168 ⟨rfl,hE168⟩;refine⟨_,rfl,?_⟩;replace hX:=hX.trans hE168)))|((with_reducible refine bB ?_);clear hHd;refine tD ?_ (fun hHd=> ?_);(·assumption);(try simp only[pS]))|(with_reducible refine tE ?_)
 (exact K _ _ hX)
end Go.St
end
section
namespace Go.St
open Go Go.Bp Go.RowKit Go.Proofs
set_option maxHeartbeats 8000000 in
theorem Tj{ops:Array Oper}{Q:Exit→Act→World→Prop}{Wz w:World}{g1 g4 g8:Nat}{A1 A4 A8:Option Addr}{c1 c4 c8:Nat}{rv rl:Value}{x0 x1 x2 x3 x4 x5 x6 x7 x9 x11 x13 x15 x16 x18 x19 x20 x21 x22 x23 x24 x25 x26 x27 x28 x29 x30 x31 x32 x33 x34 x35 x36 x37 x38 x39 x40 x41 x42 x43 x44 x45 x46 x47 x48 x49 x50 x51 x52 x53 x54 x55 x56 x57 x58 x59 x60 x61 x62 x63 x64 x65 x66 x67 x68 x69 x70 x71 x72 x73 x74 x75 x76 x77 x78 x79 x80 x81 x82 x83 x84 x85 x86 x87 x88 x89 x90 x91 x92 x93 x94 x95 x96 x97 x98 x99 x100 x101 x102 x103 x104 x105 x106 x107 x108 x109 x110 x111 x112 x113 x114 x115 x116 x117 x118 x119 x120 x121 x122 x123 x124 x125 x126 x127 x128 x129 x130 x131 x132 x133 x134 x136 x137 x138 x139 x140 x141 x143 x144 x145 x146 x147 x148 x149 x150 x151 x152 x153 x154 x155 x156 x157 x158 x159 x160 x161 x162 x163 x164 x165 x166 x167 x168 x169:Value}(hops:Tryz.f19.body.bind (Code.findR 9)=some ops)(H:AwR Wz g1 g4 g8 A1 A4 A8 c1 c4 c8 rv rl)(hX:Ext Wz w)(K:∀(l:List Value)w',Ext Wz w'→Q .normal ⟨(.bool true::l).toArray,[]⟩ w'):bH Tryz.prog ops Q (fun w'=>Ext Wz w') (oF.graft rR) ⟨#[x0,x1,x2,x3,x4,x5,x6,x7,.pointer (some ⟨g8,0,none⟩),x9,rv,x11,.bool true,x13,.string (S mG),x15,x16,rl,x18,x19,x20,x21,x22,x23,x24,x25,x26,x27,x28,x29,x30,x31,x32,x33,x34,x35,x36,x37,x38,x39,x40,x41,x42,x43,x44,x45,x46,x47,x48,x49,x50,x51,x52,x53,x54,x55,x56,x57,x58,x59,x60,x61,x62,x63,x64,x65,x66,x67,x68,x69,x70,x71,x72,x73,x74,x75,x76,x77,x78,x79,x80,x81,x82,x83,x84,x85,x86,x87,x88,x89,x90,x91,x92,x93,x94,x95,x96,x97,x98,x99,x100,x101,x102,x103,x104,x105,x106,x107,x108,x109,x110,x111,x112,x113,x114,x115,x116,x117,x118,x119,x120,x121,x122,x123,x124,x125,x126,x127,x128,x129,x130,x131,x132,x133,x134,.bool true,x136,x137,x138,x139,x140,x141,.bool true,x143,x144,x145,x146,x147,x148,x149,x150,x151,x152,x153,x154,x155,x156,x157,x158,x159,x160,x161,x162,x163,x164,x165,x166,x167,x168,x169],[]⟩ w:=by
 conv at hops=>lhs;whnf
 injection hops with hops
 subst hops;have hb8_1:=H.B8.cell 1;simp at hb8_1;refine eI ?_;have hHd:=hX;delta oF
 repeat' first|((with_reducible refine iY ?_);(first|((with_reducible refine iY (i:=73) ?_);refine t4w (v:=.int .i64 1200) ?_ hHd ?_;(·exact aA (by rfl) (fun W h=>aY Tryz.underlying3 rfl (Ext.cell_some h hb8_1))))|(refine t4k (v:= ?_) ?_ hHd ?_;rotate_left;(·(intro wq hSw;(try dsimp only at hSw);go_simp;(try with_reducible rfl))))|(refine t4w (v:= ?_) ?_ hHd ?_;rotate_left;(·(intro wq hSw;(try dsimp only at hSw);go_simp;(try with_reducible rfl)))));(try simp only[pS]))|((with_reducible refine Ea ?_);refine xP (by simp only[gS];rfl) ?_)|((with_reducible refine Rh ?_);refine Pn (by simp only[gS];rfl) (by simp only[gS];rfl) ?_ ?_)|((with_reducible refine Ri ?_);refine It (by simp only[gS];rfl) (by simp only[gS];rfl) (by simp only[gS];rfl) ?_ ?_ ?_)|((with_reducible refine Rj ?_);refine Mc (by simp only[gS];rfl) (by simp only[gS];rfl) (by simp only[gS];rfl) (by simp only[gS];rfl) ?_ ?_ ?_ ?_)|((with_reducible refine aH (d:=some 151) ?_);((refine bR (by rfl) (e:=3) (cs:=#[.int .i64 0,.int .i64 1000,.int .i64 (-1),.int .i64 (-1)]) ?_ ?_;(simp[Act.eval];exact Nx _ _ _ _);intro W151 g151 hE151 hB151 hg151;have hI151:=nU hB151;(try replace hI152:=hI152.ext hE151);(try replace hI153:=hI153.ext hE151);(try replace hI154:=hI154.ext hE151);replace hX:=hX.trans hE151)))|((with_reducible refine aH (d:=some 152) ?_);((refine bR (by rfl) (e:=3) (cs:=#[.int .i64 300,.int .i64 1100,.int .i64 (-1),.int .i64 (-1)]) ?_ ?_;(simp[Act.eval];exact Nx _ _ _ _);intro W152 g152 hE152 hB152 hg152;have hI152:=nU hB152;(try replace hI151:=hI151.ext hE152);(try replace hI153:=hI153.ext hE152);(try replace hI154:=hI154.ext hE152);replace hX:=hX.trans hE152)))|((with_reducible refine aH (d:=some 153) ?_);((refine bR (by rfl) (e:=3) (cs:=#[.int .i64 600,.int .i64 600,.int .i64 (-1),.int .i64 (-1)]) ?_ ?_;(simp[Act.eval];exact Nx _ _ _ _);intro W153 g153 hE153 hB153 hg153;have hI153:=nU hB153;(try replace hI151:=hI151.ext hE153);(try replace hI152:=hI152.ext hE153);(try replace hI154:=hI154.ext hE153);replace hX:=hX.trans hE153)))|((with_reducible refine aH (d:=some 154) ?_);((refine bR (by rfl) (e:=3) (cs:=#[.int .i64 (-1),.int .i64 (-1),.int .i64 (-1),.int .i64 (-1)]) ?_ ?_;(simp[Act.eval];exact Nx _ _ _ _);intro W154 g154 hE154 hB154 hg154;have hI154:=nU hB154;(try replace hI151:=hI151.ext hE154);(try replace hI152:=hI152.ext hE154);(try replace hI153:=hI153.ext hE154);replace hX:=hX.trans hE154)))|((with_reducible refine bB ?_);clear hHd;refine tD ?_ (fun hHd=> ?_);(·assumption);(try simp only[pS]))|(with_reducible refine tE ?_)
 all_goals(exact⟨hHd,Ti rfl H hX hI151 hI152 hI153 hI154 K⟩)
end Go.St
end
section
namespace Go.St
open Go Go.Bp Go.RowKit Go.Proofs
set_option maxHeartbeats 8000000 in
theorem Tk{ops:Array Oper}{Q:Exit→Act→World→Prop}{Wz w:World}{g1 g4 g8:Nat}{A1 A4 A8:Option Addr}{c1 c4 c8:Nat}{rv rl:Value}{x0 x1 x2 x3 x5 x6 x7 x9 x11 x13 x15 x16 x18 x19 x20 x21 x22 x23 x24 x25 x26 x27 x28 x29 x30 x31 x32 x33 x34 x35 x36 x37 x38 x39 x40 x41 x42 x43 x44 x45 x46 x47 x48 x49 x50 x51 x52 x53 x54 x55 x56 x57 x58 x59 x60 x61 x62 x63 x64 x65 x66 x67 x68 x69 x70 x71 x72 x73 x74 x75 x76 x77 x78 x79 x80 x81 x82 x83 x84 x85 x86 x87 x88 x89 x90 x91 x92 x93 x94 x95 x96 x97 x98 x99 x100 x101 x102 x103 x104 x105 x106 x107 x108 x109 x110 x111 x112 x113 x114 x115 x116 x117 x118 x119 x120 x121 x122 x124 x125 x126 x127 x129 x130 x131 x132 x133 x134 x135 x136 x137 x138 x139 x140 x141 x142 x143 x144 x145 x146 x147 x148 x149 x150 x151 x152 x153 x154 x155 x156 x157 x158 x159 x160 x161 x162 x163 x164 x165 x166 x167 x168 x169:Value}(hops:Tryz.f19.body.bind (Code.findR 9)=some ops)(H:AwR Wz g1 g4 g8 A1 A4 A8 c1 c4 c8 rv rl)(hX:Ext Wz w)(K:∀(l:List Value)w',Ext Wz w'→Q .normal ⟨(.bool true::l).toArray,[]⟩ w'):bH Tryz.prog ops Q (fun w'=>Ext Wz w') (vX.graft (oF.graft rR)) ⟨#[x0,x1,x2,x3,.pointer (some ⟨g4,0,none⟩),x5,x6,x7,.pointer (some ⟨g8,0,none⟩),x9,rv,x11,.bool true,x13,.string (S mG),x15,x16,rl,x18,x19,x20,x21,x22,x23,x24,x25,x26,x27,x28,x29,x30,x31,x32,x33,x34,x35,x36,x37,x38,x39,x40,x41,x42,x43,x44,x45,x46,x47,x48,x49,x50,x51,x52,x53,x54,x55,x56,x57,x58,x59,x60,x61,x62,x63,x64,x65,x66,x67,x68,x69,x70,x71,x72,x73,x74,x75,x76,x77,x78,x79,x80,x81,x82,x83,x84,x85,x86,x87,x88,x89,x90,x91,x92,x93,x94,x95,x96,x97,x98,x99,x100,x101,x102,x103,x104,x105,x106,x107,x108,x109,x110,x111,x112,x113,x114,x115,x116,x117,x118,x119,x120,x121,x122,.bool true,x124,x125,x126,x127,.bool true,x129,x130,x131,x132,x133,x134,x135,x136,x137,x138,x139,x140,x141,x142,x143,x144,x145,x146,x147,x148,x149,x150,x151,x152,x153,x154,x155,x156,x157,x158,x159,x160,x161,x162,x163,x164,x165,x166,x167,x168,x169],[]⟩ w:=by
 conv at hops=>lhs;whnf
 injection hops with hops
 subst hops;have hb4_1:=H.B4.cell 1;simp at hb4_1;have hb8_0:=H.B8.cell 0;simp at hb8_0;have HL8:=Lib.hid (show∀v u W,bY W v [⟨2,false⟩,⟨1,true⟩,⟨0,true⟩]→bY W u [⟨2,false⟩,⟨1,true⟩,⟨0,true⟩]→Calls Tryz.prog 34 #[v,u] W (dB W true) from fun v u W h h'=>by have:=fV v u _ _ W h h';rwa [show decide (([⟨2,false⟩,⟨1,true⟩,⟨0,true⟩]:List Step)=[⟨2,false⟩,⟨1,true⟩,⟨0,true⟩])=true by decide] at this)
 have hS8:=H.S8;refine eI ?_;have hHd:=hX;delta vX
 repeat' first|((with_reducible refine iY ?_);(first|((with_reducible refine iY (i:=59) ?_);refine t4w (v:=.int .i64 1000) ?_ hHd ?_;(·exact aA (by rfl) (fun W h=>aY Tryz.underlying3 rfl (Ext.cell_some h hb4_1))))|((with_reducible refine iY (i:=64) ?_);refine t4w (v:=.slice A8 3 c8) ?_ hHd ?_;(·exact aA (by rfl) (fun W h=>aY Tryz.underlying32 rfl (Ext.cell_some h hb8_0))))|((with_reducible refine iY (i:=65) ?_);refine t4w (v:=.agg #[.int .i64 2,.bool false]) ?_ hHd ?_;(·(intro wq hSw;go_simp;try rfl)))|((with_reducible refine iY (i:=66) ?_);refine t4w (v:=.agg #[.int .i64 1,.bool true]) ?_ hHd ?_;(·(intro wq hSw;go_simp;try rfl)))|((with_reducible refine iY (i:=67) ?_);refine t4w (v:=.agg #[.int .i64 0,.bool true]) ?_ hHd ?_;(·(intro wq hSw;go_simp;try rfl)))|(refine t4k (v:= ?_) ?_ hHd ?_;rotate_left;(·(intro wq hSw;(try dsimp only at hSw);go_simp;(try with_reducible rfl))))|(refine t4w (v:= ?_) ?_ hHd ?_;rotate_left;(·(intro wq hSw;(try dsimp only at hSw);go_simp;(try with_reducible rfl)))));(try simp only[pS]))|((with_reducible refine Ea ?_);refine xP (by simp only[gS];rfl) ?_)|((with_reducible refine aH (d:=some 141) ?_);((refine bR (by rfl) (e:=82) (cs:=#[.int .i64 2,.bool false,.int .i64 1,.bool true,.int .i64 0,.bool true]) ?_ ?_;(simp[Act.eval];exact Tg _ _ _ _ _ _);intro W141 g141 hE141 hB141 hg141;have hL141:=wE (xs:=[⟨2,false⟩,⟨1,true⟩,⟨0,true⟩]) hB141 (by decide);replace hX:=hX.trans hE141)))|((with_reducible refine aH (d:=some 142) ?_);((refine bN (by rfl) (HL8.out _ _ _ (hS8.ext hX) hL141) (by go_simp) ?_;rintro e W142 ⟨rfl,hE142⟩;refine⟨_,rfl,?_⟩;replace hX:=hX.trans hE142)))|((with_reducible refine bB ?_);clear hHd;refine tD ?_ (fun hHd=> ?_);(·assumption);(try simp only[pS]))|(with_reducible refine tE ?_)
 exact⟨hHd,Tj rfl H hX K⟩
end Go.St
end
section
namespace Go.St
open Go Go.Bp Go.RowKit Go.Proofs
set_option maxHeartbeats 8000000 in
theorem Tl{ops:Array Oper}{Q:Exit→Act→World→Prop}{Wz w:World}{g1 g4 g8:Nat}{A1 A4 A8:Option Addr}{c1 c4 c8:Nat}{rv rl:Value}{x0 x6 x16 x19 x20 x21 x22 x23 x24 x25 x26 x27 x28 x29 x30 x31 x32 x33 x34 x35 x36 x37 x38 x39 x40 x41 x42 x43 x44 x45 x46 x47 x48 x49 x50 x51 x52 x53 x54 x55 x56 x57 x58 x59 x60 x61 x62 x63 x64 x65 x66 x67 x68 x69 x70 x71 x72 x73 x74 x75 x76 x77 x78 x79 x80 x81 x82 x83 x84 x85 x86 x87 x88 x89 x90 x91 x92 x93 x94 x95 x96 x97 x98 x99 x100 x101 x102 x103 x104 x105 x106 x107 x108 x109 x110 x111 x112 x113 x114 x115 x116 x117 x118 x119 x120 x121 x122 x123 x124 x125 x126 x127 x128 x129 x130 x131 x132 x133 x134 x135 x136 x137 x138 x139 x140 x141 x142 x143 x144 x145 x146 x147 x148 x149 x150 x151 x152 x153 x154 x155 x156 x157 x158 x159 x160 x161 x162 x163 x164 x165 x166 x167 x168 x169:Value}(hops:Tryz.f19.body.bind (Code.findR 9)=some ops)(H:AwR Wz g1 g4 g8 A1 A4 A8 c1 c4 c8 rv rl)(hX:Ext Wz w)(K:∀(l:List Value)w',Ext Wz w'→Q .normal ⟨(.bool true::l).toArray,[]⟩ w'):bH Tryz.prog ops Q (fun w'=>Ext Wz w') (Bt.graft (vX.graft (oF.graft rR))) ⟨#[x0,.pointer (some ⟨g1,0,none⟩),.int .i64 0,.int .i64 0,.pointer (some ⟨g4,0,none⟩),.int .i64 0,x6,.int .i64 9,.pointer (some ⟨g8,0,none⟩),.int .i64 0,rv,.int .i64 0,.bool true,.int .i64 0,.string (S mG),.int .i64 0,x16,rl,.int .i64 0,x19,x20,x21,x22,x23,x24,x25,x26,x27,x28,x29,x30,x31,x32,x33,x34,x35,x36,x37,x38,x39,x40,x41,x42,x43,x44,x45,x46,x47,x48,x49,x50,x51,x52,x53,x54,x55,x56,x57,x58,x59,x60,x61,x62,x63,x64,x65,x66,x67,x68,x69,x70,x71,x72,x73,x74,x75,x76,x77,x78,x79,x80,x81,x82,x83,x84,x85,x86,x87,x88,x89,x90,x91,x92,x93,x94,x95,x96,x97,x98,x99,x100,x101,x102,x103,x104,x105,x106,x107,x108,x109,x110,x111,x112,x113,x114,x115,x116,x117,x118,x119,x120,x121,x122,x123,x124,x125,x126,x127,x128,x129,x130,x131,x132,x133,x134,x135,x136,x137,x138,x139,x140,x141,x142,x143,x144,x145,x146,x147,x148,x149,x150,x151,x152,x153,x154,x155,x156,x157,x158,x159,x160,x161,x162,x163,x164,x165,x166,x167,x168,x169],[]⟩ w:=by
 conv at hops=>lhs;whnf
 injection hops with hops
 subst hops;have hB1:=H.B1;have hb1_1:=H.B1.cell 1;simp at hb1_1;have hb1_4:=H.B1.cell 4;simp at hb1_4;have hb4_0:=H.B4.cell 0;simp at hb4_0;have HL4:=Lib.hid (show∀v u W,bY W v [⟨2,false⟩,⟨3,false⟩]→bY W u (fP [2,3])→Calls Tryz.prog 34 #[v,u] W (dB W true) from fun v u W h h'=>by have:=fV v u _ _ W h h';rwa [show decide ([⟨2,false⟩,⟨3,false⟩]=fP [2,3])=true by decide] at this)
 have hS4:=H.S4;refine eI ?_;have hHd:=hX;delta Bt
 repeat' first|((with_reducible refine iY ?_);(first|((with_reducible refine iY (i:=32) ?_);refine t4w (v:=.int .i64 1400) ?_ hHd ?_;(·exact aA (by rfl) (fun W h=>aY Tryz.underlying3 rfl (Ext.cell_some h hb1_1))))|((with_reducible refine iY (i:=37) ?_);refine t4w (v:=.agg #[.int .i64 5,.int .i64 7]) ?_ hHd ?_;(·exact aA (by rfl) (fun W h=>Ke (hB1.ext h))))|((with_reducible refine iY (i:=39) ?_);refine t4w (v:=.bool true) ?_ hHd ?_;(·exact lH (a:=5) (b:=7) (a':=5) (b':=7) Jp (by decide) (by rfl) (by rfl)))|((with_reducible refine iY (i:=43) ?_);refine t4w (v:=.int .i64 3) ?_ hHd ?_;(·exact aA (by rfl) (fun W h=>aY Tryz.underlying3 rfl (Ext.cell_some h hb1_4))))|((with_reducible refine iY (i:=52) ?_);refine t4w (v:=.slice A4 2 c4) ?_ hHd ?_;(·exact aA (by rfl) (fun W h=>aY Tryz.underlying32 rfl (Ext.cell_some h hb4_0))))|(refine t4k (v:= ?_) ?_ hHd ?_;rotate_left;(·(intro wq hSw;(try dsimp only at hSw);go_simp;(try with_reducible rfl))))|(refine t4w (v:= ?_) ?_ hHd ?_;rotate_left;(·(intro wq hSw;(try dsimp only at hSw);go_simp;(try with_reducible rfl)))));(try simp only[pS]))|((with_reducible refine Ea ?_);refine xP (by simp only[gS];rfl) ?_)|((with_reducible refine aH (d:=some 111) ?_);((refine bN (by rfl) (zG 5 7 _) (by go_simp) ?_;rintro e W111 ⟨rfl,hE111⟩;refine⟨_,rfl,?_⟩;replace hX:=hX.trans hE111)))|((with_reducible refine aH (d:=some 126) ?_);((refine bR (by rfl) (e:=3) (cs:=#[.int .i64 2,.int .i64 3]) ?_ ?_;(simp[Act.eval];exact Ld _ _);intro W126 g126 hE126 hB126 hg126;have hI126:=cO hB126;replace hX:=hX.trans hE126)))|((with_reducible refine aH (d:=some 127) ?_);((refine bN (by rfl) (yC _ [2,3] _ hI126 (by decide)) (by go_simp) ?_;rintro e W127 ⟨lv2,rfl,hO127,hE127⟩;refine⟨_,rfl,?_⟩;replace hX:=hX.trans hE127)))|((with_reducible refine aH (d:=some 128) ?_);((refine bN (by rfl) (HL4.out _ _ _ (hS4.ext hX) hO127.steps) (by go_simp) ?_;rintro e W128 ⟨rfl,hE128⟩;refine⟨_,rfl,?_⟩;replace hX:=hX.trans hE128)))|((with_reducible refine bB ?_);clear hHd;refine tD ?_ (fun hHd=> ?_);(·assumption);(try simp only[pS]))|(with_reducible refine tE ?_)
 exact⟨hHd,Tk rfl H hX K⟩
theorem Oa{ops:Array Oper}{Q:Exit→Act→World→Prop}{Wz:World}{g1 g4 g8:Nat}{A1 A4 A8:Option Addr}{c1 c4 c8:Nat}{rv rl:Value}{x0 x6 x16 x19 x20 x21 x22 x23 x24 x25 x26 x27 x28 x29 x30 x31 x32 x33 x34 x35 x36 x37 x38 x39 x40 x41 x42 x43 x44 x45 x46 x47 x48 x49 x50 x51 x52 x53 x54 x55 x56 x57 x58 x59 x60 x61 x62 x63 x64 x65 x66 x67 x68 x69 x70 x71 x72 x73 x74 x75 x76 x77 x78 x79 x80 x81 x82 x83 x84 x85 x86 x87 x88 x89 x90 x91 x92 x93 x94 x95 x96 x97 x98 x99 x100 x101 x102 x103 x104 x105 x106 x107 x108 x109 x110 x111 x112 x113 x114 x115 x116 x117 x118 x119 x120 x121 x122 x123 x124 x125 x126 x127 x128 x129 x130 x131 x132 x133 x134 x135 x136 x137 x138 x139 x140 x141 x142 x143 x144 x145 x146 x147 x148 x149 x150 x151 x152 x153 x154 x155 x156 x157 x158 x159 x160 x161 x162 x163 x164 x165 x166 x167 x168 x169:Value}(hops:Tryz.f19.body.bind (Code.findR 9)=some ops)(H:AwR Wz g1 g4 g8 A1 A4 A8 c1 c4 c8 rv rl)
 (hQ:∀c(a:Act)(d:Tmp)(v:Value)(w:World),Q (.panic c) (a.put (some d) v) w→Q (.panic c) a w)(K:∀(l:List Value)w',Ext Wz w'→Q .normal ⟨(.bool true::l).toArray,[]⟩ w'):(Code.region 9 ops true).wp Tryz.prog Q ⟨#[x0,.pointer (some ⟨g1,0,none⟩),.int .i64 0,.int .i64 0,.pointer (some ⟨g4,0,none⟩),.int .i64 0,x6,.int .i64 9,.pointer (some ⟨g8,0,none⟩),.int .i64 0,rv,.int .i64 0,.bool true,.int .i64 0,.string (S mG),.int .i64 0,x16,rl,.int .i64 0,x19,x20,x21,x22,x23,x24,x25,x26,x27,x28,x29,x30,x31,x32,x33,x34,x35,x36,x37,x38,x39,x40,x41,x42,x43,x44,x45,x46,x47,x48,x49,x50,x51,x52,x53,x54,x55,x56,x57,x58,x59,x60,x61,x62,x63,x64,x65,x66,x67,x68,x69,x70,x71,x72,x73,x74,x75,x76,x77,x78,x79,x80,x81,x82,x83,x84,x85,x86,x87,x88,x89,x90,x91,x92,x93,x94,x95,x96,x97,x98,x99,x100,x101,x102,x103,x104,x105,x106,x107,x108,x109,x110,x111,x112,x113,x114,x115,x116,x117,x118,x119,x120,x121,x122,x123,x124,x125,x126,x127,x128,x129,x130,x131,x132,x133,x134,x135,x136,x137,x138,x139,x140,x141,x142,x143,x144,x145,x146,x147,x148,x149,x150,x151,x152,x153,x154,x155,x156,x157,x158,x159,x160,x161,x162,x163,x164,x165,x166,x167,x168,x169],[]⟩ Wz:=
 sW (Bt.graft (vX.graft (oF.graft rR))) (fun w'=>Ext Wz w') (by kernel_rfl) (Li hops).1 (Li hops).2.1 (Li hops).2.2 hQ (Ext.todrew (Ext.refl Wz)) (fun hHd=>Tl hops H hHd K)
end Go.St
end
section
namespace Go.St
open Go Go.Bp Go.RowKit Go.Proofs
set_option maxHeartbeats 8000000 in
theorem dS(w:World)(hv:Env w):Calls Tryz.prog 19 #[] w (dB w true):=by
 have hE:=Ext.refl w;have HD:=Lib.hid (fun(tv lv:Value)(W:World)(h:aM W tv bF)(hl:bY W lv (fP [0,1,3]))=>by have:=vF tv lv bF 0 0 _ W h hl;rw[Kr] at this;exact this)
 have H1:=Lib.hid (fun(tv kv:Value)(W:World)(h:aM W tv bF)(hk:bA W kv oD)=>by have:=gQ tv kv bF oD W h hk;rw[Nk] at this;exact this)
 have H2:=Lib.hid (fun(tv kv:Value)(W:World)(h:aM W tv bF)(hk:bA W kv Dc)=>by have:=gQ tv kv bF Dc W h hk;rw[Nj] at this;exact this)
 have H3:=Lib.hid (fun(tv kv:Value)(W:World)(h:aM W tv bF)(hk:bA W kv Db)=>by have:=gQ tv kv bF Db W h hk;rw[Ni] at this;exact this)
 have HT:=Lib.hid (fun(tv kv:Value)(W:World)(h:aM W tv bF)(hk:bA W kv oD)=>by have:=mL tv kv bF oD W h hk;rw[Ko] at this;exact this)
 have HP:=Lib.hid (fun(tv kv rv:Value)(W:World)(h:aM W tv bF)(hk:bA W kv oD)(hr:Rows W rv nD)=>by have:=nL tv kv rv bF oD nD W h hk hr;rw[Gl] at this;exact this)
 have HW:=Lib.hid (fun(tv lv:Value)(W:World)(h:aM W tv bF)(hl:bY W lv jY)(hv:Env W)=>by have:=pQ tv lv bF 0 jY W h hl hv;rw[Kn] at this;exact this)
 have HR:=Lib.hid (fun(tv:Value)(W:World)(h:aM W tv bF)(hv:Env W)=>by have:=tI tv bF mG W h hv (by decide);rw[Nd] at this;exact this)
 have hk1:∀W,bA W (.agg #[.int .i64 0,.int .i64 0,.int .i64 1,.int .i64 0,.slice none 0 0]) oD:=fun W=>bA.of (k:=oD) (Sl.none_ _ _)
 have hk2:∀W cv,bG W cv [3]→bA W (.agg #[.int .i64 0,.int .i64 0,.int .i64 1,.int .i64 0,cv]) Dc:=fun W cv h=>bA.of (k:=Dc) h
 have hk3:∀W cv,bG W cv [3]→bA W (.agg #[.int .i64 0,.int .i64 0,.int .i64 1,.int .i64 1,cv]) Db:=fun W cv h=>bA.of (k:=Db) h
 go_enter Tryz.func19,Tryz.ntmps19
 go_wp2_with (first|(go_at_call 35;((with_reducible refine(Bj _).mono ?_);rintro e WcT ⟨tv,rfl,hT,hEcT⟩;(try replace hE:=hE.trans hEcT);(try replace hS4:=hS4.ext hEcT);(try replace hS8:=hS8.ext hEcT);(try replace hRw:=hRw.ext hEcT);(try replace hB1:=hB1.ext hEcT);(try replace hB4:=hB4.ext hEcT);(try replace hB8:=hB8.ext hEcT)))|((with_reducible refine Rl (d:=some 21) (n0:=0) (n1:=1) (n2:=3) ?_ ?_ ?_ ?_);rfl;rfl;rfl;intro W21 g21 hE21 hB21 hg21;(try replace hE:=hE.trans hE21);(try replace hT:=hT.ext hE21);have hI21:bG W21 (.slice (some ⟨g21,0,none⟩) 3 3) [0,1,3]:=wQ hB21;clear hB21 hg21 hE21)|((with_reducible refine eB (d:=some 35) (n0:=3) ?_ ?_);rfl;intro W35 g35 hE35 hB35 hg35;(try replace hE:=hE.trans hE35);(try replace hT:=hT.ext hE35);(try replace hS4:=hS4.ext hE35);(try replace hB1:=hB1.ext hE35);(try replace hB4:=hB4.ext hE35);have hI35:bG W35 (.slice (some ⟨g35,0,none⟩) 1 1) [3]:=aU hB35;clear hB35 hg35 hE35)|((with_reducible refine eB (d:=some 42) (n0:=3) ?_ ?_);rfl;intro W42 g42 hE42 hB42 hg42;(try replace hE:=hE.trans hE42);(try replace hT:=hT.ext hE42);(try replace hS4:=hS4.ext hE42);(try replace hB1:=hB1.ext hE42);(try replace hB4:=hB4.ext hE42);have hI42:bG W42 (.slice (some ⟨g42,0,none⟩) 1 1) [3]:=aU hB42;clear hB42 hg42 hE42)|(go_at_call 36;((with_reducible refine(yC _ [0,1,3] _ (by exact hI21) (by decide)).mono ?_);rintro e WcY ⟨lv,rfl,hO,hEcY⟩;(try replace hE:=hE.trans hEcY);(try replace hT:=hT.ext hEcY);have hL:=hO.steps))|(go_at_call 20;((with_reducible refine(HD.out _ _ _ (by exact hT) (by exact hL)).mono ?_);rintro e WcD ⟨v1,rfl,⟨s1,rfl,hO1⟩,hEcD⟩;(try replace hE:=hE.trans hEcD);obtain⟨A1,c1,e1,_⟩:=hO1.steps;replace e1:s1=.slice A1 3 c1:=e1;subst e1))|((with_reducible refine aO (e:=36) (u:=1) (v:=.agg #[.slice A1 3 c1,.int .i64 1400,.int .i64 5,.int .i64 7,.int .i64 3]) fW ?_ ?_ ?_ ?_ ?_ ?_);(intro g;rfl);(intro g;rfl);rfl;rfl;(simp[Value.cells,Value.oneCell']);intro W1 g1 hE1 hB1 hg1;simp[Value.cells] at hB1;(try replace hE:=hE.trans hE1);clear hE1)|(go_at_call 23;((with_reducible refine(H1.out _ _ _ (by exact hT) (hk1 _)).mono ?_);rintro e Wc1 ⟨v4,rfl,⟨s4,rfl,hO4⟩,hEc1⟩;(try replace hE:=hE.trans hEc1);(try replace hB1:=hB1.ext hEc1);have hS4:=hO4.steps;obtain⟨A4,c4,e4,_⟩:=hO4.steps;replace e4:s4=.slice A4 2 c4:=e4;subst e4))|((with_reducible refine aO (e:=36) (u:=4) (v:=.agg #[.slice A4 2 c4,.int .i64 1000,.int .i64 3,.int .i64 6,.int .i64 1]) fW ?_ ?_ ?_ ?_ ?_ ?_);(intro g;rfl);(intro g;rfl);rfl;rfl;(simp[Value.cells,Value.oneCell']);intro W4 g4 hE4 hB4 hg4;simp[Value.cells] at hB4;(try replace hE:=hE.trans hE4);(try replace hS4:=hS4.ext hE4);(try replace hB1:=hB1.ext hE4);clear hE4)|(go_at_call 23;((with_reducible refine(H2.out _ _ _ (by exact hT) (hk2 _ _ (by exact hI35))).mono ?_);rintro e Wc2 ⟨v6,rfl,⟨s6,rfl,hO6⟩,hEc2⟩;(try replace hE:=hE.trans hEc2);(try replace hS4:=hS4.ext hEc2);(try replace hB1:=hB1.ext hEc2);(try replace hB4:=hB4.ext hEc2);obtain⟨A6,c6,e6,_⟩:=hO6.steps;replace e6:s6=.slice A6 0 c6:=e6;subst e6))|((with_reducible refine aO (e:=36) (u:=6) (v:=.agg #[.slice A6 0 c6,.int .i64 0,.int .i64 0,.int .i64 0,.int .i64 0]) fW ?_ ?_ ?_ ?_ ?_ ?_);(intro g;rfl);(intro g;rfl);rfl;rfl;(simp[Value.cells,Value.oneCell']);intro W6 g6 hE6 hB6 hg6;simp[Value.cells] at hB6;(try replace hE:=hE.trans hE6);(try replace hS4:=hS4.ext hE6);(try replace hB1:=hB1.ext hE6);(try replace hB4:=hB4.ext hE6);clear hE6)|(go_at_call 23;((with_reducible refine(H3.out _ _ _ (by exact hT) (hk3 _ _ (by exact hI42))).mono ?_);rintro e Wc3 ⟨v8,rfl,⟨s8,rfl,hO8⟩,hEc3⟩;(try replace hE:=hE.trans hEc3);(try replace hS4:=hS4.ext hEc3);(try replace hB1:=hB1.ext hEc3);(try replace hB4:=hB4.ext hEc3);have hS8:=hO8.steps;obtain⟨A8,c8,e8,_⟩:=hO8.steps;replace e8:s8=.slice A8 3 c8:=e8;subst e8))|((with_reducible refine aO (e:=36) (u:=8) (v:=.agg #[.slice A8 3 c8,.int .i64 1200,.int .i64 4,.int .i64 9,.int .i64 3]) fW ?_ ?_ ?_ ?_ ?_ ?_);(intro g;rfl);(intro g;rfl);rfl;rfl;(simp[Value.cells,Value.oneCell']);intro W8 g8 hE8 hB8 hg8;simp[Value.cells] at hB8;(try replace hE:=hE.trans hE8);(try replace hS4:=hS4.ext hE8);(try replace hS8:=hS8.ext hE8);(try replace hB1:=hB1.ext hE8);(try replace hB4:=hB4.ext hE8);clear hE8)|(go_at_call 25;((with_reducible refine(HT.out _ _ _ (by exact hT) (hk1 _)).mono ?_);rintro e WcW ⟨rv,rfl,hRo,hEcW⟩;(try replace hE:=hE.trans hEcW);(try replace hS4:=hS4.ext hEcW);(try replace hS8:=hS8.ext hEcW);(try replace hB1:=hB1.ext hEcW);(try replace hB4:=hB4.ext hEcW);(try replace hB8:=hB8.ext hEcW);have hRw:=hRo.rows))|(go_at_call 28;((with_reducible refine(HP.out _ _ _ _ (by exact hT) (hk1 _) (by exact hRw)).mono ?_);rintro e WcV ⟨rfl,hEcV⟩;(try replace hE:=hE.trans hEcV);(try replace hS4:=hS4.ext hEcV);(try replace hS8:=hS8.ext hEcV);(try replace hRw:=hRw.ext hEcV);(try replace hB1:=hB1.ext hEcV);(try replace hB4:=hB4.ext hEcV);(try replace hB8:=hB8.ext hEcV)))|(go_at_call 56;((with_reducible refine(Bk _).mono ?_);rintro e WcU ⟨tl,rfl,hTl,hEcU⟩;(try replace hE:=hE.trans hEcU);(try replace hT:=hT.ext hEcU);(try replace hS4:=hS4.ext hEcU);(try replace hS8:=hS8.ext hEcU);(try replace hRw:=hRw.ext hEcU);(try replace hB1:=hB1.ext hEcU);(try replace hB4:=hB4.ext hEcU);(try replace hB8:=hB8.ext hEcU)))|(go_at_call 30;((with_reducible refine(HW.out _ _ _ (by exact hT) (by exact hTl) (by exact hv.ext hE)).mono ?_);rintro e WcX ⟨rfl,hEcX⟩;(try replace hE:=hE.trans hEcX);(try replace hS4:=hS4.ext hEcX);(try replace hS8:=hS8.ext hEcX);(try replace hRw:=hRw.ext hEcX);(try replace hB1:=hB1.ext hEcX);(try replace hB4:=hB4.ext hEcX);(try replace hB8:=hB8.ext hEcX)))|(go_at_call 32;((with_reducible refine(HR.out _ _ (by exact hT) (by exact hv.ext hE)).mono ?_);rintro e WcZ ⟨rl,rfl,hRl,hEcZ⟩;(try replace hE:=hE.trans hEcZ);(try replace hS4:=hS4.ext hEcZ);(try replace hS8:=hS8.ext hEcZ);(try replace hRw:=hRw.ext hEcZ);(try replace hB1:=hB1.ext hEcZ);(try replace hB4:=hB4.ext hEcZ);(try replace hB8:=hB8.ext hEcZ))))
 refine Oa (by kernel_rfl) ⟨hB1,hB4,hB8,hS4,hS8,hRw,hRl⟩ (by intro _ _ _ _ _ h;first|exact h|exact absurd h.1 (fun e=>by cases e)) ?_
 intro l w' hX;go_wp2
 go_ret
 exact⟨rfl,hE.trans hX⟩
end Go.St
end
