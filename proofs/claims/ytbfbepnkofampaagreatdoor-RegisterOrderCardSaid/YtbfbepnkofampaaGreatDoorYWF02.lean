/- Chapter 11: contracts of functions of the program and of the reference, and plain laws (out of Held5). No condition of its own. -/
import Derived.Test.YtbfbepnkofampaaGreatDoorYP15
import Derived.Test.YtbfbepnkofampaaGreatDoorYP24
set_option maxRecDepth 100000
set_option linter.all false
section
namespace Go.Bp
open Go.RowKit
section
variable{P:Program}{md:Region.Mode}{ops:Array Oper}{Q:Exit→Act→World→Prop}{S:World→Prop}
def okTree4(md:Region.Mode)(ops:Array Oper):OTree4→Array Bool→Bool
 | .nil,l=>(Region.ready md ops l).isEmpty
 | .take i r,l=>Region.free md ops l i&&(Region.ready md ops l).contains i&&okTree4 md ops r (l.setIfInBounds i true)
 | .one i r,l=>(Region.ready md ops l== [i])&&okTree4 md ops r (l.setIfInBounds i true)
 | .two i r j s,l=>(Region.ready md ops l== [i,j])&&okTree4 md ops r (l.setIfInBounds i true)&&okTree4 md ops s (l.setIfInBounds j true)
 | .three i r j s k u,l=>(Region.ready md ops l== [i,j,k])&&okTree4 md ops r (l.setIfInBounds i true)&&okTree4 md ops s (l.setIfInBounds j true)&&okTree4 md ops u (l.setIfInBounds k true)
 | .four i r j s k u m v,l=>(Region.ready md ops l== [i,j,k,m])&&okTree4 md ops r (l.setIfInBounds i true)&&okTree4 md ops s (l.setIfInBounds j true)&&okTree4 md ops u (l.setIfInBounds k true)&&okTree4 md ops v (l.setIfInBounds m true)
def wpTree4(P:Program)(ops:Array Oper)(Q:Exit→Act→World→Prop)(S:World→Prop):OTree4→Act→World→Prop
 | .nil,a,w=>Q .normal a w
 | .take i r,a,w=>∃oi v,ops[i]? =some oi∧YieldsIf P ops S oi v a∧S w∧wpTree4 P ops Q S r (a.put oi.dst v) w
 | .one i r,a,w=>wpOp P ops Q i (fun a' w'=>S w'∧wpTree4 P ops Q S r a' w') a w
 | .two i r j s,a,w=>wpOp P ops Q i (fun a' w'=>S w'∧wpTree4 P ops Q S r a' w') a w∧wpOp P ops Q j (fun a' w'=>S w'∧wpTree4 P ops Q S s a' w') a w
 | .three i r j s k u,a,w=>wpOp P ops Q i (fun a' w'=>S w'∧wpTree4 P ops Q S r a' w') a w∧wpOp P ops Q j (fun a' w'=>S w'∧wpTree4 P ops Q S s a' w') a w∧wpOp P ops Q k (fun a' w'=>S w'∧wpTree4 P ops Q S u a' w') a w
 | .four i r j s k u m v,a,w=>wpOp P ops Q i (fun a' w'=>S w'∧wpTree4 P ops Q S r a' w') a w∧wpOp P ops Q j (fun a' w'=>S w'∧wpTree4 P ops Q S s a' w') a w∧wpOp P ops Q k (fun a' w'=>S w'∧wpTree4 P ops Q S u a' w') a w∧wpOp P ops Q m (fun a' w'=>S w'∧wpTree4 P ops Q S v a' w') a w
theorem wpAnyH_of_tree4(hs:Region.noSelect ops=true)(hQ:∀c(a:Act)(d:Tmp)(v:Value)(w:World),Q (.panic c) (a.put (some d) v) w→Q (.panic c) a w):
 ∀(t:OTree4)(l:Array Bool)(fuel:Nat)(a:Act)(w:World),t.depth≤fuel→okTree4 md ops t l=true→wpTree4 P ops Q S t a w→wpAnyH P md ops Q S fuel l a w
 | .nil,l,fuel,a,w,_,hok,h=>wpAnyH_done (by simpa [okTree4] using hok) h fuel
 | .take i r,l,0,a,w,hf,_,_=>by simp[OTree4.depth] at hf
 | .one i r,l,0,a,w,hf,_,_=>by simp[OTree4.depth] at hf
 | .two i r j s,l,0,a,w,hf,_,_=>by simp[OTree4.depth] at hf
 | .three i r j s k u,l,0,a,w,hf,_,_=>by simp[OTree4.depth] at hf
 | .four i r j s k u m v,l,0,a,w,hf,_,_=>by simp[OTree4.depth] at hf
 | .take i r,l,fuel+1,a,w,hf,hok,h=>by
  obtain⟨oi,v,ho,hy,hS,h⟩:=h;simp only[okTree4,Bool.and_eq_true] at hok;exact wpAnyH_take ho hs hok.1.1 hok.1.2 (fun c a w h=>put_any hQ c a oi.dst v w h) hy hS (wpAnyH_of_tree4 hs hQ r _ fuel _ _ (by simpa [OTree4.depth] using hf) hok.2 h)
 | .one i r,l,fuel+1,a,w,hf,hok,h=>by
  simp only[okTree4,Bool.and_eq_true,beq_iff_eq] at hok;refine wpAnyH_all hok.1 (by simp) fun j hj=> ?_
  obtain rfl:j=i:=by simpa using hj
  exact wpOp_mono (fun a' w' h'=>⟨h'.1,wpAnyH_of_tree4 hs hQ r _ fuel _ _ (by simpa [OTree4.depth] using hf) hok.2 h'.2⟩) h
 | .two i r j s,l,fuel+1,a,w,hf,hok,h=>by
  simp only[okTree4,Bool.and_eq_true,beq_iff_eq] at hok;obtain⟨h1,h2⟩:=h;have hd:r.depth≤fuel∧s.depth≤fuel:=by simp only[OTree4.depth] at hf;omega
  refine wpAnyH_all hok.1.1 (by simp) fun k hk=> ?_
  have hk:k=i∨k=j:=by simpa using hk
  rcases hk with rfl|rfl
  ·exact wpOp_mono (fun a' w' h'=>⟨h'.1,wpAnyH_of_tree4 hs hQ r _ fuel _ _ hd.1 hok.1.2 h'.2⟩) h1
  ·exact wpOp_mono (fun a' w' h'=>⟨h'.1,wpAnyH_of_tree4 hs hQ s _ fuel _ _ hd.2 hok.2 h'.2⟩) h2
 | .three i r j s k u,l,fuel+1,a,w,hf,hok,h=>by
  simp only[okTree4,Bool.and_eq_true,beq_iff_eq] at hok;obtain⟨h1,h2,h3⟩:=h;have hd:r.depth≤fuel∧s.depth≤fuel∧u.depth≤fuel:=by simp only[OTree4.depth] at hf;omega
  refine wpAnyH_all hok.1.1.1 (by simp) fun z hz=> ?_
  have hz:z=i∨z=j∨z=k:=by simpa using hz
  rcases hz with rfl|rfl|rfl
  ·exact wpOp_mono (fun a' w' h'=>⟨h'.1,wpAnyH_of_tree4 hs hQ r _ fuel _ _ hd.1 hok.1.1.2 h'.2⟩) h1
  ·exact wpOp_mono (fun a' w' h'=>⟨h'.1,wpAnyH_of_tree4 hs hQ s _ fuel _ _ hd.2.1 hok.1.2 h'.2⟩) h2
  ·exact wpOp_mono (fun a' w' h'=>⟨h'.1,wpAnyH_of_tree4 hs hQ u _ fuel _ _ hd.2.2 hok.2 h'.2⟩) h3
 | .four i r j s k u m v,l,fuel+1,a,w,hf,hok,h=>by
  simp only[okTree4,Bool.and_eq_true,beq_iff_eq] at hok;obtain⟨h1,h2,h3,h4⟩:=h;have hd:r.depth≤fuel∧s.depth≤fuel∧u.depth≤fuel∧v.depth≤fuel:=by simp only[OTree4.depth] at hf;omega
  refine wpAnyH_all hok.1.1.1.1 (by simp) fun z hz=> ?_
  have hz:z=i∨z=j∨z=k∨z=m:=by simpa using hz
  rcases hz with rfl|rfl|rfl|rfl
  ·exact wpOp_mono (fun a' w' h'=>⟨h'.1,wpAnyH_of_tree4 hs hQ r _ fuel _ _ hd.1 hok.1.1.1.2 h'.2⟩) h1
  ·exact wpOp_mono (fun a' w' h'=>⟨h'.1,wpAnyH_of_tree4 hs hQ s _ fuel _ _ hd.2.1 hok.1.1.2 h'.2⟩) h2
  ·exact wpOp_mono (fun a' w' h'=>⟨h'.1,wpAnyH_of_tree4 hs hQ u _ fuel _ _ hd.2.2.1 hok.1.2 h'.2⟩) h3
  ·exact wpOp_mono (fun a' w' h'=>⟨h'.1,wpAnyH_of_tree4 hs hQ v _ fuel _ _ hd.2.2.2 hok.2 h'.2⟩) h4
theorem wp_region_tree4{id:Nat}{a:Act}{w:World}(t:OTree4)(S:World→Prop)(hm:P.follows .mixedOrders=true)
 (hs:Region.noSelect ops=true)(hf:Nat.ble t.depth ops.size=true)(hok:okTree4 .any ops t (Array.replicate ops.size false)=true)
 (hQ:∀c(a:Act)(d:Tmp)(v:Value)(w:World),Q (.panic c) (a.put (some d) v) w→Q (.panic c) a w)
 (hS:S w.drew)(h:S w.drew→wpTree4 P ops Q S t a w.drew):(Code.region id ops true).wp P Q a w:=
 wp_region_held_drew (S:=S) hm hS fun hS=>wpAnyH_of_tree4 hs hQ t _ _ _ _ (Nat.le_of_ble_eq_true hf) hok (h hS)
variable{i j k m:Nat}{r s u v:OTree4}{o:Oper}{a:Act}{w:World}
theorem t4_done(h:Q .normal a w):wpTree4 P ops Q S .nil a w:=h
theorem t4_take{v:Value}(ho:ops[i]? =some o)(hg:o.guard=none)(hy:∀w,S w→(execOp a.eval o).run P w=.ok (.value v) w)(hS:S w)
 (k:wpTree4 P ops Q S r (a.put o.dst v) w):wpTree4 P ops Q S (.take i r) a w:=
 ⟨o,v,ho,.inl ⟨by simp[Region.wanted,hg],hy⟩,hS,k⟩
def thenTree4(P:Program)(ops:Array Oper)(Q:Exit→Act→World→Prop)(S:World→Prop)(r:OTree4):Exit→Act→World→Prop
 | .normal,a,w=>S w∧wpTree4 P ops Q S r a w
 |e,a,w=>Q e a w
theorem upon_thenT4{next:Act→World→Prop}{x:Result Next}(h:o.upon P a next (thenTree4 P ops Q S r) x):o.upon P a next Q x:=by
 cases x with
 |ok n w'=>
  cases n with
  |enter f args=>exact Calls.mono h fun e w'' he=>by cases e<;>exact he
  |_=>exact h
 |halt x w'=>
  cases x<;>exact h
theorem wpOp_list4(ho:ops[i]? =some o)(h:wpList P ops (thenTree4 P ops Q S r) [o] a w):wpOp P ops Q i (fun a' w'=>S w'∧wpTree4 P ops Q S r a' w') a w:=by
 unfold wpOp;simp only[ho];unfold wpList at h;split
 ·rename_i hw;rw[if_pos hw] at h;rcases h with h|⟨h1,⟨a2,w2,h2⟩⟩
  ·exact .inl (upon_thenT4 h)
  ·exact .inr ⟨h1,⟨a2,w2,h2⟩⟩
 ·rename_i hw;rw[if_neg hw] at h;exact h
theorem t4_one(ho:ops[i]? =some o)(h:wpList P ops (thenTree4 P ops Q S r) [o] a w):wpTree4 P ops Q S (.one i r) a w:=wpOp_list4 ho h
theorem t4_two{o':Oper}(ho:ops[i]? =some o)(ho':ops[j]? =some o')(h:wpList P ops (thenTree4 P ops Q S r) [o] a w)(h':wpList P ops (thenTree4 P ops Q S s) [o'] a w):wpTree4 P ops Q S (.two i r j s) a w:=
 ⟨wpOp_list4 ho h,wpOp_list4 ho' h'⟩
theorem t4_three{o' o'':Oper}(ho:ops[i]? =some o)(ho':ops[j]? =some o')(ho'':ops[k]? =some o'')(h:wpList P ops (thenTree4 P ops Q S r) [o] a w)(h':wpList P ops (thenTree4 P ops Q S s) [o'] a w)(h'':wpList P ops (thenTree4 P ops Q S u) [o''] a w):wpTree4 P ops Q S (.three i r j s k u) a w:=
 ⟨wpOp_list4 ho h,wpOp_list4 ho' h',wpOp_list4 ho'' h''⟩
theorem t4_four{o' o'' o3:Oper}(ho:ops[i]? =some o)(ho':ops[j]? =some o')(ho'':ops[k]? =some o'')(ho3:ops[m]? =some o3)(h:wpList P ops (thenTree4 P ops Q S r) [o] a w)(h':wpList P ops (thenTree4 P ops Q S s) [o'] a w)(h'':wpList P ops (thenTree4 P ops Q S u) [o''] a w)(h3:wpList P ops (thenTree4 P ops Q S v) [o3] a w):wpTree4 P ops Q S (.four i r j s k u m v) a w:=
 ⟨wpOp_list4 ho h,wpOp_list4 ho' h',wpOp_list4 ho'' h'',wpOp_list4 ho3 h3⟩
theorem t4_next(hS:S w)(k:S w→wpTree4 P ops Q S r a w):wpList P ops (thenTree4 P ops Q S r) [] a w:=⟨hS,k hS⟩
end
section
variable{P:Program}{ops:Array Oper}{Q:Exit→Act→World→Prop}{S:World→Prop}{a:Act}{w:World}{rest l:List Oper}{r:OTree4}
theorem t4_tk{i:Nat}(h:wpTree4 P ops Q S (.take i r) a w):wpTree4 P ops Q S (.take i r) a w:=h
theorem t4_on{i:Nat}(h:wpTree4 P ops Q S (.one i r) a w):wpTree4 P ops Q S (.one i r) a w:=h
theorem t4_tw{i j:Nat}{s:OTree4}(h:wpTree4 P ops Q S (.two i r j s) a w):wpTree4 P ops Q S (.two i r j s) a w:=h
theorem t4_th{i j k:Nat}{s u:OTree4}(h:wpTree4 P ops Q S (.three i r j s k u) a w):wpTree4 P ops Q S (.three i r j s k u) a w:=h
theorem t4_fo{i j k m:Nat}{s u v:OTree4}(h:wpTree4 P ops Q S (.four i r j s k u m v) a w):wpTree4 P ops Q S (.four i r j s k u m v) a w:=h
end
section
variable{P:Program}{ops:Array Oper}{Q:Exit→Act→World→Prop}{S:World→Prop}{a:Act}{w:World}{rest l:List Oper}{r:OTree4}
theorem wp_rt4{id:Nat}{a:Act}{w:World}(t:OTree4)(S:World→Prop)(hS:S w.drew)(h:S w.drew→wpTree4 P ops Q S t a w.drew)(hm:P.follows .mixedOrders=true:=by kernel_rfl)(hs:Region.noSelect ops=true:=by kernel_rfl)(hf:Nat.ble t.depth ops.size=true:=by kernel_rfl)(hok:okTree4 .any ops t (Array.replicate ops.size false)=true:=by kernel_rfl)(hQ:∀c(a:Act)(d:Tmp)(v:Value)(w:World),Q (.panic c) (a.put (some d) v) w→Q (.panic c) a w:=by intro _ _ _ _ _ h;first|exact h|exact absurd h.1 (fun e=>by cases e)):(Code.region id ops true).wp P Q a w:=wp_region_tree4 t S hm hs hf hok hQ hS h
theorem t4k{i:Nat}{o:Oper}{v:Value}(hy:∀w,S w→(execOp a.eval o).run P w=.ok (.value v) w)(hS:S w)(k:wpTree4 P ops Q S r (a.put o.dst v) w)(ho:ops[i]? =some o:=by simp only[gS];rfl)(hg:o.guard=none:=by rfl):wpTree4 P ops Q S (.take i r) a w:=t4_take ho hg hy hS k
end
end Go.Bp
end
