/- Chapter 11: contracts of functions of the program and of the reference, and plain laws (out of RZe KOrder). No condition of its own. -/
import Derived.Test.YtbfbepnkofampaaGreatDoorYPX10
import Derived.Test.YtbfbepnkofampaaGreatDoorYWABF01
set_option maxRecDepth 100000
set_option linter.all false
section
namespace Go.Rg
open Go Go.Bp Go.RowKit Go.Walk Go.Proofs
set_option synthInstance.maxSize 2000
set_option synthInstance.maxHeartbeats 400000
set_option maxHeartbeats 4000000
theorem same_any(k:Whole)(A A' B B':Option Addr)(c c' f f':Nat)(w:World)[h1:ListC Span w (.slice A k.bans.length c) k.bans][h2:ListC Span w (.slice A' k.bans.length c') k.bans][h3:ListC Right w (.slice B k.held.length f) k.held][h4:ListC Right w (.slice B' k.held.length f') k.held]:
 Calls Tryz.prog 48 #[.agg #[.slice A k.bans.length c,.int .i64 k.pts.counts,.int .i64 k.pts.fallen,.int .i64 k.pts.taken,.slice B k.held.length f,.int .i64 k.why,.string (S k.text)],.agg #[.slice A' k.bans.length c',.int .i64 k.pts.counts,.int .i64 k.pts.fallen,.int .i64 k.pts.taken,.slice B' k.held.length f',.int .i64 k.why,.string (S k.text)]] w (RB w true):=by
 obtain⟨bl,⟨p1,p2,p3⟩,hh,m,t⟩:=k;have i1:ListB Span w (.slice A bl.length c) bl:=⟨h1.h⟩;have i2:ListB Span w (.slice A' bl.length c') bl:=⟨h2.h⟩;have i3:ListB Right w (.slice B hh.length f) hh:=⟨h3.h⟩;have i4:ListB Right w (.slice B' hh.length f') hh:=⟨h4.h⟩;have hE:=fun W=>eql45 W p1 p2 p3 p1 p2 p3
 simp only[and_self,decide_true] at hE;have hT:((S t).toList==(S t).toList)=true:=by simp
 go_enter Tryz.func48,Tryz.ntmps48
 go_wp2_with (first|((first|with_reducible refine call_c ?_);rintro _ V ⟨rfl,(_:StepC _ _)⟩;(try simp only[eq_self,decide_true]))|(first|(with_reducible refine load_c ?_)|(with_reducible refine load_g ?_)|(with_reducible refine box_c ?_;intro V g _ _ _)))
 all_goals
  go_ret
  exact⟨rfl,⟨ExtC.h⟩⟩
instance qRZe14{W:World}{k:Whole}{A A' B B':Option Addr}{c c' f f':Nat}[h1:ListC Span W (.slice A k.bans.length c) k.bans][h2:ListC Span W (.slice A' k.bans.length c') k.bans][h3:ListC Right W (.slice B k.held.length f) k.held][h4:ListC Right W (.slice B' k.held.length f') k.held]:
 FunC Tryz.prog 48 #[.agg #[.slice A k.bans.length c,.int .i64 k.pts.counts,.int .i64 k.pts.fallen,.int .i64 k.pts.taken,.slice B k.held.length f,.int .i64 k.why,.string (S k.text)],.agg #[.slice A' k.bans.length c',.int .i64 k.pts.counts,.int .i64 k.pts.fallen,.int .i64 k.pts.taken,.slice B' k.held.length f',.int .i64 k.why,.string (S k.text)]] W (RB W true):=⟨same_any k A A' B B' c c' f f' W⟩
end Go.Rg
end
section
namespace Go.Proofs.YtbfbepnkofampaaGreatDoor
open Go Go.Bp Go.Rg Go.Walk Go.RowKit Go.Proofs Go.ChangeShapes Go.WideShapes Go.ChangeAt
theorem ip8:(Rows.registerOrderRow.inPlace==Tryz.pinned.checked.prog.inPlace 8)=true:=by kernel_rfl
theorem uf8:(Rows.registerOrderRow.unfollowed==Tryz.pinned.checked.prog.unfollowed 8)=true:=by kernel_rfl
theorem rc8:(Rows.registerOrderRow.recurses==Tryz.pinned.checked.prog.recurses 8)=true:=by kernel_rfl
theorem nm8:(Rows.registerOrderRow.named==Tryz.pinned.checked.prog.varsNamed 8)=true:=by kernel_rfl
theorem wf8:Rows.registerOrderRow.wfByText (OpenSpec.ofChange Rows.registerOrderSpec)=true:=by kernel_rfl
theorem gs8:false=Rows.registerOrderRow.goesBy Tryz.pinned.checked.prog:=by kernel_rfl
theorem fm8:Tryz.prog.funcNamed Rows.registerOrderRow.func=some 8:=by kernel_rfl
theorem closed8:joinedFacts Tryz.pinned.checked.prog 8 Tryz.f8 Rows.registerOrderSpec Rows.registerOrderRow=true:=by
 unfold joinedFacts;rw[ip8,uf8,rc8,nm8,loP,mrP,meP,shP,show(Rows.registerOrderRow.lifted==Tryz.pinned.checked.prog.liftsFinal)=true from liP,show(Tryz.pinned.checked.prog.make==some Rows.registerOrderRow.make)=true from mkP]
 kernel_rfl
end Go.Proofs.YtbfbepnkofampaaGreatDoor
end
