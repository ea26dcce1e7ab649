import Derived.Test.YtbfbepnkofampaaGreatDoorXP30
set_option maxRecDepth 100000
set_option synthInstance.maxSize 2000
set_option synthInstance.maxHeartbeats 400000
set_option maxHeartbeats 8000000
set_option linter.all false
section
namespace Go.Rg
open Go Go.Bp Go.RowKit Go.Walk Go.Proofs
class RAgeE (born day:Int) (a r:outParam Int):Prop where h:ageAns born day=(a,r)
theorem Ll(born day a r:Int)(h:ageAns born day=(a,r))(w:World):Calls Tryz.prog 198 #[.int .i64 born,.int .i64 day] w (RII w a r):=by
 by_cases hall:inB born 0 40000=false∨inB day 0 40000=false
 ·unfold ageAns at h;rw[if_pos hall] at h;injection h with h1 h2
  subst h1 h2;obtain⟨e1,he1⟩:∃e,inB born 0 40000=e:=⟨_,rfl⟩;obtain⟨e2,he2⟩:∃e,inB day 0 40000=e:=⟨_,rfl⟩;rw[he1,he2] at hall
  cases e1
  ·clear hall;go_enter Tryz.func198,Tryz.ntmps198
   go_wp2_with (first|(with_reducible refine aB ?_;first|rintro _ V ⟨rfl,(_:StepC _ _)⟩))
   all_goals(go_ret2;exact⟨rfl,⟨ExtC.h⟩⟩)
  ·obtain rfl:e2=false:=by simpa using hall
   clear hall;go_enter Tryz.func198,Tryz.ntmps198
   go_wp2_with (first|(with_reducible refine aB ?_;first|rintro _ V ⟨rfl,(_:StepC _ _)⟩))
   all_goals(go_ret2;exact⟨rfl,⟨ExtC.h⟩⟩)
 have hb:inB born 0 40000=true:=by cases hh:inB born 0 40000;exact absurd (.inl hh) hall;rfl
 have hd:inB day 0 40000=true:=by cases hh:inB day 0 40000;exact absurd (.inr hh) hall;rfl
 by_cases hlt:day<born
 ·unfold ageAns at h;rw[if_neg hall,if_pos hlt] at h;injection h with h1 h2
  subst h1 h2;have q:decide (day<born)=true:=by simpa using hlt
  clear hall;go_enter Tryz.func198,Tryz.ntmps198
  go_wp2_with (first|(with_reducible refine aB ?_;first|rintro _ V ⟨rfl,(_:StepC _ _)⟩))
  all_goals(go_ret2;exact⟨rfl,⟨ExtC.h⟩⟩)
 have b1:=inB_t.1 hb;have d1:=inB_t.1 hd;rw[Od b1.1 (by omega) d1.2] at h
 injection h with h1 h2
 subst h2;have q:decide (day<born)=false:=by simpa using hlt
 obtain⟨Y,M,D,hD,-,hY,hM,hDd⟩:=kS hb;have i1:RdtE born Y M D:=⟨b1,hD⟩;have H:=Lib.hid h1;have HO:=Lib.hid (show∀n:Int,oldAt born day n=(decide ((dayOf (Y+n) M (min D (longRef (Y+n) M))).2=0)&&decide ((dayOf (Y+n) M (min D (longRef (Y+n) M))).1≤day)) from fun n=>by unfold oldAt;simp only[hD])
 clear hall h1 hD;go_enter Tryz.func198,Tryz.ntmps198
 go_wp2_with (first|(with_reducible refine aB ?_;first|rintro _ V ⟨rfl,(_:StepC _ _)⟩))
 go_loopw [6,7] (fun av iv wr=>StepC w wr∧∃k:Nat,k≤110∧iv=.int .i64 ((k:Int)+1)∧av=.int .i64 (ageTo born day k)) (fun _ iv _=>111-(RowKit.intOf iv).toNat)
 case atStart=>exact⟨⟨ExtC.h⟩,0,by omega,rfl,rfl⟩
 case round=>
  obtain⟨_,k,hk,rfl,rfl⟩:=hrel;by_cases hl:k<110
  ·have qk:decide ((k:Int)+1≤110)=true:=by simp;omega
   have hst:ageTo born day (k+1)=if oldAt born day ((k:Int)+1)=true then(k:Int)+1 else ageTo born day k:=rfl
   rw[HO.out] at hst;obtain⟨y',hy'⟩:∃y',Y+((k:Int)+1)=y':=⟨_,rfl⟩;rw[hy'] at hst;obtain⟨L,hL⟩:∃L,longRef y' M=L:=⟨_,rfl⟩;have hlb:=kP y' M;rw[hL] at hst hlb;have i2:LongE y' M L:=⟨hL,by omega,by omega⟩
   obtain⟨⟨p,e⟩,hp⟩:∃x,dayOf y' M (min D L)=x:=⟨_,rfl⟩;rw[hp] at hst;have i3:RDayE y' M (if L<D then L else D) p e:=by
    have:min D L=if L<D then L else D:=by split<;>omega
    rw[←this];exact⟨⟨by omega,by omega⟩,⟨by omega,by omega⟩,hp⟩
   obtain⟨A,hA⟩:∃A,ageTo born day k=A:=⟨_,rfl⟩;rw[hA] at hst⊢;have z1:IntKind.i64.wrap y'=y':=IntWalk.i64_in _ (by omega)
   have z2:IntKind.i64.wrap ((k:Int)+1+1)=(k:Int)+1+1:=IntWalk.i64_in _ (by omega)
   have z3:IntKind.i64.wrap (Y+((k:Int)+1))=y':=by rw[hy'];exact z1
   obtain⟨c1,hc1⟩:∃c,decide (e=0)=c:=⟨_,rfl⟩;obtain⟨c2,hc2'⟩:∃c,decide (p≤day)=c:=⟨_,rfl⟩;simp only[hc1,hc2'] at hst;have hc3:(e==0)=c1:=by rw[←hc1];rfl
   have Hst:=Lib.hid hst;clear hst hL hp hA hy' hc1;have hc2:D≤L↔¬L<D:=by omega
   by_cases hc:L<D
   all_goals
    first|rw[if_pos hc] at i3|rw[if_neg hc] at i3
    have i9:=i3;first|rw[show L=min D L by omega] at i9|rw[show D=min D L by omega] at i9
    cases c1<;>cases c2
   all_goals
    go_wp2_with (first|(with_reducible refine aG (uu:=8) ?_;intro V g8 _ _ hA8;have iA:AtC wr g8:=AtC.up hA8)|(first|(with_reducible refine aA ?_)|(with_reducible refine aB ?_;first|rintro _ V ⟨rfl,(_:StepC _ _)⟩)|(with_reducible refine aI ?_;intro V _ _)))
    refine dA ((.take 0 (.take 2 (.take 3 (.take 4 (.take 5 (.two 1 (.one 6 (.take 7 (.take 8 (.one 9 .nil)))) 6 (.one 1 (.take 7 (.take 8 (.one 9 .nil))))))))))) (fun w'=>Ext wr w'∧w'.cell? ⟨g8,0,none⟩=some (.int .i64 y')∧w'.cell? ⟨g8,1,none⟩=some (.int .i64 M)) ?_ (fun hHd=> ?_) (hQ:=by intro _ _ _ _ _ h;exact h)
    ·exact⟨ExtC.h,BlkC.at0 (t:=184),BlkC.at1 (t:=184)⟩
    repeat' first|((with_reducible refine aX ?_);(first|(refine tk (v:= ?_) ?_ hHd ?_;rotate_left;(·(intro W' h;obtain⟨h,ha,hb⟩:=h;have:=StepC.mk h;have c0:=CellB.mk ha;have c1:=CellB.mk hb;first|with_reducible exact aJ)))|(refine tk (v:= ?_) ?_ hHd ?_;rotate_left;(·(intro wq hSw;go_simp;(try with_reducible rfl)))));(try simp only[pS]))|((with_reducible refine bC ?_);refine aQ (by simp only[gS];rfl) ?_)|((with_reducible refine gK ?_);refine dV (by simp only[gS];rfl) (by simp only[gS];rfl) ?_ ?_)|(with_reducible refine aA ?_)|(with_reducible refine aI ?_;intro Vs hS hSB)|((with_reducible refine aN ?_);first|(rintro _ V ⟨rfl,(_:StepC _ _)⟩;refine⟨_,rfl,?_⟩))|((with_reducible refine bD ?_);clear hHd;refine aM ⟨ExtC.h,BlkC.at0 (t:=184),BlkC.at1 (t:=184)⟩ (fun hHd=> ?_);(try simp only[pS]))|(with_reducible refine aF ?_)
    all_goals(go_wp2_with (first|(with_reducible refine aA ?_)|(with_reducible refine aB ?_;first|rintro _ V ⟨rfl,(_:StepC _ _)⟩)))
    all_goals exact⟨⟨⟨ExtC.h⟩,k+1,by omega,by push_cast;rfl,by rw[Hst.out];rfl⟩,by simp[RowKit.intOf];omega⟩
  ·obtain rfl:k=110:=by omega
   have hF:=H.out;obtain⟨A,hA⟩:∃A,ageTo born day 110=A:=⟨_,rfl⟩;rw[hA] at hF⊢;subst hF;clear hA;go_wp2
   go_ret2
   exact⟨rfl,⟨ExtC.h⟩⟩
instance{W:World}{born day a r:Int}[h:RAgeE born day a r]:FunC Tryz.prog 198 #[.int .i64 born,.int .i64 day] W (RII W a r):=⟨Ll _ _ _ _ h.h W⟩
end Go.Rg
end
