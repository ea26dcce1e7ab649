/- Chapter 03: contracts of functions of the program and of the reference, and plain laws (out of R1 R3 SR1 SR3 SR4 SR5 LS1 KChecks). No condition of its own. -/
import Derived.LaidMore
import Derived.Lay
import Derived.OpenShut
import Derived.ProofKit
import Derived.Stop.LaidErr
import Derived.Test.YtfjnacajjpaeiaaGreatDoorCards
import Derived.Test.YtfjnacajjpaeiaaGreatDoorTie
import Derived.Test.YtfjnacajjpaeiaaGreatDoorP20
set_option maxRecDepth 100000
set_option linter.all false
section
namespace Go.Bp
open Go.RowKit Go.Proofs
theorem cN(n lo hi:Int)(w:World):Calls Tryz.prog 53 #[.int .i64 n,.int .i64 lo,.int .i64 hi] w fun e w'=>e=.returned (.bool (inB n lo hi))∧w=w':=by
 unfold inB;go_enter Tryz.func53,Tryz.ntmps53
 go_wp2
 all_goals(go_ret;exact⟨by simp;omega,rfl⟩)
theorem nV(n lo hi:Int)(w:World):Calls Tryz.prog 117 #[.int .i64 n,.int .i64 lo,.int .i64 hi] w fun e w'=>e=.returned (.bool (inB n lo hi))∧w=w':=by
 unfold inB;go_enter Tryz.func117,Tryz.ntmps117
 go_wp2
 all_goals(go_ret;exact⟨by simp;omega,rfl⟩)
end Go.Bp
end
section
namespace Go.Bp
open Go.RowKit Go.Proofs
set_option maxHeartbeats 1000000 in
theorem rQ(s:ByteArray)(w:World)(hs:s.size≤maxLen):Calls Tryz.prog 94 #[.string s] w fun e w'=>e=.returned (.bool (dM s))∧w=w':=by
 unfold maxLen at hs;by_cases h1:inB s.size 1 16=true
 ·have hz:=aV.1 h1;obtain⟨hz1,hz2⟩:=hz;have hb0:s[0].toNat<256:=UInt8.toNat_lt _;by_cases h2:inB s[0].toNat 97 122=true
  ·go_enter Tryz.func94,Tryz.ntmps94
   go_wp2_with (go_at_call 117;refine(nV _ _ _ _).mono ?_;rintro e w' ⟨rfl,rfl⟩)
   go_loop [3] (fun i=>∃k:Nat,k≤s.size∧i=.int .i64 k∧∀j(hj:j<s.size),j<k→gG s[j]=true) (fun i=>s.size-(intOf i).toNat)
   case atStart=>exact⟨0,by omega,rfl,by omega⟩
   case round=>
    obtain⟨k,hk,rfl,hn⟩:=hrel;have Hn:=Lib.hid hn;clear hn;by_cases hlt:k<s.size
    ·have hbk:s[k].toNat<256:=UInt8.toNat_lt _;by_cases h3:inB s[k].toNat 97 122=true
     ·go_wp2_with (go_at_call 117;refine(nV _ _ _ _).mono ?_;rintro e w' ⟨rfl,rfl⟩)
      go_round
      case rel=>exact⟨k+1,by omega,by go_num,fun j hj hjk=>by
       by_cases e:j=k;·subst e;simp[gG,h3]
       ·exact Hn.out j hj (by omega)⟩
      case measure=>simp[intOf];omega
     ·simp only[Bool.not_eq_true] at h3;by_cases h4:inB s[k].toNat 48 57=true
      ·go_wp2_with (go_at_call 117;refine(nV _ _ _ _).mono ?_;rintro e w' ⟨rfl,rfl⟩)
       go_round
       case rel=>exact⟨k+1,by omega,by go_num,fun j hj hjk=>by
        by_cases e:j=k;·subst e;simp[gG,h4]
        ·exact Hn.out j hj (by omega)⟩
       case measure=>simp[intOf];omega
      ·simp only[Bool.not_eq_true] at h4;have hf:=wP hlt (by simp[gG,h3,h4])
       go_wp2_with (go_at_call 117;refine(nV _ _ _ _).mono ?_;rintro e w' ⟨rfl,rfl⟩)
       go_ret
       exact⟨by simp[hf],rfl⟩
    ·go_wp2
     go_ret
     have:=uM h1 (by omega) h2 (fun j hj=>Hn.out j hj (by omega))
     exact⟨by simp[this],rfl⟩
  ·simp only[Bool.not_eq_true] at h2;have hf:=wO (by omega) h2
   go_enter Tryz.func94,Tryz.ntmps94
   go_wp2_with (go_at_call 117;refine(nV _ _ _ _).mono ?_;rintro e w' ⟨rfl,rfl⟩)
   go_ret
   exact⟨by simp[hf],rfl⟩
 ·simp only[Bool.not_eq_true] at h1;have hf:=uN h1;go_enter Tryz.func94,Tryz.ntmps94
  go_wp2_with (go_at_call 117;refine(nV _ _ _ _).mono ?_;rintro e w' ⟨rfl,rfl⟩)
  go_ret
  exact⟨by simp[hf],rfl⟩
end Go.Bp
end
section
namespace Go.St
open Go Go.Bp Go.RowKit Go.Proofs
theorem wR(v:Value)(l:List ByteArray)(s:ByteArray)(w:World)(h:Strs w v l):
 Calls Tryz.prog 88 #[v,.string s] w fun e w'=>e=.returned (.int .i64 (mQ (fun x=>decide (s=x)) l))∧Ext w w':=by
 obtain⟨A,c,rfl,h1,h2,h3,h4⟩:=h;unfold maxLen at h2;clear h3;go_enter Tryz.func88,Tryz.ntmps88
 go_wp2
 go_loopw [5] (fun i wr=>Ext w wr∧∃k:Nat,k≤l.length∧i=.int .i64 k∧∀x∈l.take k,decide (s=x)=false) (fun i _=>l.length-(intOf i).toNat)
 case atStart=>exact⟨Ext.refl _,0,by omega,rfl,by simp⟩
 case round=>
  obtain⟨hEr,k,hk,rfl,hn⟩:=hrel;have Hn:=Lib.hid hn;clear hn;by_cases hlt:k<l.length
  ·obtain⟨ad,rfl,hc⟩:=h4 (by omega)
   have e1:=(hc.ext hEr).s hlt;clear h4 hc;by_cases he:l[k]=s
   ·have hbe:(l[k].toList==s.toList)=true:=by rw[Bf];simp[he]
    have Hr:=Lib.hid (nX (p:=fun x=>decide (s=x)) hlt (by simp[he]) Hn.out)
    clear he;go_wp2
    go_ret
    exact⟨lI Hr.out.symm,hEr⟩
   ·have hbe:(l[k].toList==s.toList)=false:=by rw[Bf];simp[he]
    have Hm:=Lib.hid (eG (p:=fun x=>decide (s=x)) hlt Hn.out (by simp;exact fun e=>he e.symm))
    clear he;go_wp2
    go_roundw
    case rel=>exact⟨hEr,k+1,by omega,by go_num,Hm.out⟩
    case measure=>simp[intOf];omega
  ·obtain rfl:k=l.length:=by omega
   have Hr:=Lib.hid (lM (p:=fun x=>decide (s=x)) (l:=l) (fun x hx=>Hn.out x (by rwa [List.take_length])))
   go_wp2
   go_ret
   exact⟨lI Hr.out.symm,hEr⟩
theorem jP(n:Nat)(hn:n≤61)(w:World):Calls Tryz.prog 42 #[.int .i64 n] w fun e w'=>e=.returned (.int .i64 (2^n))∧w=w':=by
 go_enter Tryz.func42,Tryz.ntmps42
 go_wp2
 go_loop [3,4] (fun p i=>∃k:Nat,k≤n∧i=.int .i64 k∧p=.int .i64 (2^k)) (fun _ i=>n-(intOf i).toNat)
 case atStart=>exact⟨0,by omega,rfl,rfl⟩
 case round=>
  obtain⟨k,hk,rfl,rfl⟩:=hrel;have hb:=iC hk hn;obtain⟨hb1,hb2⟩:=hb;have Hs:=Lib.hid (show(2:Int)^(k+1)=2*2^k by rw[Int.pow_succ];omega)
  obtain⟨p,hp⟩:∃p:Int,2^k=p:=⟨_,rfl⟩;have Hp:=Lib.hid hp;rw[hp] at hb1 hb2⊢;clear hp;by_cases hlt:k<n
  ·go_wp2
   go_round
   case rel=>exact⟨k+1,by omega,by go_num,by rw[Hs.out,Hp.out]⟩
   case measure=>simp[intOf];omega
  ·obtain rfl:k=n:=by omega
   go_wp2
   go_ret
   exact⟨lI Hp.out.symm,rfl⟩
end Go.St
end
section
namespace Go.St
open Go Go.Bp Go.RowKit Go.Proofs
theorem sH{l:List ByteArray}{k:Nat}(hk:k<l.length){e:Int}(he:dL l k=e)(h0:e≠0)(hb:∀j,j<k→dL l j=0):aP l=((k:Int),e):=by
 unfold aP;rw[pM (i:=k) hk (by simp[he,h0]) (fun j hj=>by simp[hb j hj])]
 simp[he]
theorem vQ{l:List ByteArray}(hb:∀j,j<l.length→dL l j=0):aP l=(0,0):=by
 unfold aP;rw[Go.Bp.find_none (fun j hj=>by simp[hb j hj])]
set_option maxHeartbeats 1000000 in
theorem iE(v:Value)(l:List ByteArray)(w:World)(h:Strs w v l)(hs:∀s∈l,s.size≤maxLen):
 Calls Tryz.prog 54 #[v] w (dQ w (aP l).1 (aP l).2):=by
 have hS:=h;obtain⟨A,c,rfl,h1,h2,h3,h4⟩:=h;unfold maxLen at h2;clear h3;go_enter Tryz.func54,Tryz.ntmps54
 go_wp2
 go_loopw [4] (fun i wr=>Ext w wr∧∃k:Nat,k≤l.length∧i=.int .i64 k∧∀j,j<k→dL l j=0) (fun i _=>l.length-(intOf i).toNat)
 case atStart=>exact⟨Ext.refl _,0,by omega,rfl,by omega⟩
 case round=>
  obtain⟨hEr,k,hk,rfl,hn⟩:=hrel;have Hn:=Lib.hid hn;clear hn;by_cases hlt:k<l.length
  ·obtain⟨ad,rfl,hc⟩:=h4 (by omega)
   have e1:=(hc.ext hEr).s hlt;have hsk:=hs _ (List.getElem_mem hlt);have hT:=(wD hS k hk).ext hEr;clear h4 hc;have z1:(0:Int)≤(k:Int):=by omega
   have z2:(k:Int)≤(c:Int):=by omega
   by_cases hN:dM l[k]=true
   ·by_cases hI:0≤mQ (fun x=>decide (l[k]=x)) (l.take k)
    ·have Hr:=Lib.hid (sH hlt (oL (l:=l) (i:=k) (by rw[gF hlt];exact hN) (by
      rw[gF hlt];have:=nW (fun x=>decide (l[k]=x)) (l.take k)
      rw[decide_eq_true hI] at this;obtain⟨x,hx,hx2⟩:=List.any_eq_true.1 this.symm;simp at hx2;rw[hx2];exact hx)) (by decide) Hn.out)
     go_wp2_with (go_at_call 94;refine(rQ _ _ hsk).mono ?_;rintro e w' ⟨rfl,rfl⟩)
     go_region_held3 (fun w'=>w'.cell? (ad.add k)=some (.string l[k])) (simp[*]) ((first|(go_at_call 88;((with_reducible refine(wR _ (l.take k) l[k] _ (by first|exact hT|exact(hT).d)).mono ?_);rintro e Wc1 ⟨rfl,hEc1⟩;(try replace hEc1:=Ext.undrew hEc1);(try replace hEr:=hEr.trans hEc1);(try replace e1:=hEc1.c e1)))))
     go_wp2
     go_ret2
     exact dQ.of Hr.out hEr
    ·have Hz:=Lib.hid (uG (l:=l) (i:=k) (by rw[gF hlt];exact hN) (by
      rw[gF hlt];have:=nW (fun x=>decide (l[k]=x)) (l.take k)
      rw[decide_eq_false hI] at this;intro hm;have h5:=List.any_eq_false.1 this.symm _ hm;simp at h5))
     go_wp2_with (go_at_call 94;refine(rQ _ _ hsk).mono ?_;rintro e w' ⟨rfl,rfl⟩)
     go_region_held3 (fun w'=>w'.cell? (ad.add k)=some (.string l[k])) (simp[*]) ((first|(go_at_call 88;((with_reducible refine(wR _ (l.take k) l[k] _ (by first|exact hT|exact(hT).d)).mono ?_);rintro e Wc2 ⟨rfl,hEc2⟩;(try replace hEc2:=Ext.undrew hEc2);(try replace hEr:=hEr.trans hEc2);(try replace e1:=hEc2.c e1)))))
     go_wp2
     go_roundw
     case rel=>exact⟨hEr,k+1,by omega,by go_num,fun j hj=>by
      by_cases e:j=k;·rw[e];exact Hz.out
      ·exact Hn.out j (by omega)⟩
     case measure=>simp[intOf];omega
   ·simp only[Bool.not_eq_true] at hN;have Hr:=Lib.hid (sH hlt (qM (l:=l) (i:=k) (by rw[gF hlt];exact hN)) (by decide) Hn.out)
    go_wp2_with (go_at_call 94;refine(rQ _ _ hsk).mono ?_;rintro e w' ⟨rfl,rfl⟩)
    go_ret2
    exact dQ.of Hr.out hEr
  ·obtain rfl:k=l.length:=by omega
   have Hr:=Lib.hid (vQ Hn.out);go_wp2
   go_ret2
   exact dQ.of Hr.out hEr
end Go.St
end
section
namespace Go.St
open Go Go.Bp Go.RowKit Go.Proofs
theorem lD{p:Int→Bool}{l:List Int}{k:Nat}(hk:k<l.length)(h:∀x∈l.take k,p x=true)(hp:p l[k]=true):∀x∈l.take (k+1),p x=true:=by
 intro x hx;rw[cI _ hk] at hx;rcases List.mem_append.1 hx with h1|h1
 ·exact h x h1
 ·simp at h1;rw[h1];exact hp
set_option maxHeartbeats 4000000 in
theorem sB(tv sv:Value)(t:Town)(s:Street)(w:World)(h:aM w tv t)(hsm:t.Small)(hs:iS w sv s):
 Calls Tryz.prog 55 #[tv,sv] w (dF w (t.streetErr s)):=by
 obtain⟨pv,shv,tmv,xv,rfl,hT⟩:=h;obtain⟨A1,cp1,rfl,_,_,_,_⟩:=hT.places;obtain⟨A2,cp2,rfl,_,_,_,_⟩:=hT.shows;obtain⟨A3,cp3,rfl,_,_,_,_⟩:=hT.times;obtain⟨A4,cp4,rfl,_,_,_⟩:=hT.streets;obtain⟨ssv,rfl,⟨A,c,rfl,h1,h2,h3,h4⟩⟩:=hs;unfold maxLen at h2;have hp2:=hsm.p2;have hsh:=hsm.sh;have ht2:=hsm.t2;clear h3 hT hsm;have hE:=Ext.refl w;have Hs:=Lib.hid (show t.streetErr s=if inB s.a 0 (t.places.length-1)=false∨inB s.b 0 (t.places.length-1)=false then 4
  else if s.a=s.b then 2 else if s.shows.length≠t.times.length then 3
  else if inB s.metres 1 10000=false∨inB s.lo 0 60=false∨inB s.hi 0 60=false∨(s.shows.all fun n=>inB n 0 (t.sets-1))=false then 7
  else if s.lo>s.hi then 2 else 0 from rfl)
 cases c1:inB s.a 0 (t.places.length-1) with
 |false=>
  go_enter Tryz.func55,Tryz.ntmps55
  go_wp2_with (first|((go_at_call 53;refine(cN _ _ _ _).mono ?_;rintro e w' ⟨rfl,rfl⟩))|((with_reducible refine aF (d:=some 2) ?_);intro W2 g2 hE2 hB2 hg2;simp[Act.eval,Act.put,Value.cells] at hB2;(try replace hE:=hE.trans hE2);have hb2_0:=hB2.cell 0;have hb2_1:=hB2.cell 1;have hb2_2:=hB2.cell 2;have hb2_3:=hB2.cell 3;simp at hb2_0 hb2_1 hb2_2 hb2_3;clear hE2)|((with_reducible refine aF (d:=some 3) ?_);intro W3 g3 hE3 hB3 hg3;simp[Act.eval,Act.put,Value.cells] at hB3;(try replace hE:=hE.trans hE3);(try replace hB2:=hB2.ext hE3);(try replace hb2_0:=hE3.c hb2_0);(try replace hb2_2:=hE3.c hb2_2);have hb3_0:=hB3.cell 0;have hb3_1:=hB3.cell 1;have hb3_2:=hB3.cell 2;have hb3_3:=hB3.cell 3;have hb3_4:=hB3.cell 4;have hb3_5:=hB3.cell 5;have hb3_6:=hB3.cell 6;simp at hb3_0 hb3_1 hb3_2 hb3_3 hb3_4 hb3_5 hb3_6;clear hE3))
  go_ret
  exact dF.of (by rw[Hs.out,if_pos (.inl c1)]) hE
 |true=>
  cases c2:inB s.b 0 (t.places.length-1) with
  |false=>
   go_enter Tryz.func55,Tryz.ntmps55
   go_wp2_with (first|((go_at_call 53;refine(cN _ _ _ _).mono ?_;rintro e w' ⟨rfl,rfl⟩))|((with_reducible refine aF (d:=some 2) ?_);intro W2 g2 hE2 hB2 hg2;simp[Act.eval,Act.put,Value.cells] at hB2;(try replace hE:=hE.trans hE2);have hb2_0:=hB2.cell 0;have hb2_1:=hB2.cell 1;have hb2_2:=hB2.cell 2;have hb2_3:=hB2.cell 3;simp at hb2_0 hb2_1 hb2_2 hb2_3;clear hE2)|((with_reducible refine aF (d:=some 3) ?_);intro W3 g3 hE3 hB3 hg3;simp[Act.eval,Act.put,Value.cells] at hB3;(try replace hE:=hE.trans hE3);(try replace hB2:=hB2.ext hE3);(try replace hb2_0:=hE3.c hb2_0);(try replace hb2_2:=hE3.c hb2_2);have hb3_0:=hB3.cell 0;have hb3_1:=hB3.cell 1;have hb3_2:=hB3.cell 2;have hb3_3:=hB3.cell 3;have hb3_4:=hB3.cell 4;have hb3_5:=hB3.cell 5;have hb3_6:=hB3.cell 6;simp at hb3_0 hb3_1 hb3_2 hb3_3 hb3_4 hb3_5 hb3_6;clear hE3))
   go_ret
   exact dF.of (by rw[Hs.out,if_pos (.inr c2)]) hE
  |true=>
   have Hs2:=Lib.hid (show¬(inB s.a 0 (t.places.length-1)=false∨inB s.b 0 (t.places.length-1)=false) by simp[c1,c2])
   by_cases c3:s.a=s.b
   ·have q3:(s.a==s.b)=true:=by simp[c3]
    have C3:=Lib.hid c3;clear c3;go_enter Tryz.func55,Tryz.ntmps55
    go_wp2_with (first|((go_at_call 53;refine(cN _ _ _ _).mono ?_;rintro e w' ⟨rfl,rfl⟩))|((with_reducible refine aF (d:=some 2) ?_);intro W2 g2 hE2 hB2 hg2;simp[Act.eval,Act.put,Value.cells] at hB2;(try replace hE:=hE.trans hE2);have hb2_0:=hB2.cell 0;have hb2_1:=hB2.cell 1;have hb2_2:=hB2.cell 2;have hb2_3:=hB2.cell 3;simp at hb2_0 hb2_1 hb2_2 hb2_3;clear hE2)|((with_reducible refine aF (d:=some 3) ?_);intro W3 g3 hE3 hB3 hg3;simp[Act.eval,Act.put,Value.cells] at hB3;(try replace hE:=hE.trans hE3);(try replace hB2:=hB2.ext hE3);(try replace hb2_0:=hE3.c hb2_0);(try replace hb2_2:=hE3.c hb2_2);have hb3_0:=hB3.cell 0;have hb3_1:=hB3.cell 1;have hb3_2:=hB3.cell 2;have hb3_3:=hB3.cell 3;have hb3_4:=hB3.cell 4;have hb3_5:=hB3.cell 5;have hb3_6:=hB3.cell 6;simp at hb3_0 hb3_1 hb3_2 hb3_3 hb3_4 hb3_5 hb3_6;clear hE3))
    go_ret
    exact dF.of (by rw[Hs.out,if_neg Hs2.out,if_pos C3.out]) hE
   ·have q3:(s.a==s.b)=false:=by simp[c3]
    have C3:=Lib.hid c3;clear c3;by_cases c4:s.shows.length=t.times.length
    ·have q4:((s.shows.length:Int) !=(t.times.length:Int))=false:=by simp[c4]
     have C4:=Lib.hid (show¬(s.shows.length≠t.times.length) by simp[c4])
     have hl4:s.shows.length≤4:=by omega
     clear c4
     cases c5:inB s.metres 1 10000 with
     |false=>
      go_enter Tryz.func55,Tryz.ntmps55
      go_wp2_with (first|((go_at_call 53;refine(cN _ _ _ _).mono ?_;rintro e w' ⟨rfl,rfl⟩))|((with_reducible refine aF (d:=some 2) ?_);intro W2 g2 hE2 hB2 hg2;simp[Act.eval,Act.put,Value.cells] at hB2;(try replace hE:=hE.trans hE2);have hb2_0:=hB2.cell 0;have hb2_1:=hB2.cell 1;have hb2_2:=hB2.cell 2;have hb2_3:=hB2.cell 3;simp at hb2_0 hb2_1 hb2_2 hb2_3;clear hE2)|((with_reducible refine aF (d:=some 3) ?_);intro W3 g3 hE3 hB3 hg3;simp[Act.eval,Act.put,Value.cells] at hB3;(try replace hE:=hE.trans hE3);(try replace hB2:=hB2.ext hE3);(try replace hb2_0:=hE3.c hb2_0);(try replace hb2_2:=hE3.c hb2_2);have hb3_0:=hB3.cell 0;have hb3_1:=hB3.cell 1;have hb3_2:=hB3.cell 2;have hb3_3:=hB3.cell 3;have hb3_4:=hB3.cell 4;have hb3_5:=hB3.cell 5;have hb3_6:=hB3.cell 6;simp at hb3_0 hb3_1 hb3_2 hb3_3 hb3_4 hb3_5 hb3_6;clear hE3))
      go_ret
      exact dF.of (by rw[Hs.out,if_neg Hs2.out,if_neg C3.out,if_neg C4.out,if_pos (.inl c5)]) hE
     |true=>
      cases c6:inB s.lo 0 60 with
      |false=>
       go_enter Tryz.func55,Tryz.ntmps55
       go_wp2_with (first|((go_at_call 53;refine(cN _ _ _ _).mono ?_;rintro e w' ⟨rfl,rfl⟩))|((with_reducible refine aF (d:=some 2) ?_);intro W2 g2 hE2 hB2 hg2;simp[Act.eval,Act.put,Value.cells] at hB2;(try replace hE:=hE.trans hE2);have hb2_0:=hB2.cell 0;have hb2_1:=hB2.cell 1;have hb2_2:=hB2.cell 2;have hb2_3:=hB2.cell 3;simp at hb2_0 hb2_1 hb2_2 hb2_3;clear hE2)|((with_reducible refine aF (d:=some 3) ?_);intro W3 g3 hE3 hB3 hg3;simp[Act.eval,Act.put,Value.cells] at hB3;(try replace hE:=hE.trans hE3);(try replace hB2:=hB2.ext hE3);(try replace hb2_0:=hE3.c hb2_0);(try replace hb2_2:=hE3.c hb2_2);have hb3_0:=hB3.cell 0;have hb3_1:=hB3.cell 1;have hb3_2:=hB3.cell 2;have hb3_3:=hB3.cell 3;have hb3_4:=hB3.cell 4;have hb3_5:=hB3.cell 5;have hb3_6:=hB3.cell 6;simp at hb3_0 hb3_1 hb3_2 hb3_3 hb3_4 hb3_5 hb3_6;clear hE3))
       go_ret
       exact dF.of (by rw[Hs.out,if_neg Hs2.out,if_neg C3.out,if_neg C4.out,if_pos (.inr (.inl c6))]) hE
      |true=>
       cases c7:inB s.hi 0 60 with
       |false=>
        go_enter Tryz.func55,Tryz.ntmps55
        go_wp2_with (first|((go_at_call 53;refine(cN _ _ _ _).mono ?_;rintro e w' ⟨rfl,rfl⟩))|((with_reducible refine aF (d:=some 2) ?_);intro W2 g2 hE2 hB2 hg2;simp[Act.eval,Act.put,Value.cells] at hB2;(try replace hE:=hE.trans hE2);have hb2_0:=hB2.cell 0;have hb2_1:=hB2.cell 1;have hb2_2:=hB2.cell 2;have hb2_3:=hB2.cell 3;simp at hb2_0 hb2_1 hb2_2 hb2_3;clear hE2)|((with_reducible refine aF (d:=some 3) ?_);intro W3 g3 hE3 hB3 hg3;simp[Act.eval,Act.put,Value.cells] at hB3;(try replace hE:=hE.trans hE3);(try replace hB2:=hB2.ext hE3);(try replace hb2_0:=hE3.c hb2_0);(try replace hb2_2:=hE3.c hb2_2);have hb3_0:=hB3.cell 0;have hb3_1:=hB3.cell 1;have hb3_2:=hB3.cell 2;have hb3_3:=hB3.cell 3;have hb3_4:=hB3.cell 4;have hb3_5:=hB3.cell 5;have hb3_6:=hB3.cell 6;simp at hb3_0 hb3_1 hb3_2 hb3_3 hb3_4 hb3_5 hb3_6;clear hE3))
        go_ret
        exact dF.of (by rw[Hs.out,if_neg Hs2.out,if_neg C3.out,if_neg C4.out,if_pos (.inr (.inr (.inl c7)))]) hE
       |true=>
        have Hx:=Lib.hid (show(s.shows.all fun n=>inB n 0 (t.sets-1))=false→t.streetErr s=7 from fun h=>by rw[Hs.out,if_neg Hs2.out,if_neg C3.out,if_neg C4.out,if_pos (.inr (.inr (.inr h)))])
        have Hy:=Lib.hid (show(s.shows.all fun n=>inB n 0 (t.sets-1))=true→t.streetErr s=if s.lo>s.hi then 2 else 0 from fun h=>by rw[Hs.out,if_neg Hs2.out,if_neg C3.out,if_neg C4.out,if_neg (by simp[c5,c6,c7,h])])
        have hset:=iC (show t.shows.length≤6 by omega) (by omega)
        have hset2:=nP (show t.shows.length≤6 by omega)
        have cset:=fun w=>jP t.shows.length (by omega) w
        have Hss:=Lib.hid (show t.sets=2^t.shows.length from rfl)
        obtain⟨m,hm⟩:∃m:Int,2^t.shows.length=m:=⟨_,rfl⟩;have Hm:=Lib.hid hm;rw[hm] at hset hset2 cset Hss;rw[show t.sets=m from Hss.out] at Hx Hy
        obtain⟨hset0,_⟩:=hset;have zm:IntKind.i64.wrap (m-1)=m-1:=IntWalk.i64_in _ (by omega)
        clear hm;go_enter Tryz.func55,Tryz.ntmps55
        go_wp2_with (first|((go_at_call 53;refine(cN _ _ _ _).mono ?_;rintro e w' ⟨rfl,rfl⟩))|((with_reducible refine aF (d:=some 2) ?_);intro W2 g2 hE2 hB2 hg2;simp[Act.eval,Act.put,Value.cells] at hB2;(try replace hE:=hE.trans hE2);have hb2_0:=hB2.cell 0;have hb2_1:=hB2.cell 1;have hb2_2:=hB2.cell 2;have hb2_3:=hB2.cell 3;simp at hb2_0 hb2_1 hb2_2 hb2_3;clear hE2)|((with_reducible refine aF (d:=some 3) ?_);intro W3 g3 hE3 hB3 hg3;simp[Act.eval,Act.put,Value.cells] at hB3;(try replace hE:=hE.trans hE3);(try replace hB2:=hB2.ext hE3);(try replace hb2_0:=hE3.c hb2_0);(try replace hb2_2:=hE3.c hb2_2);have hb3_0:=hB3.cell 0;have hb3_1:=hB3.cell 1;have hb3_2:=hB3.cell 2;have hb3_3:=hB3.cell 3;have hb3_4:=hB3.cell 4;have hb3_5:=hB3.cell 5;have hb3_6:=hB3.cell 6;simp at hb3_0 hb3_1 hb3_2 hb3_3 hb3_4 hb3_5 hb3_6;clear hE3))
        have hB0:=hE.size;have k21:=hb2_1;have k35:=hb3_5;go_loopw [5] (fun i wr=>Ext W3 wr∧∃k:Nat,k≤s.shows.length∧i=.int .i64 k∧∀x∈s.shows.take k,inB x 0 (m-1)=true) (fun i _=>s.shows.length-(intOf i).toNat)
        case atStart=>exact⟨Ext.refl _,0,by omega,rfl,by simp⟩
        case round=>
         obtain⟨hEr,k,hk,rfl,hn⟩:=hrel;have Hn:=Lib.hid hn;have hEq:=hE.trans hEr;have hB2r:=hB2.ext hEr;have hB3r:=hB3.ext hEr;have e3:=hB2r.cell 1;have e4:=hB3r.cell 6;have e5:=hB3r.cell 3;have e6:=hB3r.cell 4;simp at e3 e4 e5 e6;clear hn hb2_0 hb2_1 hb2_2 hb2_3 hb3_0 hb3_1 hb3_2 hb3_3 hb3_4 hb3_5 hb3_6 hB2 hB3 k21 k35;by_cases hlt:k<s.shows.length
         ·obtain⟨ad,rfl,hc⟩:=h4 (by omega)
          have e1:=(hc.ext hEq).i hlt;clear h4 hc
          cases c8:inB s.shows[k] 0 (m-1) with
          |false=>
           have Hr:=Lib.hid (Hx.out (List.all_eq_false.2 ⟨_,List.getElem_mem hlt,by simp[c8]⟩))
           go_wp2
           go_region_held3 (fun w'=>w'.cell? (ad.add k)=some (.int .i64 s.shows[k])∧w'.cell? (⟨g2,1,none⟩)=some (.slice A2 t.shows.length cp2)∧w'.cell? (⟨g3,6,none⟩)=some (.slice (some ad) s.shows.length c)) (simp[*]) ((first|((go_at_call 53;refine(cN _ _ _ _).mono ?_;rintro e w' ⟨rfl,rfl⟩))|((go_at_call 42;refine(cset _).mono ?_;rintro e w' ⟨rfl,rfl⟩))))
           go_wp2
           go_ret
           exact dF.of Hr.out hEq.todrew
          |true=>
           have Ht:=Lib.hid (lD hlt Hn.out c8);go_wp2
           go_region_held3 (fun w'=>w'.cell? (ad.add k)=some (.int .i64 s.shows[k])∧w'.cell? (⟨g2,1,none⟩)=some (.slice A2 t.shows.length cp2)∧w'.cell? (⟨g3,6,none⟩)=some (.slice (some ad) s.shows.length c)) (simp[*]) ((first|((go_at_call 53;refine(cN _ _ _ _).mono ?_;rintro e w' ⟨rfl,rfl⟩))|((go_at_call 42;refine(cset _).mono ?_;rintro e w' ⟨rfl,rfl⟩))))
           go_wp2
           go_roundw
           case rel=>exact⟨hEr.todrew,k+1,by omega,by go_num,Ht.out⟩
           case measure=>simp[intOf];omega
         ·obtain rfl:k=s.shows.length:=by omega
          have Ha:=Lib.hid (Hy.out (List.all_eq_true.2 (fun x hx=>Hn.out x (by rwa [List.take_length]))))
          clear h4;by_cases c9:s.hi<s.lo
          ·go_wp2
           go_ret
           exact dF.of (by rw[Ha.out,if_pos (by omega)]) hEq
          ·go_wp2
           go_ret
           exact dF.of (by rw[Ha.out,if_neg (by omega)]) hEq
    ·have q4:((s.shows.length:Int) !=(t.times.length:Int))=true:=by rw[bne_iff_ne];omega
     have C4:=Lib.hid (show s.shows.length≠t.times.length from c4)
     clear c4;go_enter Tryz.func55,Tryz.ntmps55
     go_wp2_with (first|((go_at_call 53;refine(cN _ _ _ _).mono ?_;rintro e w' ⟨rfl,rfl⟩))|((with_reducible refine aF (d:=some 2) ?_);intro W2 g2 hE2 hB2 hg2;simp[Act.eval,Act.put,Value.cells] at hB2;(try replace hE:=hE.trans hE2);have hb2_0:=hB2.cell 0;have hb2_1:=hB2.cell 1;have hb2_2:=hB2.cell 2;have hb2_3:=hB2.cell 3;simp at hb2_0 hb2_1 hb2_2 hb2_3;clear hE2)|((with_reducible refine aF (d:=some 3) ?_);intro W3 g3 hE3 hB3 hg3;simp[Act.eval,Act.put,Value.cells] at hB3;(try replace hE:=hE.trans hE3);(try replace hB2:=hB2.ext hE3);(try replace hb2_0:=hE3.c hb2_0);(try replace hb2_2:=hE3.c hb2_2);have hb3_0:=hB3.cell 0;have hb3_1:=hB3.cell 1;have hb3_2:=hB3.cell 2;have hb3_3:=hB3.cell 3;have hb3_4:=hB3.cell 4;have hb3_5:=hB3.cell 5;have hb3_6:=hB3.cell 6;simp at hb3_0 hb3_1 hb3_2 hb3_3 hb3_4 hb3_5 hb3_6;clear hE3))
     go_ret
     exact dF.of (by rw[Hs.out,if_neg Hs2.out,if_neg C3.out,if_pos C4.out]) hE
end Go.St
end
section
namespace Go.St
open Go Go.Bp Go.RowKit Go.Proofs
section
variable{ops:Array Oper}{Q:Exit→Act→World→Prop}{a:Act}{w:World}{rest:List Oper}
variable{d:Option Tmp}{ty:TypeId}{pos:String}{after:Array Edge}
end
theorem Town.streetsErr_at{t:Town}{k:Nat}(hk:k<t.streets.length){e:Int}(he:t.streetErr t.streets[k]=e)(h0:e≠0)(hb:∀j(hj:j<t.streets.length),j<k→t.streetErr t.streets[j]=0):t.streetsErr=((k:Int),e):=by
 have g:∀j(hj:j<t.streets.length),t.streets.getD j ⟨0,0,0,0,0,false,[]⟩=t.streets[j]:=fun j hj=>by simp[List.getD,hj]
 unfold Town.streetsErr;rw[pM (i:=k) hk (by rw[g k hk];simp[he,h0]) (fun j hj=>by rw[g j (by omega)];simp[hb j (by omega) hj])]
 simp only[g k hk,he]
theorem Town.streetsErr_none{t:Town}(hb:∀j(hj:j<t.streets.length),t.streetErr t.streets[j]=0):t.streetsErr=(0,0):=by
 have g:∀j(hj:j<t.streets.length),t.streets.getD j ⟨0,0,0,0,0,false,[]⟩=t.streets[j]:=fun j hj=>by simp[List.getD,hj]
 unfold Town.streetsErr;rw[Go.Bp.find_none (fun j hj=>by rw[g j hj];simp[hb j hj])]
set_option maxHeartbeats 4000000 in
theorem dH(tv:Value)(t:Town)(w:World)(h:aM w tv t):
 Calls Tryz.prog 18 #[tv] w (fF w t.check.1 t.check.2.1 t.check.2.2):=by
 obtain⟨pv,shv,tmv,xv,rfl,hT⟩:=h;have hTP:=hT.places;have hTS:=hT.shows;have hTT:=hT.times;have hTX:=hT.streets;have hwf:=hT.wf;obtain⟨A1,cp1,rfl,_,hc1,_,_⟩:=hT.places;obtain⟨A2,cp2,rfl,_,hc2,_,_⟩:=hT.shows;obtain⟨A3,cp3,rfl,_,hc3,_,_⟩:=hT.times;obtain⟨A4,cp4,rfl,h1,h2,h4⟩:=hT.streets;unfold maxLen at h2 hc1 hc2 hc3;have hE:=Ext.refl w;by_cases hsm:t.Small
 ·have hp2:=hsm.p2;have hsh:=hsm.sh;have ht2:=hsm.t2;have hst:=hsm.st;have c1:inB (t.places.length:Int) 1 16=true:=aV.2 (by have:=hsm.p1;omega)
  have c2:¬(6<(t.shows.length:Int)):=by omega
  have c3:inB (t.times.length:Int) 1 4=true:=aV.2 (by have:=hsm.t1;omega)
  have c4:¬(40<(t.streets.length:Int)):=by omega
  have w0:∀s∈t.places,s.size≤maxLen:=fun s hs=>hwf s (by simp[hs])
  have w1:∀s∈t.shows,s.size≤maxLen:=fun s hs=>hwf s (by simp[hs])
  have w2:∀s∈t.times,s.size≤maxLen:=fun s hs=>hwf s (by simp[hs])
  clear hwf;go_enter Tryz.func18,Tryz.ntmps18
  go_wp2_with (first|((go_at_call 53;refine(cN _ _ _ _).mono ?_;rintro e w' ⟨rfl,rfl⟩))|(((with_reducible refine Jk (d:=some 41) (p:=.slice A1 t.places.length cp1) (q:=.slice A2 t.shows.length cp2) (r:=.slice A3 t.times.length cp3) ?_ ?_ ?_ ?_ ?_ ?_ ?_);rfl;rfl;rfl;rfl;rfl;rfl;intro W41 g41 hE41 hB41 hg41;have hBt:=hB1.ext hE41;replace hE:=hE.trans hE41))|((with_reducible refine aF (d:=some 1) ?_);intro W1 g1 hE1 hB1 hg1;simp[Act.eval,Act.put,Value.cells] at hB1;(try replace hE:=hE.trans hE1);have hb1_0:=hB1.cell 0;have hb1_1:=hB1.cell 1;have hb1_2:=hB1.cell 2;have hb1_3:=hB1.cell 3;simp at hb1_0 hb1_1 hb1_2 hb1_3;clear hE1))
  go_loopw [6,7,8] (fun n _ _ wr=>Ext W41 wr∧∃k:Nat,k≤3∧n=.int .i64 k∧∀j,j<k→(aP (t.lists j)).2=0) (fun n _ _ _=>3-(intOf n).toNat)
  case atStart=>exact⟨Ext.refl _,0,by omega,rfl,by omega⟩
  case round=>
   obtain⟨hEr,k,hk,rfl,hn⟩:=hrel;have Hn:=Lib.hid hn;have hBr:=hB41.ext hEr;have hBtr:=hBt.ext hEr;clear hn hb1_0 hb1_1 hb1_2 hb1_3;by_cases hk3:k=3
   ·subst hk3;have Hc:=Lib.hid (Town.check_s hsm Hn.out);have hE0:=hE.trans hEr;go_wp2
    clear hE hEr hBr hB41 hBt;go_loopw [9,10] (fun i _ W=>Ext wr W∧∃k:Nat,k≤t.streets.length∧i=.int .i64 k∧∀j(hj:j<t.streets.length),j<k→t.streetErr t.streets[j]=0) (fun i _ _=>t.streets.length-(intOf i).toNat)
    case atStart=>exact⟨Ext.refl _,0,by omega,rfl,by omega⟩
    case round=>
     obtain⟨hEr,k,hk,rfl,hm⟩:=hrel;have Hm:=Lib.hid hm;have hB1q:=hBtr.ext hEr;have b3:=hB1q.cell 3;simp at b3;have hEq:=hE0.trans hEr;clear hm hBtr;by_cases hlt:k<t.streets.length
     ·obtain⟨ad,rfl,hc⟩:=h4 (by omega)
      obtain⟨sv,hs⟩:=hc k hlt;clear h4 hc hTX;have hEd:=hEq.todrew;have hEo:=Ext.todrew (Ext.refl wr);have b3d:=Ext.cell_some (Ext.todrew (Ext.refl _)) b3;have hTd:=hT.ext hEd
      cases hq:decide (t.streetErr t.streets[k]=0) with
      |true=>
       have hq0:t.streetErr t.streets[k]=0:=of_decide_eq_true hq;have Hq:=Lib.hid hq0;clear hq;go_wp2
       refine aR (.take 0 (.take 1 (.take 2 (.take 3 (.take 4 (.take 5 (.one 6 (.take 7 .nil)))))))) (fun w'=>Ext wr w'∧w'.cell? ⟨g1,3,none⟩=some (.slice (some ad) t.streets.length cp4)) ?_ (fun hHd=> ?_)
       ·(first|exact True.intro|((try dsimp only);(repeat' apply And.intro)<;>first|assumption|(refine Ext.cell_some (Ext.todrew (Ext.refl _)) ?_;assumption)))
       repeat' first|((with_reducible refine aB ?_);(first|((with_reducible refine aB (i:=0) ?_);refine tk (v:=.agg #[.slice A1 t.places.length cp1,.slice A2 t.shows.length cp2,.slice A3 t.times.length cp3,.slice (some ad) t.streets.length cp4]) ?_ hHd ?_;(·exact aA (by rfl) (fun W h=>aL (hB1q.ext h.1))))|((with_reducible refine aB (i:=5) ?_);refine tk (v:=.agg #[.int .i64 t.streets[k].a,.int .i64 t.streets[k].b,.int .i64 t.streets[k].metres,.int .i64 t.streets[k].lo,.int .i64 t.streets[k].hi,.bool t.streets[k].both,sv]) ?_ hHd ?_;(·exact aA (by rfl) (fun W h=>eA ((hs.ext hEq).ext h.1))))|(refine tk (v:= ?_) ?_ hHd ?_;rotate_left;(·(intro wq hSw;(try dsimp only at hSw);go_simp;(try with_reducible rfl)))));(try simp only[pS]))|((with_reducible refine bC ?_);refine aQ (by simp only[gS];rfl) ?_)|((with_reducible refine aH (d:=some 73) ?_);((refine bD (by rfl) (sB _ _ t t.streets[k] _ (aM.of hTd) hsm (iS.of (hs.ext hEd).2)) (by go_simp) ?_;rintro e W73 ⟨rfl,hE73⟩;refine⟨_,rfl,?_⟩;have hEw:=hEd.trans hE73;have hEow:=hEo.trans hE73;have b3w:=hE73.c b3d)))|((with_reducible refine bB ?_);clear hHd;refine aJ ?_ (fun hHd=> ?_);(·(first|exact True.intro|((try dsimp only);(repeat' apply And.intro)<;>first|assumption|(refine Ext.cell_some (Ext.todrew (Ext.refl _)) ?_;assumption))));(try simp only[pS]))|(with_reducible refine aG ?_)
       rw[hq0];go_wp2
       go_roundw
       case rel=>exact⟨hEr.trans hE73.undrew,k+1,by omega,by go_num,fun j hj hjk=>by by_cases e:j=k;(subst e;exact Hq.out);(exact Hm.out j hj (by omega))⟩
       case measure=>simp[intOf];omega
      |false=>
       have hq0:¬t.streetErr t.streets[k]=0:=of_decide_eq_false hq;have Hr:=Lib.hid (Town.streetsErr_at hlt rfl hq0 Hm.out);have q0:(t.streetErr t.streets[k] !=0)=true:=by simp[hq0]
       have Hq:=Lib.hid hq0;clear hq hq0;go_wp2
       refine aR (.take 0 (.take 1 (.take 2 (.take 3 (.take 4 (.take 5 (.one 6 (.take 7 .nil)))))))) (fun w'=>Ext wr w'∧w'.cell? ⟨g1,3,none⟩=some (.slice (some ad) t.streets.length cp4)) ?_ (fun hHd=> ?_)
       ·(first|exact True.intro|((try dsimp only);(repeat' apply And.intro)<;>first|assumption|(refine Ext.cell_some (Ext.todrew (Ext.refl _)) ?_;assumption)))
       repeat' first|((with_reducible refine aB ?_);(first|((with_reducible refine aB (i:=0) ?_);refine tk (v:=.agg #[.slice A1 t.places.length cp1,.slice A2 t.shows.length cp2,.slice A3 t.times.length cp3,.slice (some ad) t.streets.length cp4]) ?_ hHd ?_;(·exact aA (by rfl) (fun W h=>aL (hB1q.ext h.1))))|((with_reducible refine aB (i:=5) ?_);refine tk (v:=.agg #[.int .i64 t.streets[k].a,.int .i64 t.streets[k].b,.int .i64 t.streets[k].metres,.int .i64 t.streets[k].lo,.int .i64 t.streets[k].hi,.bool t.streets[k].both,sv]) ?_ hHd ?_;(·exact aA (by rfl) (fun W h=>eA ((hs.ext hEq).ext h.1))))|(refine tk (v:= ?_) ?_ hHd ?_;rotate_left;(·(intro wq hSw;(try dsimp only at hSw);go_simp;(try with_reducible rfl)))));(try simp only[pS]))|((with_reducible refine bC ?_);refine aQ (by simp only[gS];rfl) ?_)|((with_reducible refine aH (d:=some 73) ?_);((refine bD (by rfl) (sB _ _ t t.streets[k] _ (aM.of hTd) hsm (iS.of (hs.ext hEd).2)) (by go_simp) ?_;rintro e W73 ⟨rfl,hE73⟩;refine⟨_,rfl,?_⟩;have hEw:=hEd.trans hE73;have hEow:=hEo.trans hE73;have b3w:=hE73.c b3d)))|((with_reducible refine bB ?_);clear hHd;refine aJ ?_ (fun hHd=> ?_);(·(first|exact True.intro|((try dsimp only);(repeat' apply And.intro)<;>first|assumption|(refine Ext.cell_some (Ext.todrew (Ext.refl _)) ?_;assumption))));(try simp only[pS]))|(with_reducible refine aG ?_)
       go_wp2
       go_ret3
       exact fF.of (by rw[Hc.out,Hr.out,if_pos Hq.out]) hEw
     ·obtain rfl:k=t.streets.length:=by omega
      have Hr:=Lib.hid (Town.streetsErr_none (fun j hj=>Hm.out j hj hj))
      go_wp2
      go_ret3
      exact fF.of (by rw[Hc.out,Hr.out];rfl) hEq
   ·have b0:=hBr.cell 0;have b1:=hBr.cell 1;have b2:=hBr.cell 2;simp at b0 b1 b2;obtain rfl|rfl|rfl:k=0∨k=1∨k=2:=by omega
    ·
     cases hq:decide ((aP t.places).2=0) with
     |true=>
      have hq0:(aP t.places).2=0:=of_decide_eq_true hq;clear hq;go_wp2_with (go_at_call 54;refine(iE _ t.places _ (hTP.ext (hE.trans hEr)) w0).mono ?_;rintro e Wn ⟨rfl,hEn⟩;rw[hq0];replace hEr:=hEr.trans hEn)
      go_roundw
      case rel=>exact⟨hEr,0+1,by omega,by go_num,eZ (p:=fun j=>(aP (t.lists j)).2=0) Hn.out hq0⟩
      case measure=>simp[intOf]
     |false=>
      have hq0:¬(aP t.places).2=0:=of_decide_eq_false hq;have Hr:=Lib.hid (Town.check_n hsm (k:=0) (by omega) (i:=(aP t.places).1) (e:=(aP t.places).2) rfl hq0 Hn.out)
      have q0:((aP t.places).2 !=0)=true:=by simp[hq0]
      clear hq hq0;go_wp2_with (go_at_call 54;refine(iE _ t.places _ (hTP.ext (hE.trans hEr)) w0).mono ?_;rintro e Wn ⟨rfl,hEn⟩;replace hEr:=hEr.trans hEn)
      go_ret3
      exact fF.of Hr.out (hE.trans hEr)
    ·
     cases hq:decide ((aP t.shows).2=0) with
     |true=>
      have hq0:(aP t.shows).2=0:=of_decide_eq_true hq;clear hq;go_wp2_with (go_at_call 54;refine(iE _ t.shows _ (hTS.ext (hE.trans hEr)) w1).mono ?_;rintro e Wn ⟨rfl,hEn⟩;rw[hq0];replace hEr:=hEr.trans hEn)
      go_roundw
      case rel=>exact⟨hEr,1+1,by omega,by go_num,eZ (p:=fun j=>(aP (t.lists j)).2=0) Hn.out hq0⟩
      case measure=>simp[intOf]
     |false=>
      have hq0:¬(aP t.shows).2=0:=of_decide_eq_false hq;have Hr:=Lib.hid (Town.check_n hsm (k:=1) (by omega) (i:=(aP t.shows).1) (e:=(aP t.shows).2) rfl hq0 Hn.out)
      have q0:((aP t.shows).2 !=0)=true:=by simp[hq0]
      clear hq hq0;go_wp2_with (go_at_call 54;refine(iE _ t.shows _ (hTS.ext (hE.trans hEr)) w1).mono ?_;rintro e Wn ⟨rfl,hEn⟩;replace hEr:=hEr.trans hEn)
      go_ret3
      exact fF.of Hr.out (hE.trans hEr)
    ·
     cases hq:decide ((aP t.times).2=0) with
     |true=>
      have hq0:(aP t.times).2=0:=of_decide_eq_true hq;clear hq;go_wp2_with (go_at_call 54;refine(iE _ t.times _ (hTT.ext (hE.trans hEr)) w2).mono ?_;rintro e Wn ⟨rfl,hEn⟩;rw[hq0];replace hEr:=hEr.trans hEn)
      go_roundw
      case rel=>exact⟨hEr,2+1,by omega,by go_num,eZ (p:=fun j=>(aP (t.lists j)).2=0) Hn.out hq0⟩
      case measure=>simp[intOf]
     |false=>
      have hq0:¬(aP t.times).2=0:=of_decide_eq_false hq;have Hr:=Lib.hid (Town.check_n hsm (k:=2) (by omega) (i:=(aP t.times).1) (e:=(aP t.times).2) rfl hq0 Hn.out)
      have q0:((aP t.times).2 !=0)=true:=by simp[hq0]
      clear hq hq0;go_wp2_with (go_at_call 54;refine(iE _ t.times _ (hTT.ext (hE.trans hEr)) w2).mono ?_;rintro e Wn ⟨rfl,hEn⟩;replace hEr:=hEr.trans hEn)
      go_ret3
      exact fF.of Hr.out (hE.trans hEr)
 ·have hbad:inB t.places.length 1 16=false∨6<t.shows.length∨inB t.times.length 1 4=false∨40<t.streets.length:=Classical.byContradiction fun h=>hsm (Town.small_of h)
  have Hr:=Lib.hid (Town.check_1 hbad);clear hsm hwf h4 hT hTP hTS hTT hTX
  cases c1:inB (t.places.length:Int) 1 16 with
  |false=>
   go_enter Tryz.func18,Tryz.ntmps18
   go_wp2_with (first|((go_at_call 53;refine(cN _ _ _ _).mono ?_;rintro e w' ⟨rfl,rfl⟩))|((with_reducible refine aF (d:=some 1) ?_);intro W1 g1 hE1 hB1 hg1;simp[Act.eval,Act.put,Value.cells] at hB1;(try replace hE:=hE.trans hE1);have hb1_0:=hB1.cell 0;have hb1_1:=hB1.cell 1;have hb1_2:=hB1.cell 2;have hb1_3:=hB1.cell 3;simp at hb1_0 hb1_1 hb1_2 hb1_3;clear hE1))
   go_ret3
   exact fF.of Hr.out hE
  |true=>
   by_cases c2:6<(t.shows.length:Int)
   ·go_enter Tryz.func18,Tryz.ntmps18
    go_wp2_with (first|((go_at_call 53;refine(cN _ _ _ _).mono ?_;rintro e w' ⟨rfl,rfl⟩))|((with_reducible refine aF (d:=some 1) ?_);intro W1 g1 hE1 hB1 hg1;simp[Act.eval,Act.put,Value.cells] at hB1;(try replace hE:=hE.trans hE1);have hb1_0:=hB1.cell 0;have hb1_1:=hB1.cell 1;have hb1_2:=hB1.cell 2;have hb1_3:=hB1.cell 3;simp at hb1_0 hb1_1 hb1_2 hb1_3;clear hE1))
    go_ret3
    exact fF.of Hr.out hE
   ·cases c3:inB (t.times.length:Int) 1 4 with
    |false=>
     go_enter Tryz.func18,Tryz.ntmps18
     go_wp2_with (first|((go_at_call 53;refine(cN _ _ _ _).mono ?_;rintro e w' ⟨rfl,rfl⟩))|((with_reducible refine aF (d:=some 1) ?_);intro W1 g1 hE1 hB1 hg1;simp[Act.eval,Act.put,Value.cells] at hB1;(try replace hE:=hE.trans hE1);have hb1_0:=hB1.cell 0;have hb1_1:=hB1.cell 1;have hb1_2:=hB1.cell 2;have hb1_3:=hB1.cell 3;simp at hb1_0 hb1_1 hb1_2 hb1_3;clear hE1))
     go_ret3
     exact fF.of Hr.out hE
    |true=>
     have c4:40<(t.streets.length:Int):=by simp[c1,c3] at hbad;omega
     clear hbad;go_enter Tryz.func18,Tryz.ntmps18
     go_wp2_with (first|((go_at_call 53;refine(cN _ _ _ _).mono ?_;rintro e w' ⟨rfl,rfl⟩))|((with_reducible refine aF (d:=some 1) ?_);intro W1 g1 hE1 hB1 hg1;simp[Act.eval,Act.put,Value.cells] at hB1;(try replace hE:=hE.trans hE1);have hb1_0:=hB1.cell 0;have hb1_1:=hB1.cell 1;have hb1_2:=hB1.cell 2;have hb1_3:=hB1.cell 3;simp at hb1_0 hb1_1 hb1_2 hb1_3;clear hE1))
     go_ret3
     exact fF.of Hr.out hE
end Go.St
end
section
namespace Go.St
open Go Go.Bp Go.RowKit Go.Proofs
set_option maxHeartbeats 4000000 in
theorem Oi(tv:Value)(t:Town)(w:World)(h:aM w tv t)(hv:Env w):Calls Tryz.prog 3 #[tv] w (dB w true):=by
 have hT0:=h;obtain⟨pv,sv,tmv,xv,rfl,hT⟩:=h;obtain⟨A1,cp1,rfl,_,_,_,_⟩:=hT.places;obtain⟨A2,cp2,rfl,_,_,_,_⟩:=hT.shows;obtain⟨A3,cp3,rfl,_,_,_,_⟩:=hT.times;obtain⟨A4,cp4,rfl,_,_,_⟩:=hT.streets;clear hT;have hE:=Ext.refl w;have HP:=Lib.hid (fun W v(h:aM W v t)=>mM v t W h)
 have HR:=Lib.hid (fun W v(h:aM W v t)=>dH v t W h)
 obtain⟨c1,hc1⟩:∃x,t.check.1=x:=⟨_,rfl⟩;obtain⟨c2,hc2⟩:∃x,t.check.2.1=x:=⟨_,rfl⟩;obtain⟨c3,hc3⟩:∃x,t.check.2.2=x:=⟨_,rfl⟩;rw[hc1,hc2,hc3] at HP HR;clear hc1 hc2 hc3;go_enter Tryz.func3,Tryz.ntmps3
 go_wp2_with (first|(((with_reducible refine aC (d:=some 10) (hl:=aL hB1) ?_ ?_);rfl))|(((with_reducible refine aC (d:=some 16) (hl:=aL hB1) ?_ ?_);rfl))|(go_at_call 17;((with_reducible refine(HP.out _ _ (by exact hT0)).mono ?_);rintro e WcP ⟨rfl,hEcP⟩;(try replace hE:=hE.trans hEcP);(try replace hT0:=hT0.ext hEcP);(try replace hB1:=hB1.ext hEcP)))|(go_at_call 18;((with_reducible refine(HR.out _ _ (by exact hT0)).mono ?_);rintro e WcR ⟨rfl,hEcR⟩;(try replace hE:=hE.trans hEcR)))|(go_at_call 19;((with_reducible refine(dS _ (by exact hv.ext hE)).mono ?_);rintro e WcK ⟨rfl,hEcK⟩;(try replace hE:=hE.trans hEcK)))|((with_reducible refine aF (d:=some 1) ?_);intro W1 g1 hE1 hB1 hg1;simp[Act.eval,Act.put,Value.cells] at hB1;(try replace hE:=hE.trans hE1);(try replace hT0:=hT0.ext hE1);clear hE1))
 go_ret
 exact⟨rfl,hE⟩
end Go.St
end
section
namespace Go.Proofs.YtfjnacajjpaeiaaGreatDoor
open Go Go.Bp Go.St Go.RowKit Go.Proofs Go.ChangeShapes Go.WideShapes Go.ChangeAt
theorem ip3:(Rows.streetChecksRow.inPlace==Tryz.pinned.checked.prog.inPlace 3)=true:=by kernel_rfl
theorem uf3:(Rows.streetChecksRow.unfollowed==Tryz.pinned.checked.prog.unfollowed 3)=true:=by kernel_rfl
theorem rc3:(Rows.streetChecksRow.recurses==Tryz.pinned.checked.prog.recurses 3)=true:=by kernel_rfl
theorem nm3:(Rows.streetChecksRow.named==Tryz.pinned.checked.prog.varsNamed 3)=true:=by kernel_rfl
theorem Nv:joinedFacts Tryz.pinned.checked.prog 3 Tryz.f3 Rows.streetChecksSpec Rows.streetChecksRow=true:=by
 unfold joinedFacts;rw[ip3,uf3,rc3,nm3];kernel_rfl
end Go.Proofs.YtfjnacajjpaeiaaGreatDoor
end
