/- Chapter 03: contracts of functions of the program and of the reference, and plain laws (out of KClosed StY3 StZ NSL4). No condition of its own. -/
import Derived.Test.YtfjnacajjpaeiaaGreatDoorQH01
import Derived.Test.YtfjnacajjpaeiaaGreatDoorQZ01
set_option maxRecDepth 100000
set_option linter.all false
section
namespace Go.Proofs.YtfjnacajjpaeiaaGreatDoor
open Go Go.Bp Go.St Go.RowKit Go.Proofs Go.ChangeShapes Go.WideShapes Go.ChangeAt
theorem Yf:(Rows.streetClosedRow.inPlace==Tryz.pinned.checked.prog.inPlace 12)=true:=by kernel_rfl
theorem Xz:(Rows.streetClosedRow.unfollowed==Tryz.pinned.checked.prog.unfollowed 12)=true:=by kernel_rfl
theorem Yb:(Rows.streetClosedRow.recurses==Tryz.pinned.checked.prog.recurses 12)=true:=by kernel_rfl
theorem Yd:(Rows.streetClosedRow.named==Tryz.pinned.checked.prog.varsNamed 12)=true:=by kernel_rfl
theorem Xu:joinedFacts Tryz.pinned.checked.prog 12 Tryz.f12 Rows.streetClosedSpec Rows.streetClosedRow=true:=by
 unfold joinedFacts;rw[Yf,Xz,Yb,Yd];kernel_rfl
end Go.Proofs.YtfjnacajjpaeiaaGreatDoor
end
section
namespace Go.St
open Go.Bp
namespace Town
variable{t:Town}{k:Task}
def wideTo(s y:Int):Nat→Int
 |0=>s
 |i+1=>if(!(cZ (wideTo s y i) i)&&decide ((y/2^i)%2=1))=true then wideTo s y i+2^i else wideTo s y i
theorem Wj:((List.range 64).all fun s=>(List.range 6).all fun i=>s.testBit i||((List.range 6).all fun j=>(s+2^i).testBit j==(s.testBit j||decide (j=i)))&&decide (s+2^i<64))=true:=by decide +kernel
theorem Xx{s i:Nat}(hs:s<64)(hi:i<6)(hb:s.testBit i=false):s+2^i<64∧∀j,s.testBit j=true→(s+2^i).testBit j=true:=by
 have h1:=List.all_eq_true.1 (List.all_eq_true.1 Wj s (List.mem_range.2 hs)) i (List.mem_range.2 hi);rw[hb] at h1;simp only[Bool.false_or,Bool.and_eq_true,decide_eq_true_eq] at h1;refine⟨h1.2,fun j hj=> ?_⟩
 by_cases hj6:j<6
 ·have:=List.all_eq_true.1 h1.1 j (List.mem_range.2 hj6);rw[beq_iff_eq] at this;rw[this,hj];rfl
 ·exfalso;have:s.testBit j=false:=Nat.testBit_lt_two_pow (Nat.lt_of_lt_of_le hs (by have:=Nat.pow_le_pow_right (show 0<2 by omega) (show 6≤j by omega);simpa using this))
  rw[this] at hj;cases hj
theorem Xd{n:Nat}(hn:n≤6){s y:Int}(h0:0≤s)(h:s<2^n):∀i,i≤n→0≤wideTo s y i∧wideTo s y i<2^n∧∀j,s.toNat.testBit j=true→(wideTo s y i).toNat.testBit j=true
 |0,_=>⟨h0,h,fun _ h=>h⟩
 |i+1,hi=>by
  obtain⟨h1,h2,h3⟩:=Xd (y:=y) hn h0 h i (by omega)
  unfold wideTo;split
  ·rename_i hc;simp only[Bool.and_eq_true,Bool.not_eq_true',decide_eq_true_eq] at hc;obtain⟨m,hm⟩:∃m:Nat,wideTo s y i=m:=⟨(wideTo s y i).toNat,by omega⟩
   rw[hm] at h1 h2 h3 hc⊢;rw[mE] at hc;have hm2:m<2^n:=by exact_mod_cast h2
   have h64:2^n≤64:=by have:=Nat.pow_le_pow_right (show 0<2 by omega) hn;simpa using this
   obtain⟨a1,a2⟩:=Xx (s:=m) (i:=i) (by omega) (by omega) hc.1
   have hlt:m+2^i<2^n:=by
    apply Nat.lt_pow_two_of_testBit;intro j hj;have h1:=List.all_eq_true.1 (List.all_eq_true.1 Wj m (List.mem_range.2 (by omega))) i (List.mem_range.2 (by omega))
    rw[hc.1] at h1;simp only[Bool.false_or,Bool.and_eq_true,decide_eq_true_eq] at h1;by_cases hj6:j<6
    ·have:=List.all_eq_true.1 h1.1 j (List.mem_range.2 hj6);rw[beq_iff_eq] at this;rw[this,Nat.testBit_lt_two_pow (Nat.lt_of_lt_of_le hm2 (Nat.pow_le_pow_right (by omega) hj))]
     have hne:j≠i:=by omega
     simp[hne]
    ·exact Nat.testBit_lt_two_pow (Nat.lt_of_lt_of_le a1 (by have:=Nat.pow_le_pow_right (show 0<2 by omega) (show 6≤j by omega);simpa using this))
   have e:((m:Int)+2^i)=((m+2^i:Nat):Int):=by push_cast;rfl
   rw[e];refine⟨Int.natCast_nonneg _,by exact_mod_cast hlt,fun j hj=> ?_⟩
   have:=h3 j hj;simp only[Int.toNat_natCast] at this⊢;exact a2 j this
  ·exact⟨h1,h2,h3⟩
end Town
end Go.St
end
section
namespace Go.St
open Go.Bp
namespace Town
variable{t:Town}{k:Task}
theorem closed_pack(he:t.taskErr k=0){s:Int}(hs:0≤s∧s<t.streets.length)(hl:k.closed.length+1≤40){X Y:Tour}{e f:Int}(hX:t.findAns k=(X,e))(hY:t.findAns ⟨k.a,k.b,k.show_,k.time,k.closed++ [s]⟩=(Y,f)):
 ((f=0∧e=0∧X.metres≤Y.metres)∨f=9)∧((X.steps.any fun x=>decide (x.st=s))=false→X=Y∧e=f):=by
 obtain⟨_,h2,h3,h4⟩:=Qt he (s:=s) (aV.2 (by omega)) hl
 rw[hX,show t.findAns (mP k s)=(Y,f) from hY] at h3 h4
 rw[show t.findAns (mP k s)=(Y,f) from hY] at h2
 simp only at h2 h3 h4;refine⟨?_,fun hu=> ?_⟩
 ·rcases h2 with h2|h2
  ·exact .inl ⟨h2,(h3 h2).1,(h3 h2).2⟩
  ·exact .inr h2
 ·have:=h4 (fun x hx=>by
   have:=List.any_eq_false.1 hu x hx;simpa using this)
  injection this with e1 e2
  exact⟨e1.symm,e2.symm⟩
theorem wide_pack(he:t.taskErr k=0)(y:Int){Z:Tour}{z e:Int}{X:Tour}(hX:t.findAns k=(X,e))(hZ:t.findAns ⟨k.a,k.b,wideTo k.show_ y t.shows.length,k.time,k.closed⟩=(Z,z)):
 z=9∨(z=0∧e=0∧X.metres≤Z.metres):=by
 have h:=taskOk_of he;have hsh:=aV.1 h.sh;have hn:=h.ok.sh;have hsets:t.sets=2^t.shows.length:=rfl;obtain⟨w1,w2,w3⟩:=Xd (n:=t.shows.length) (y:=y) (by omega) hsh.1 (by omega) t.shows.length (Nat.le_refl _)
 obtain⟨_,h2,h3⟩:=Qv he (s:=wideTo k.show_ y t.shows.length) (aV.2 (by omega)) w3
 rw[hX,show t.findAns (Cp k _)=(Z,z) from hZ] at h3
 rw[show t.findAns (Cp k _)=(Z,z) from hZ] at h2
 simp only at h2 h3;rcases h2 with h2|h2
 ·exact .inr ⟨h2,(h3 h2).1,(h3 h2).2⟩
 ·exact .inl h2
theorem wide_bd(he:t.taskErr k=0)(y:Int){i:Nat}(hi:i≤t.shows.length):0≤wideTo k.show_ y i∧wideTo k.show_ y i<64∧i≤6:=by
 have h:=taskOk_of he;have hsh:=aV.1 h.sh;have hn:=h.ok.sh;have hsets:t.sets=2^t.shows.length:=rfl;have hb:=sets_bd hn;obtain⟨w1,w2,_⟩:=Xd (n:=t.shows.length) (y:=y) (by omega) hsh.1 (by omega) i hi
 omega
end Town
end Go.St
end
section
namespace Go.Walk
open Go Go.Bp Go.St Go.RowKit Go.Proofs
set_option synthInstance.maxSize 2000
set_option synthInstance.maxHeartbeats 400000
set_option maxHeartbeats 8000000
theorem LClosed(tv kv:Value)(t:Town)(k:Task)(x0 x1:Int)(w:World)(h:aM w tv t)(hk:bA w kv k)(hv:Env w)(h0:0≤x0∧x0≤255)(h1:0≤x1∧x1≤255):
 Calls Tryz.prog 12 #[tv,kv,.agg #[.int .u8 x0,.int .u8 x1]] w (dB w true):=by
 obtain⟨pv,sv,tmv,xv,rfl,hT⟩:=id h;obtain⟨A1,cp1,rfl,_,hc1,_,_⟩:=hT.places;obtain⟨A2,cp2,rfl,_,hc2,_,_⟩:=hT.shows;obtain⟨A3,cp3,rfl,_,_,_,_⟩:=hT.times;obtain⟨A4,cp4,rfl,_,hc4,_⟩:=id hT.streets;obtain⟨ka,kb,ks,km,kl⟩:=k;obtain⟨cv,rfl,hC⟩:=hk;obtain⟨A5,cp5,rfl,_⟩:=id hC;have i1:=TownB.mk h;have i2:=IntsB.mk hC;have hST:=hT.streets;clear hT;have i3:=EnvB.mk hv;obtain⟨⟨X,e⟩,hX⟩:∃r,t.findAns ⟨ka,kb,ks,km,kl⟩=r:=⟨_,rfl⟩;have f1:=FindE.mk hX;by_cases he:t.taskErr ⟨ka,kb,ks,km,kl⟩=0
 ·have f4:=TaskE.mk he;have hok:=Town.taskOk_of he;have hcl:kl.length≤40:=hok.cl;by_cases hst:t.streets.length=0
  ·have q0:((t.streets.length:Int)==0)=true:=by simpa using hst
   clear hX he hst hok;go_enter Tryz.func12,Tryz.ntmps12
   go_wp2_with (first|go_skip|(with_reducible refine pZ ?_)|(with_reducible refine pY ?_)|(with_reducible refine qA ?_;first|rintro _ W ⟨rfl,_⟩|rintro _ W ⟨_,_,rfl,_,_⟩)|(with_reducible refine oQ ?_;intro W g _ _ _)|(with_reducible refine pX ?_;intro W _ _)|(with_reducible refine Tq ?_;intro W g _ _ _)|(with_reducible refine oR ?_;intro W g _ _ _)|(with_reducible refine oS ?_;intro _ _ W hR _))
   go_ret
   exact⟨rfl,ExtC.h⟩
  ·have q0:((t.streets.length:Int)==0)=false:=by simpa using hst
   have q1:¬((t.streets.length:Int)=0):=by omega
   obtain⟨s,hs⟩:∃s,x0%(t.streets.length:Int)=s:=⟨_,rfl⟩;have hs2:0≤s∧s<t.streets.length:=by rw[←hs];exact⟨Int.emod_nonneg _ q1,Int.emod_lt_of_pos _ (by omega)⟩
   obtain⟨⟨Z,z⟩,hZ⟩:∃r,t.findAns ⟨ka,kb,Town.wideTo ks x1 t.shows.length,km,kl⟩=r:=⟨_,rfl⟩;have f3:=FindE.mk hZ;have Hz:=Lib.hid (Town.wide_pack he x1 hX hZ);have Hwb:=Lib.hid (fun i(hi:i≤t.shows.length)=>Town.wide_bd he x1 hi)
   by_cases hc40:kl.length+1≤40
   ·obtain⟨⟨Y,f⟩,hY⟩:∃r,t.findAns ⟨ka,kb,ks,km,kl++ [s]⟩=r:=⟨_,rfl⟩;have f2:=FindE.mk hY;obtain⟨p1,p2⟩:=Town.closed_pack he hs2 hc40 hX hY;have P1:=Lib.hid p1;have P2:=Lib.hid p2;have hm:True:=trivial;have z40:((kl.length:Int)+1≤40):=by omega
    clear hX he hst hok hZ hY p1 p2;go_enter Tryz.func12,Tryz.ntmps12
    go_wp2_with (first|(go_at_call 23;clear hm;with_reducible refine qA ?_;rintro _ V ⟨AX,cX9,rfl,hSX,_⟩)|(with_reducible refine Wi ?_;intro V g _ hR44)|(with_reducible refine Wv (d:=some 47) ?_;intro A47 c47 V hR47 _;simp only[Nat.zero_add,List.nil_append] at hR47)|(with_reducible refine oS (d:=some 50) ?_;intro A50 c50 V hR50 _;rw[Xc] at hR50)|(first|go_skip|(with_reducible refine pZ ?_)|(with_reducible refine pY ?_)|(with_reducible refine qA ?_;first|rintro _ V ⟨rfl,_⟩|rintro _ V ⟨_,_,rfl,_,_⟩)|(with_reducible refine oQ ?_;intro V g _ _ _)|(with_reducible refine pX ?_;intro V _ _)|(with_reducible refine Tq ?_;intro V g _ _ _)|(with_reducible refine oR ?_;intro V g _ _ _)|(with_reducible refine oS ?_;intro _ _ V hR _)))
    go_loopw [13,14] (fun uv iv wr=>StepC V wr∧∃i:Nat,i≤X.steps.length∧iv=.int .i64 i∧uv=.bool ((X.steps.take i).any fun x=>x.st==s)) (fun _ iv _=>X.steps.length-(intOf iv).toNat)
    case atStart=>exact⟨⟨Ext.refl _⟩,0,by omega,rfl,rfl⟩
    case round=>
     obtain⟨_,i,hi,rfl,rfl⟩:=hrel;by_cases hlt:i<X.steps.length
     ·have z1:(i:Int)<(X.steps.length:Int):=by omega
      obtain⟨AX',cX9',eX9,hX1,hX2,_,hcX⟩:=hSX.h;unfold maxLen at hX2;injection eX9 with eX9 _ eX29
      subst eX9 eX29;obtain⟨ad,rfl,hc⟩:=hcX (by omega)
      have i8:=CellsB.mk (oU hc hlt);obtain⟨b1,hb1⟩:∃b,((X.steps.take i).any fun x=>x.st==s)=b:=⟨_,rfl⟩
      obtain⟨b2,hb2⟩:∃b,(X.steps[i].st==s)=b:=⟨_,rfl⟩;have Hn:=Lib.hid (show((X.steps.take (i+1)).any fun x=>x.st==s)=(b1||b2) by rw[List.take_succ_eq_append_getElem hlt,List.any_append,hb1];simp[hb2])
      rw[hb1];clear hb1 hc hcX
      cases b1<;>cases b2
      all_goals
       go_wp2_with (first|go_skip|(with_reducible refine pZ ?_)|(with_reducible refine pY ?_)|(with_reducible refine qA ?_;first|rintro _ V ⟨rfl,_⟩|rintro _ V ⟨_,_,rfl,_,_⟩)|(with_reducible refine oQ ?_;intro V g _ _ _)|(with_reducible refine pX ?_;intro V _ _)|(with_reducible refine Tq ?_;intro V g _ _ _)|(with_reducible refine oR ?_;intro V g _ _ _)|(with_reducible refine oS ?_;intro _ _ V hR _))
       go_roundw
       case rel=>exact⟨⟨ExtC.h⟩,i+1,by omega,by go_num,by rw[Hn.out];rfl⟩
       case measure=>simp[intOf];omega
     ·obtain rfl:i=X.steps.length:=by omega
      have z1:¬((X.steps.length:Int)<(X.steps.length:Int)):=by omega
      rw[List.take_length];obtain⟨u,hu⟩:∃b,(X.steps.any fun x=>x.st==s)=b:=⟨_,rfl⟩
      rw[hu];have P3:=Lib.hid (show u=false→X=Y∧e=f from fun h=>P2.out (by rw[←h,←hu];rfl))
      clear hu;have tb:=fun Y:Tour=>yV Y
      have P4:=Lib.hid (show(u=false∧X=Y∧e=f∧f=0∧¬(Y.metres<X.metres))∨(u=false∧X=Y∧e=f∧f=9)∨(u=true∧f=0∧e=0∧¬(Y.metres<X.metres))∨(u=true∧f=9) by
       cases u<;>rcases P1.out with ⟨d1,d2,d3⟩|d1
       ·exact .inl ⟨rfl,(P3.out rfl).1,(P3.out rfl).2,d1,by omega⟩
       ·exact .inr (.inl ⟨rfl,(P3.out rfl).1,(P3.out rfl).2,d1⟩)
       ·exact .inr (.inr (.inl ⟨rfl,d1,d2,by omega⟩))
       ·exact .inr (.inr (.inr ⟨rfl,d1⟩)))
      rcases P4.out with ⟨rfl,rfl,rfl,rfl,tl⟩|⟨rfl,rfl,rfl,rfl⟩|⟨rfl,rfl,rfl,tl⟩|⟨rfl,rfl⟩
      all_goals
       go_wp2_with (first|(with_reducible refine Wh (uu:=15) ?_;rintro W0 rfl W5 g15 _ hB15 hA15)|(first|go_skip|(with_reducible refine pZ ?_)|(with_reducible refine pY ?_)|(with_reducible refine qA ?_;first|rintro _ V ⟨rfl,_⟩|rintro _ V ⟨_,_,rfl,_,_⟩)|(with_reducible refine oQ ?_;intro V g _ _ _)|(with_reducible refine pX ?_;intro V _ _)|(with_reducible refine Tq ?_;intro V g _ _ _)|(with_reducible refine oR ?_;intro V g _ _ _)|(with_reducible refine oS ?_;intro _ _ V hR _)))
       go_loopw [16] (fun iv wr=>StepC W0 wr∧∃i:Nat,i≤t.shows.length∧iv=.int .i64 i∧BlkC wr g15 43 [.int .i64 ka,.int .i64 kb,.int .i64 (Town.wideTo ks x1 i),.int .i64 km,.slice A5 kl.length cp5]) (fun iv _=>t.shows.length-(intOf iv).toNat)
       case atStart=>exact⟨⟨ExtC.h⟩,0,by omega,rfl,hB15⟩
       case round=>
        obtain⟨_,i,hi,rfl,hB⟩:=hrel;by_cases hlt:i<t.shows.length
        ·have z1:(i:Int)<(t.shows.length:Int):=by omega
         obtain⟨b0,b1,b2⟩:=Hwb.out i hi;obtain⟨c0,c1,c2⟩:=Hwb.out (i+1) hlt;have hp:=iC (n:=i) (m:=6) b2 (by omega)
         obtain⟨u,hu⟩:∃u,Town.wideTo ks x1 i=u:=⟨_,rfl⟩;obtain⟨u2,hu2⟩:∃u,Town.wideTo ks x1 (i+1)=u:=⟨_,rfl⟩;obtain⟨bh,hbh⟩:∃b,cZ u i=b:=⟨_,rfl⟩;obtain⟨bb,hbb⟩:∃b,((x1/2^i).tmod 2==1)=b:=⟨_,rfl⟩;have hb2:decide ((x1/2^i)%2=1)=bb:=by rw[←hbb,Int.tmod_eq_emod_of_nonneg (Int.ediv_nonneg h1.1 (by omega))];rfl
         have HwQ:=Lib.hid (show u2=if(!bh&&bb)=true then u+2^i else u by rw[←hu2,←hbh,←hb2,←hu];rfl)
         have HuQ:=Lib.hid hu2;rw[hu] at hB b0 b1;have f20:HasE u i bh:=⟨i,rfl,by omega,by omega,hbh⟩
         have f21:SetsE i (2^i):=⟨i,rfl,by omega,rfl⟩
         have w5:IntKind.i64.wrap (u+2^i)=u+2^i:=Dy (by omega) (by omega)
         clear hu hu2 hbh hb2 c0 c1 c2
         cases bh with
         |true=>
          go_wp2_with (first|go_skip|(with_reducible refine pZ ?_)|(with_reducible refine pY ?_)|(with_reducible refine qA ?_;first|rintro _ V ⟨rfl,_⟩|rintro _ V ⟨_,_,rfl,_,_⟩)|(with_reducible refine oQ ?_;intro V g _ _ _)|(with_reducible refine pX ?_;intro V _ _)|(with_reducible refine Tq ?_;intro V g _ _ _)|(with_reducible refine oR ?_;intro V g _ _ _)|(with_reducible refine oS ?_;intro _ _ V hR _))
          go_roundw
          case rel=>exact⟨⟨ExtC.h⟩,i+1,hlt,by go_num,by rw[HuQ.out,HwQ.out];exact(inferInstance:BlkC V g15 43 [.int .i64 ka,.int .i64 kb,.int .i64 u,.int .i64 km,.slice A5 kl.length cp5])⟩
          case measure=>simp[intOf];omega
         |false=>
          cases bb with
          |false=>
           go_wp2_with (first|go_skip|(with_reducible refine pZ ?_)|(with_reducible refine pY ?_)|(with_reducible refine qA ?_;first|rintro _ V ⟨rfl,_⟩|rintro _ V ⟨_,_,rfl,_,_⟩)|(with_reducible refine oQ ?_;intro V g _ _ _)|(with_reducible refine pX ?_;intro V _ _)|(with_reducible refine Tq ?_;intro V g _ _ _)|(with_reducible refine oR ?_;intro V g _ _ _)|(with_reducible refine oS ?_;intro _ _ V hR _))
           go_roundw
           case rel=>exact⟨⟨ExtC.h⟩,i+1,hlt,by go_num,by rw[HuQ.out,HwQ.out];exact(inferInstance:BlkC V g15 43 [.int .i64 ka,.int .i64 kb,.int .i64 u,.int .i64 km,.slice A5 kl.length cp5])⟩
           case measure=>simp[intOf];omega
          |true=>
           go_wp2_with (first|go_skip|(with_reducible refine pZ ?_)|(with_reducible refine pY ?_)|(with_reducible refine qA ?_;first|rintro _ V ⟨rfl,_⟩|rintro _ V ⟨_,_,rfl,_,_⟩)|(with_reducible refine oQ ?_;intro V g _ _ _)|(with_reducible refine pX ?_;intro V _ _)|(with_reducible refine Tq ?_;intro V g _ _ _)|(with_reducible refine oR ?_;intro V g _ _ _)|(with_reducible refine oS ?_;intro _ _ V hR _))
           refine aR (.take 0 (.take 2 (.two 1 (.one 3 (.take 4 (.take 5 (.one 6 .nil)))) 3 (.one 1 (.take 4 (.take 5 (.one 6 .nil))))))) (fun w'=>Ext W0 w') ?_ (fun hHd=> ?_) (hQ:=by intro _ _ _ _ _ h;exact h)
           ·exact ExtC.h
           repeat' first|((with_reducible refine aB ?_);(first|(refine tk (v:= ?_) ?_ hHd ?_;rotate_left;(·(intro W' h;have:=StepC.mk h;with_reducible exact Ue)))|(refine tk (v:= ?_) ?_ hHd ?_;rotate_left;(·(intro wq hSw;go_simp;(try with_reducible rfl)))));(try simp only[pS]))|((with_reducible refine bC ?_);refine aQ (by simp only[gS];rfl) ?_)|((with_reducible refine fQ ?_);refine dI (by simp only[gS];rfl) (by simp only[gS];rfl) ?_ ?_)|(with_reducible refine pZ ?_)|(with_reducible refine pX ?_;intro V _ _)|((with_reducible refine Tx ?_);first|(rintro _ V ⟨rfl,_⟩;refine⟨_,rfl,?_⟩)|(rintro _ V ⟨_,_,rfl,_,_⟩;refine⟨_,rfl,?_⟩))|((with_reducible refine bB ?_);clear hHd;refine aJ ExtC.h (fun hHd=> ?_);(try simp only[pS]))|(with_reducible refine aG ?_)
           all_goals
            go_wp2_with (first|go_skip|(with_reducible refine pZ ?_)|(with_reducible refine pY ?_)|(with_reducible refine qA ?_;first|rintro _ V ⟨rfl,_⟩|rintro _ V ⟨_,_,rfl,_,_⟩)|(with_reducible refine oQ ?_;intro V g _ _ _)|(with_reducible refine pX ?_;intro V _ _)|(with_reducible refine Tq ?_;intro V g _ _ _)|(with_reducible refine oR ?_;intro V g _ _ _)|(with_reducible refine oS ?_;intro _ _ V hR _))
            go_roundw
            case rel=>exact⟨⟨ExtC.h⟩,i+1,hlt,by go_num,by rw[HuQ.out,HwQ.out];exact(inferInstance:BlkC V g15 43 [.int .i64 ka,.int .i64 kb,.int .i64 (u+2^i),.int .i64 km,.slice A5 kl.length cp5])⟩
            case measure=>simp[intOf];omega
        ·obtain rfl:i=t.shows.length:=by omega
         have z1:¬((t.shows.length:Int)<(t.shows.length:Int)):=by omega
         rcases Hz.out with ez|⟨ez,ee,em⟩
         ·subst ez;go_wp2_with (first|go_skip|(with_reducible refine pZ ?_)|(with_reducible refine pY ?_)|(with_reducible refine qA ?_;first|rintro _ V ⟨rfl,_⟩|rintro _ V ⟨_,_,rfl,_,_⟩)|(with_reducible refine oQ ?_;intro V g _ _ _)|(with_reducible refine pX ?_;intro V _ _)|(with_reducible refine Tq ?_;intro V g _ _ _)|(with_reducible refine oR ?_;intro V g _ _ _)|(with_reducible refine oS ?_;intro _ _ V hR _))
          go_ret
          exact⟨rfl,ExtC.h⟩
         ·subst ez;first
          |exact absurd ee (by decide)
          |(try subst ee)
           go_wp2_with (first|go_skip|(with_reducible refine pZ ?_)|(with_reducible refine pY ?_)|(with_reducible refine qA ?_;first|rintro _ V ⟨rfl,_⟩|rintro _ V ⟨_,_,rfl,_,_⟩)|(with_reducible refine oQ ?_;intro V g _ _ _)|(with_reducible refine pX ?_;intro V _ _)|(with_reducible refine Tq ?_;intro V g _ _ _)|(with_reducible refine oR ?_;intro V g _ _ _)|(with_reducible refine oS ?_;intro _ _ V hR _))
           go_ret
           exact⟨rfl,ExtC.h⟩
   ·have hm:True:=trivial;have z40:¬((kl.length:Int)+1≤40):=by omega
    clear hX he hst hok hZ;go_enter Tryz.func12,Tryz.ntmps12
    go_wp2_with (first|(with_reducible refine Wh (uu:=15) ?_;rintro W0 rfl W5 g15 _ hB15 hA15)|(go_at_call 23;clear hm;with_reducible refine qA ?_;rintro _ V ⟨AX,cX9,rfl,hSX,_⟩)|(with_reducible refine Wi ?_;intro V g _ hR44)|(with_reducible refine Wv (d:=some 47) ?_;intro A47 c47 V hR47 _;simp only[Nat.zero_add,List.nil_append] at hR47)|(with_reducible refine oS (d:=some 50) ?_;intro A50 c50 V hR50 _;rw[Xc] at hR50)|(first|go_skip|(with_reducible refine pZ ?_)|(with_reducible refine pY ?_)|(with_reducible refine qA ?_;first|rintro _ V ⟨rfl,_⟩|rintro _ V ⟨_,_,rfl,_,_⟩)|(with_reducible refine oQ ?_;intro V g _ _ _)|(with_reducible refine pX ?_;intro V _ _)|(with_reducible refine Tq ?_;intro V g _ _ _)|(with_reducible refine oR ?_;intro V g _ _ _)|(with_reducible refine oS ?_;intro _ _ V hR _)))
    go_loopw [16] (fun iv wr=>StepC W0 wr∧∃i:Nat,i≤t.shows.length∧iv=.int .i64 i∧BlkC wr g15 43 [.int .i64 ka,.int .i64 kb,.int .i64 (Town.wideTo ks x1 i),.int .i64 km,.slice A5 kl.length cp5]) (fun iv _=>t.shows.length-(intOf iv).toNat)
    case atStart=>exact⟨⟨ExtC.h⟩,0,by omega,rfl,hB15⟩
    case round=>
     obtain⟨_,i,hi,rfl,hB⟩:=hrel;by_cases hlt:i<t.shows.length
     ·have z1:(i:Int)<(t.shows.length:Int):=by omega
      obtain⟨b0,b1,b2⟩:=Hwb.out i hi;obtain⟨c0,c1,c2⟩:=Hwb.out (i+1) hlt;have hp:=iC (n:=i) (m:=6) b2 (by omega)
      obtain⟨u,hu⟩:∃u,Town.wideTo ks x1 i=u:=⟨_,rfl⟩;obtain⟨u2,hu2⟩:∃u,Town.wideTo ks x1 (i+1)=u:=⟨_,rfl⟩;obtain⟨bh,hbh⟩:∃b,cZ u i=b:=⟨_,rfl⟩;obtain⟨bb,hbb⟩:∃b,((x1/2^i).tmod 2==1)=b:=⟨_,rfl⟩;have hb2:decide ((x1/2^i)%2=1)=bb:=by rw[←hbb,Int.tmod_eq_emod_of_nonneg (Int.ediv_nonneg h1.1 (by omega))];rfl
      have HwQ:=Lib.hid (show u2=if(!bh&&bb)=true then u+2^i else u by rw[←hu2,←hbh,←hb2,←hu];rfl)
      have HuQ:=Lib.hid hu2;rw[hu] at hB b0 b1;have f20:HasE u i bh:=⟨i,rfl,by omega,by omega,hbh⟩
      have f21:SetsE i (2^i):=⟨i,rfl,by omega,rfl⟩
      have w5:IntKind.i64.wrap (u+2^i)=u+2^i:=Dy (by omega) (by omega)
      clear hu hu2 hbh hb2 c0 c1 c2
      cases bh with
      |true=>
       go_wp2_with (first|go_skip|(with_reducible refine pZ ?_)|(with_reducible refine pY ?_)|(with_reducible refine qA ?_;first|rintro _ V ⟨rfl,_⟩|rintro _ V ⟨_,_,rfl,_,_⟩)|(with_reducible refine oQ ?_;intro V g _ _ _)|(with_reducible refine pX ?_;intro V _ _)|(with_reducible refine Tq ?_;intro V g _ _ _)|(with_reducible refine oR ?_;intro V g _ _ _)|(with_reducible refine oS ?_;intro _ _ V hR _))
       go_roundw
       case rel=>exact⟨⟨ExtC.h⟩,i+1,hlt,by go_num,by rw[HuQ.out,HwQ.out];exact(inferInstance:BlkC V g15 43 [.int .i64 ka,.int .i64 kb,.int .i64 u,.int .i64 km,.slice A5 kl.length cp5])⟩
       case measure=>simp[intOf];omega
      |false=>
       cases bb with
       |false=>
        go_wp2_with (first|go_skip|(with_reducible refine pZ ?_)|(with_reducible refine pY ?_)|(with_reducible refine qA ?_;first|rintro _ V ⟨rfl,_⟩|rintro _ V ⟨_,_,rfl,_,_⟩)|(with_reducible refine oQ ?_;intro V g _ _ _)|(with_reducible refine pX ?_;intro V _ _)|(with_reducible refine Tq ?_;intro V g _ _ _)|(with_reducible refine oR ?_;intro V g _ _ _)|(with_reducible refine oS ?_;intro _ _ V hR _))
        go_roundw
        case rel=>exact⟨⟨ExtC.h⟩,i+1,hlt,by go_num,by rw[HuQ.out,HwQ.out];exact(inferInstance:BlkC V g15 43 [.int .i64 ka,.int .i64 kb,.int .i64 u,.int .i64 km,.slice A5 kl.length cp5])⟩
        case measure=>simp[intOf];omega
       |true=>
        go_wp2_with (first|go_skip|(with_reducible refine pZ ?_)|(with_reducible refine pY ?_)|(with_reducible refine qA ?_;first|rintro _ V ⟨rfl,_⟩|rintro _ V ⟨_,_,rfl,_,_⟩)|(with_reducible refine oQ ?_;intro V g _ _ _)|(with_reducible refine pX ?_;intro V _ _)|(with_reducible refine Tq ?_;intro V g _ _ _)|(with_reducible refine oR ?_;intro V g _ _ _)|(with_reducible refine oS ?_;intro _ _ V hR _))
        refine aR (.take 0 (.take 2 (.two 1 (.one 3 (.take 4 (.take 5 (.one 6 .nil)))) 3 (.one 1 (.take 4 (.take 5 (.one 6 .nil))))))) (fun w'=>Ext W0 w') ?_ (fun hHd=> ?_) (hQ:=by intro _ _ _ _ _ h;exact h)
        ·exact ExtC.h
        repeat' first|((with_reducible refine aB ?_);(first|(refine tk (v:= ?_) ?_ hHd ?_;rotate_left;(·(intro W' h;have:=StepC.mk h;with_reducible exact Ue)))|(refine tk (v:= ?_) ?_ hHd ?_;rotate_left;(·(intro wq hSw;go_simp;(try with_reducible rfl)))));(try simp only[pS]))|((with_reducible refine bC ?_);refine aQ (by simp only[gS];rfl) ?_)|((with_reducible refine fQ ?_);refine dI (by simp only[gS];rfl) (by simp only[gS];rfl) ?_ ?_)|(with_reducible refine pZ ?_)|(with_reducible refine pX ?_;intro V _ _)|((with_reducible refine Tx ?_);first|(rintro _ V ⟨rfl,_⟩;refine⟨_,rfl,?_⟩)|(rintro _ V ⟨_,_,rfl,_,_⟩;refine⟨_,rfl,?_⟩))|((with_reducible refine bB ?_);clear hHd;refine aJ ExtC.h (fun hHd=> ?_);(try simp only[pS]))|(with_reducible refine aG ?_)
        all_goals
         go_wp2_with (first|go_skip|(with_reducible refine pZ ?_)|(with_reducible refine pY ?_)|(with_reducible refine qA ?_;first|rintro _ V ⟨rfl,_⟩|rintro _ V ⟨_,_,rfl,_,_⟩)|(with_reducible refine oQ ?_;intro V g _ _ _)|(with_reducible refine pX ?_;intro V _ _)|(with_reducible refine Tq ?_;intro V g _ _ _)|(with_reducible refine oR ?_;intro V g _ _ _)|(with_reducible refine oS ?_;intro _ _ V hR _))
         go_roundw
         case rel=>exact⟨⟨ExtC.h⟩,i+1,hlt,by go_num,by rw[HuQ.out,HwQ.out];exact(inferInstance:BlkC V g15 43 [.int .i64 ka,.int .i64 kb,.int .i64 (u+2^i),.int .i64 km,.slice A5 kl.length cp5])⟩
         case measure=>simp[intOf];omega
     ·obtain rfl:i=t.shows.length:=by omega
      have z1:¬((t.shows.length:Int)<(t.shows.length:Int)):=by omega
      rcases Hz.out with ez|⟨ez,ee,em⟩
      ·subst ez;go_wp2_with (first|go_skip|(with_reducible refine pZ ?_)|(with_reducible refine pY ?_)|(with_reducible refine qA ?_;first|rintro _ V ⟨rfl,_⟩|rintro _ V ⟨_,_,rfl,_,_⟩)|(with_reducible refine oQ ?_;intro V g _ _ _)|(with_reducible refine pX ?_;intro V _ _)|(with_reducible refine Tq ?_;intro V g _ _ _)|(with_reducible refine oR ?_;intro V g _ _ _)|(with_reducible refine oS ?_;intro _ _ V hR _))
       go_ret
       exact⟨rfl,ExtC.h⟩
      ·subst ez;first
       |exact absurd ee (by decide)
       |(try subst ee)
        go_wp2_with (first|go_skip|(with_reducible refine pZ ?_)|(with_reducible refine pY ?_)|(with_reducible refine qA ?_;first|rintro _ V ⟨rfl,_⟩|rintro _ V ⟨_,_,rfl,_,_⟩)|(with_reducible refine oQ ?_;intro V g _ _ _)|(with_reducible refine pX ?_;intro V _ _)|(with_reducible refine Tq ?_;intro V g _ _ _)|(with_reducible refine oR ?_;intro V g _ _ _)|(with_reducible refine oS ?_;intro _ _ V hR _))
        go_ret
        exact⟨rfl,ExtC.h⟩
 ·obtain⟨e,hee⟩:∃e,t.taskErr ⟨ka,kb,ks,km,kl⟩=e:=⟨_,rfl⟩;rw[hee] at he;have f4:=TaskE.mk hee;have q1:(e !=0)=true:=by simpa using he
  clear hee he hX;go_enter Tryz.func12,Tryz.ntmps12
  go_wp2_with (first|go_skip|(with_reducible refine pZ ?_)|(with_reducible refine pY ?_)|(with_reducible refine qA ?_;first|rintro _ W ⟨rfl,_⟩|rintro _ W ⟨_,_,rfl,_,_⟩)|(with_reducible refine oQ ?_;intro W g _ _ _)|(with_reducible refine pX ?_;intro W _ _)|(with_reducible refine Tq ?_;intro W g _ _ _)|(with_reducible refine oR ?_;intro W g _ _ _)|(with_reducible refine oS ?_;intro _ _ W hR _))
  go_ret
  exact⟨rfl,ExtC.h⟩
end Go.Walk
end
