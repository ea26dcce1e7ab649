import Derived.Test.YtbfbepnkofampaaGreatDoorXP18
set_option maxRecDepth 100000
set_option synthInstance.maxSize 2000
set_option synthInstance.maxHeartbeats 400000
set_option maxHeartbeats 8000000
set_option linter.all false
section
namespace Go.Rg
open Go Go.Bp Go.RowKit Go.Walk Go.Proofs
theorem BlkC.at0{W:World}{g:Nat}{t:TypeId}{a:Value}{l:List Value}[h:BlkC W g t (a::l)]:W.cell? ⟨g,0,none⟩=some a:=by have:=h.h.cell 0;simpa using this
theorem BlkC.at1{W:World}{g:Nat}{t:TypeId}{a b:Value}{l:List Value}[h:BlkC W g t (a::b::l)]:W.cell? ⟨g,1,none⟩=some b:=by have:=h.h.cell 1;simpa using this
theorem rT{lp:Bool}{i:Nat}(hi:i<12){r:Int}:monthDay ((lens lp).drop i) ((i:Int)+1) r=if r<monthLen lp ((i:Int)+1) then((i:Int)+1,r+1) else monthDay ((lens lp).drop (i+1)) ((i:Int)+1+1) (r-monthLen lp ((i:Int)+1)):=by
 have h:i=0∨i=1∨i=2∨i=3∨i=4∨i=5∨i=6∨i=7∨i=8∨i=9∨i=10∨i=11:=by omega
 rcases h with rfl|rfl|rfl|rfl|rfl|rfl|rfl|rfl|rfl|rfl|rfl|rfl<;>rfl
theorem wS{lp:Bool}{r:Int}:monthDay ((lens lp).drop 12) ((12:Nat)+1) r=(13,r+1):=rfl
def AnyV(_:Value):Prop:=True
class DateE (day:Int) (y m d r:outParam Int):Prop where h:dateAns day=(⟨y,m,d⟩,r)
abbrev RD(W:World)(y m d r:Int)(e:Ending)(W':World):Prop:=e=.returned (.tuple #[.agg #[.int .i64 y,.int .i64 m,.int .i64 d],.int .i64 r])∧StepC W W'
theorem ixs(y:Int)(i:Nat)(hi:i<12):IxC Tryz.prog 187 (lensA y) i (.int .i64 (monthLen (leap y) ((i:Int)+1))):=⟨12,3,_,Tryz.underlying187,Tryz.underlying3,rfl,by kernel_rfl,hi,by
 have:=(nK (y:=y) (m:=(i:Int)+1) (by omega)).1
 rwa [show((i:Int)+1-1).toNat=i by omega] at this⟩
theorem Ak(lp:Bool)(i:Nat)(hi:i<12):28≤monthLen lp ((i:Int)+1)∧monthLen lp ((i:Int)+1)≤31:=(bW lp (m:=(i:Int)+1) (inB_t.2 (by omega))).2
theorem Lq(day y m d r:Int)(h:dateAns day=(⟨y,m,d⟩,r))(w:World):Calls Tryz.prog 100 #[.int .i64 day] w (RD w y m d r):=by
 unfold dateAns at h;by_cases hd:inB day 0 40000=false
 ·rw[if_pos hd] at h;injection h with h1 h2
  injection h1 with h1 h3 h4
  subst h1 h2 h3 h4;have e1:outB 0 40000 [day]=true:=by rw[bL,hd];rfl
  clear hd;go_enter Tryz.func100,Tryz.ntmps100
  go_wp2_with (first|(with_reducible refine aB ?_;first|rintro _ V ⟨rfl,(_:StepC _ _)⟩)|(with_reducible refine aI ?_;intro V _ _)|(with_reducible refine aR ?_;intro V g _ _ _)|(with_reducible refine aD ?_;intro V g _ _ _))
  (try simp only[Exit.inBlock,Exit.then])
  exact bM rfl rfl (by with_unfolding_all rfl) ⟨rfl,⟨ExtC.h⟩⟩
 rw[if_neg hd] at h;injection h with h1 h2
 subst h2;have d1:=inB_t.1 (by simpa using hd:inB day 0 40000=true)
 have e1:outB 0 40000 [day]=false:=by rw[bL];simpa using hd
 obtain⟨n,hn1,hn2,hn3,hn4⟩:=oT d1.1 d1.2;have hyd:∀j:Nat,j≤200→0≤yearDays (j:Int)∧yearDays (j:Int)≤366*j:=by
  intro j hj;unfold yearDays;split
  ·omega
  ·rw[Int.tdiv_eq_ediv_of_nonneg (by omega),Int.tdiv_eq_ediv_of_nonneg (by omega)];omega
 have hj0:day/366≤n:=by
  have:=(hyd (n+1) (by omega)).2
  push_cast at this
  omega
 have Hy:=Lib.hid (show∀j:Nat,j≤n→(j<n→yearDays ((j:Int)+1)≤day)∧(j=n→¬yearDays ((j:Int)+1)≤day) from fun j hj=>⟨fun hlt=>by
  have:=fD (a:=j+1) (b:=n) (by omega) (by omega)
  push_cast at this
  omega,fun e=>by subst e;omega⟩)
 obtain⟨Y0,hY0⟩:∃Y,yearDays (n:Int)=Y:=⟨_,rfl⟩;have hY0b:=hyd n (by omega)
 rw[hY0] at hn3 hY0b;have HY0:=Lib.hid hY0;have Hd:=Lib.hid (show dateOf day=⟨2000+n,(monthDay (lens (leap (2000+n))) 1 (day-Y0)).1,(monthDay (lens (leap (2000+n))) 1 (day-Y0)).2⟩ by unfold dateOf;simp only[hn2,hY0])
 have Hh:=Lib.hid h1;have h110:yearDays ((n:Int)+1)≤366*(n+1):=by have:=(hyd (n+1) (by omega)).2;push_cast at this;exact this
 clear hd hn2 hY0 h1 hyd;have z0:day/366=(((day/366).toNat:Nat):Int):=by omega
 obtain⟨j0,hj0e⟩:∃j:Nat,(day/366).toNat=j:=⟨_,rfl⟩;rw[hj0e] at z0;have hj0n:j0≤n:=by omega
 clear hj0 hj0e;go_enter Tryz.func100,Tryz.ntmps100
 go_wp2_with (first|(with_reducible refine aR (d:=some 2) ?_;intro V1 g2 _ _ _)|(with_reducible refine aG (uu:=4) ?_;intro V g4 _ hB4 hA4)|(first|(with_reducible refine aB ?_;first|rintro _ V1 ⟨rfl,(_:StepC _ _)⟩)|(with_reducible refine aD ?_;intro V1 g _ _ _)))
 have ne:NeC g4 g2:=inferInstance;have hEw:Ext w V:=ExtC.h;have hE1:Ext w V1:=ExtC.h;have iA:AtC w g4:=⟨Nat.le_trans hE1.size hA4.h⟩;simp only[pS];clear z0;go_loopw [20] (fun bv wr=>AnyV bv∧StepC w wr∧Blk wr g2 184 #[.int .i64 0,.int .i64 0,.int .i64 0]∧∃j:Nat,j≤n∧Blk wr g4 184 #[.int .i64 (2000+j),.int .i64 1,.int .i64 0]) (fun _ wr=>n+2000-(RowKit.intOf ((wr.cell? ⟨g4,0,none⟩).getD undef)).toNat)
 case atStart=>exact⟨trivial,⟨hEw⟩,(inferInstance:BlkC V g2 184 [.int .i64 0,.int .i64 0,.int .i64 0]).h,j0,hj0n,hB4.h⟩
 case round=>
  obtain⟨-,_,hb2,j,hj,hb4⟩:=hrel;have i2:BlkC wr g2 184 [.int .i64 0,.int .i64 0,.int .i64 0]:=⟨hb2⟩;have i4:BlkC wr g4 184 [.int .i64 (2000+j),.int .i64 1,.int .i64 0]:=⟨hb4⟩;obtain⟨y1,y2⟩:=Hy.out j hj;obtain⟨Y,hY⟩:∃Y,yearDays ((j:Int)+1)=Y:=⟨_,rfl⟩;have f1:Fact' (0≤2000+(j:Int)+1∧2000+(j:Int)+1≤100000):=⟨by omega⟩
  have f2:Fact' (2000≤2000+(j:Int)+1):=⟨by omega⟩
  have hY':yearDays (2000+(j:Int)+1-2000)=Y:=by rw[←hY];congr 1;omega
  rw[hY] at y1 y2;by_cases hlt:j<n
  ·have q1:=y1 hlt;clear y1 y2 hY;go_wp2_with (first|(with_reducible refine aA ?_)|(with_reducible refine aB ?_;first|rintro _ V ⟨rfl,(_:StepC _ _)⟩)|(with_reducible refine aI ?_;intro V _ _))
   (try simp only[pS])
   go_roundw
   case rel=>exact⟨trivial,⟨ExtC.h⟩,(inferInstance:BlkC _ g2 184 [.int .i64 0,.int .i64 0,.int .i64 0]).h,j+1,hlt,by
    have:=(inferInstance:BlkC V g4 184 [.int .i64 (2000+(j:Int)+1),.int .i64 1,.int .i64 0]).h;rw[show(2000:Int)+((j+1:Nat):Int)=2000+(j:Int)+1 by omega];exact this⟩
   case measure=>
    rw[BlkC.at0 (W:=wr) (g:=g4) (h:=i4),BlkC.at0 (W:=V) (g:=g4) (h:=(inferInstance:BlkC V g4 184 [.int .i64 (2000+(j:Int)+1),.int .i64 1,.int .i64 0]))];simp[RowKit.intOf];omega
  ·obtain rfl:j=n:=by omega
   have q1:=y2 rfl;clear y1 y2 hY;have f3:Fact' (0≤2000+(j:Int)∧2000+(j:Int)≤100000):=⟨by omega⟩
   have f4:Fact' (2000≤2000+(j:Int)):=⟨by omega⟩
   have hY2:yearDays (2000+(j:Int)-2000)=Y0:=by rw[←HY0.out];congr 1;omega
   have z5:IntKind.i64.wrap (day-Y0)=day-Y0:=IntWalk.i64_in _ (by omega)
   go_wp2_with (first|(with_reducible refine aA ?_)|(with_reducible refine aB ?_;first|rintro _ V ⟨rfl,(_:StepC _ _)⟩))
   (try simp only[pS])
   obtain⟨lp,hlp⟩:∃b,leap (2000+(j:Int))=b:=⟨_,rfl⟩;have Hlp:=Lib.hid hlp;have hix:∀i:Nat,i<12→IxC Tryz.prog 187 (lensA (2000+(j:Int))) i (.int .i64 (monthLen lp ((i:Int)+1))):=fun i hi=>by rw[←hlp];exact ixs _ i hi
   have Hix:=Lib.hid hix;clear hix hlp;go_loopw [0,33] (fun dv iv wr=>StepC w wr∧Blk wr g2 184 #[.int .i64 0,.int .i64 0,.int .i64 0]∧∃(i:Nat)(r:Int),i≤12∧0≤r∧r≤40000∧iv=.int .i64 i∧dv=.int .i64 r∧Blk wr g4 184 #[.int .i64 (2000+j),.int .i64 ((i:Int)+1),.int .i64 0]∧monthDay ((lens lp).drop i) ((i:Int)+1) r=monthDay (lens lp) 1 (day-Y0)) (fun _ iv _=>12-(RowKit.intOf iv).toNat)
   case atStart=>exact⟨⟨ExtC.h⟩,(inferInstance:BlkC V g2 184 [.int .i64 0,.int .i64 0,.int .i64 0]).h,0,day-Y0,by omega,by omega,by omega,rfl,rfl,(inferInstance:BlkC V g4 184 [.int .i64 (2000+(j:Int)),.int .i64 1,.int .i64 0]).h,rfl⟩
   case round=>
    obtain⟨_,hb2,i,r,hi,hr0,hr1,rfl,rfl,hb4,hmd⟩:=hrel;have Hmd:=Lib.hid hmd;have i2:BlkC wr g2 184 [.int .i64 0,.int .i64 0,.int .i64 0]:=⟨hb2⟩;have i4:BlkC wr g4 184 [.int .i64 (2000+j),.int .i64 ((i:Int)+1),.int .i64 0]:=⟨hb4⟩;clear hmd;have fin:∀mo dd:Int,monthDay (lens lp) 1 (day-Y0)=(mo,dd)→y=2000+(j:Int)∧m=mo∧d=dd:=by
     intro mo dd he;have e1:=Hh.out;rw[Hd.out,Hlp.out,he] at e1;injection e1 with e1 e2 e3
     exact⟨e1.symm,e2.symm,e3.symm⟩
    have Hfin:=Lib.hid fin;clear fin;by_cases hlt:i<12
    ·have hst:=rT (lp:=lp) hlt (r:=r);have ix:=Hix.out i hlt;have hb:=Ak lp i hlt;obtain⟨N,hN⟩:∃N,monthLen lp ((i:Int)+1)=N:=⟨_,rfl⟩;rw[hN] at hst ix hb;clear hN;by_cases hrN:r<N
     ·rw[if_pos hrN] at hst;obtain⟨f1,f2,f3⟩:=Hfin.out _ _ (by rw[←Hmd.out,hst])
      clear hst;subst f1 f2 f3;go_wp2_with (first|(with_reducible refine aA ?_)|(with_reducible refine cM ?_)|(with_reducible refine aI ?_;intro V _ _))
      (try simp only[Exit.inBlock,Exit.then])
      exact bM rfl rfl (by with_unfolding_all rfl) ⟨rfl,⟨ExtC.h⟩⟩
     ·rw[if_neg hrN] at hst;have Hst:=Lib.hid (show monthDay ((lens lp).drop (i+1)) ((i:Int)+1+1) (r-N)=monthDay (lens lp) 1 (day-Y0) by rw[←Hmd.out,hst])
      clear hst;go_wp2_with (first|(with_reducible refine aA ?_)|(with_reducible refine cM ?_)|(with_reducible refine aI ?_;intro V _ _))
      go_roundw
      case rel=>exact⟨⟨ExtC.h⟩,(inferInstance:BlkC _ g2 184 [.int .i64 0,.int .i64 0,.int .i64 0]).h,i+1,r-N,hlt,by omega,by omega,by go_num,rfl,(inferInstance:BlkC _ g4 184 [.int .i64 (2000+(j:Int)),.int .i64 ((i:Int)+1+1),.int .i64 0]).h,Hst.out⟩
      case measure=>simp[RowKit.intOf];omega
    ·obtain rfl:i=12:=by omega
     obtain⟨f1,f2,f3⟩:=Hfin.out 13 (r+1) (by rw[←Hmd.out];exact wS)
     subst f1 f2 f3;go_wp2_with (first|(with_reducible refine aA ?_)|(with_reducible refine aI ?_;intro V _ _))
     (try simp only[Exit.inBlock,Exit.then])
     exact bM rfl rfl (by with_unfolding_all rfl) ⟨rfl,⟨ExtC.h⟩⟩
instance{W:World}{day y m d r:Int}[h:DateE day y m d r]:FunC Tryz.prog 100 #[.int .i64 day] W (RD W y m d r):=⟨Lq day y m d r h.h W⟩
theorem AtC.up{w a:World}{g:Nat}(h:AtC a g)[e:ExtC w a]:AtC w g:=⟨Nat.le_trans e.h.size h.h⟩
class PlusE (day years months:Int) (p r:outParam Int):Prop where h:plusAns day years months=(p,r)
theorem kS{day:Int}(h:inB day 0 40000=true):∃y m d:Int,dateOf day=⟨y,m,d⟩∧dateAns day=(⟨y,m,d⟩,0)∧(2000≤y∧y≤2109)∧(1≤m∧m≤12)∧(1≤d∧d≤31):=by
 have h1:=inB_t.1 h;obtain⟨v,v2,_⟩:=fG h1.1 h1.2;have hm:=inB_t.1 v.hm;have hd:=inB_t.1 v.hd;have hy:=v.hy;have:=(bW (leap (dateOf day).year) v.hm).2;exact⟨(dateOf day).year,(dateOf day).month,(dateOf day).day,rfl,by unfold dateAns;rw[if_neg (by rw[h];simp)],⟨by omega,by omega⟩,hm,⟨hd.1,by omega⟩⟩
theorem rD{day:Int}(h:inB day 0 40000=false):dateAns day=(⟨0,0,0⟩,7):=by unfold dateAns;rw[if_pos h]
theorem Lm(day years months p r:Int)(h:plusAns day years months=(p,r))(w:World):Calls Tryz.prog 244 #[.int .i64 day,.int .i64 years,.int .i64 months] w (RII w p r):=by
 unfold plusAns at h;by_cases hd:inB day 0 40000=false
 ·rw[if_pos (.inl hd)] at h;injection h with h1 h2
  subst h1 h2;have i1:=DateE.mk (rD hd);clear hd;go_enter Tryz.func244,Tryz.ntmps244
  go_wp2_with (first|(with_reducible refine aB ?_;first|rintro _ V ⟨rfl,(_:StepC _ _)⟩)|(with_reducible refine aG ?_;intro V g _ _ _))
  go_ret2
  exact⟨rfl,⟨ExtC.h⟩⟩
 obtain⟨Y,M,D,hD,hA,hY,hM,hDd⟩:=kS (by simpa using hd)
 have i1:=DateE.mk hA;by_cases hy:inB years 0 100=false
 ·rw[if_pos (.inr (.inl hy))] at h;injection h with h1 h2
  subst h1 h2;have e1:outB 0 100 [years]=true:=by rw[bL,hy];rfl
  clear hd hy hD hA;go_enter Tryz.func244,Tryz.ntmps244
  go_wp2_with (first|(with_reducible refine bH ?_)|(with_reducible refine aB ?_;first|rintro _ V ⟨rfl,(_:StepC _ _)⟩)|(with_reducible refine aG ?_;intro V g _ _ _)|(with_reducible refine aD ?_;intro V g _ _ _))
  go_ret2
  exact⟨rfl,⟨ExtC.h⟩⟩
 have e1:outB 0 100 [years]=false:=by rw[bL];simpa using hy
 by_cases hm:inB months 0 1200=false
 ·rw[if_pos (.inr (.inr hm))] at h;injection h with h1 h2
  subst h1 h2;have e2:outB 0 1200 [months]=true:=by rw[bL,hm];rfl
  clear hd hy hD hA hm;go_enter Tryz.func244,Tryz.ntmps244
  go_wp2_with (first|(with_reducible refine bH ?_)|(with_reducible refine aB ?_;first|rintro _ V ⟨rfl,(_:StepC _ _)⟩)|(with_reducible refine aG ?_;intro V g _ _ _)|(with_reducible refine aD ?_;intro V g _ _ _))
  go_ret2
  exact⟨rfl,⟨ExtC.h⟩⟩
 have e2:outB 0 1200 [months]=false:=by rw[bL];simpa using hm
 rw[if_neg (by rintro(h|h|h);exact hd h;exact hy h;exact hm h)] at h
 have y1:=inB_t.1 (by simpa using hy:inB years 0 100=true)
 have m1:=inB_t.1 (by simpa using hm:inB months 0 1200=true)
 simp only[hD] at h;obtain⟨k,hk⟩:∃k:Int,months+M-1=k:=⟨_,rfl⟩;have hkb:0≤k∧k≤1211:=by omega
 rw[hk,Int.tdiv_eq_ediv_of_nonneg hkb.1,Int.tmod_eq_emod_of_nonneg hkb.1] at h;have z0:IntKind.i64.wrap (M-1)=M-1:=IntWalk.i64_in _ (by omega)
 have z1:IntKind.i64.wrap (months+(M-1))=k:=by rw[show months+(M-1)=k by omega];exact IntWalk.i64_in _ (by omega)
 obtain⟨q,hq⟩:∃q:Nat,k%12=(q:Int):=⟨(k%12).toNat,by omega⟩
 have hq12:q<12:=by omega
 obtain⟨t,ht⟩:∃t:Int,k/12=t:=⟨_,rfl⟩;have htb:0≤t∧t≤101:=by omega
 rw[hq,ht] at h;obtain⟨y',hy'⟩:∃y':Int,Y+years+t=y':=⟨_,rfl⟩;rw[hy'] at h;have z2:IntKind.i64.wrap (years+t)=years+t:=IntWalk.i64_in _ (by omega)
 have z3:IntKind.i64.wrap (Y+(years+t))=y':=by rw[show Y+(years+t)=y' by omega];exact IntWalk.i64_in _ (by omega)
 have f1:Fact' (0≤y'∧y'≤100000):=⟨by omega⟩
 have ix:=ixs y' q hq12;have hb:=Ak (leap y') q hq12;obtain⟨L,hL⟩:∃L,monthLen (leap y') ((q:Int)+1)=L:=⟨_,rfl⟩;rw[hL] at ix hb h;have i2:DayE y' ((q:Int)+1) (min D L) p r:=⟨⟨by omega,by omega⟩,⟨by omega,by omega⟩,h⟩
 have i3:DayE y' ((q:Int)+1) (if L<D then L else D) p r:=by
  have:min D L=if L<D then L else D:=by split<;>omega
  rw[←this];exact i2
 skip
 have z4:IntKind.i64.wrap ((q:Int)+1)=(q:Int)+1:=IntWalk.i64_in _ (by omega)
 have z5:IntKind.i64.wrap ((q:Int)+1-1)=(q:Int):=by rw[show(q:Int)+1-1=q by omega];exact IntWalk.i64_in _ (by omega)
 have z6:IntKind.i64.wrap (q:Int)=(q:Int):=IntWalk.i64_in _ (by omega)
 clear hd hy hD hA hm hk hL hy' h;by_cases hc:L<D
 all_goals
  first|rw[if_pos hc] at i3|rw[if_neg hc] at i3
  have hc2:D≤L↔¬L<D:=by omega
  go_enter Tryz.func244,Tryz.ntmps244
  go_wp2_with (first|(with_reducible refine aG (uu:=8) ?_;intro V g8 _ _ hA8;have iA:AtC w g8:=AtC.up hA8)|(first|(with_reducible refine aA ?_)|(with_reducible refine bH ?_)|(with_reducible refine aB ?_;first|rintro _ V ⟨rfl,(_:StepC _ _)⟩)|(with_reducible refine aI ?_;intro V _ _)|(with_reducible refine aD ?_;intro V g _ _ _)))
  refine dA ((.take 0 (.take 2 (.take 3 (.take 5 (.take 6 (.take 7 (.two 1 (.one 4 (.take 8 (.take 9 (.take 10 (.one 11 .nil))))) 4 (.take 8 (.one 1 (.take 9 (.take 10 (.one 11 .nil))))))))))))) (fun w'=>Ext w w'∧w'.cell? ⟨g8,0,none⟩=some (.int .i64 y')∧w'.cell? ⟨g8,1,none⟩=some (.int .i64 ((q:Int)+1))) ?_ (fun hHd=> ?_) (hQ:=by intro _ _ _ _ _ h;exact h)
  ·exact⟨ExtC.h,BlkC.at0 (t:=184),BlkC.at1 (t:=184)⟩
  repeat' first|((with_reducible refine aX ?_);(first|(refine tk (v:= ?_) ?_ hHd ?_;rotate_left;(·(intro W' h;obtain⟨h,ha,hb⟩:=h;have:=StepC.mk h;have c0:=CellB.mk ha;have c1:=CellB.mk hb;first|with_reducible exact aJ|with_reducible exact iS)))|(refine tk (v:= ?_) ?_ hHd ?_;rotate_left;(·(intro wq hSw;go_simp;(try with_reducible rfl)))));(try simp only[pS]))|((with_reducible refine bC ?_);refine aQ (by simp only[gS];rfl) ?_)|((with_reducible refine gK ?_);refine dV (by simp only[gS];rfl) (by simp only[gS];rfl) ?_ ?_)|(with_reducible refine aA ?_)|(with_reducible refine aI ?_;intro Vs hS hSB)|((with_reducible refine aN ?_);first|(rintro _ V ⟨rfl,(_:StepC _ _)⟩;refine⟨_,rfl,?_⟩))|((with_reducible refine bD ?_);clear hHd;refine aM ⟨ExtC.h,BlkC.at0 (t:=184),BlkC.at1 (t:=184)⟩ (fun hHd=> ?_);(try simp only[pS]))|(with_reducible refine aF ?_)
  all_goals
   go_wp2_with (first|(with_reducible refine aA ?_)|(with_reducible refine aB ?_;first|rintro _ V ⟨rfl,(_:StepC _ _)⟩))
   go_ret2
   exact⟨rfl,⟨ExtC.h⟩⟩
instance{W:World}{day years months p r:Int}[h:PlusE day years months p r]:FunC Tryz.prog 244 #[.int .i64 day,.int .i64 years,.int .i64 months] W (RII W p r):=⟨Lm _ _ _ _ _ h.h W⟩
class AgeE (born day:Int) (a r:outParam Int):Prop where h:ageAns born day=(a,r)
theorem Ov(born day a r:Int)(h:ageAns born day=(a,r))(w:World):Calls Tryz.prog 53 #[.int .i64 born,.int .i64 day] w (RII w a r):=by
 unfold ageAns at h;by_cases hb:inB born 0 40000=false
 ·rw[if_pos (.inl hb)] at h;injection h with h1 h2
  subst h1 h2;have i1:=DateE.mk (rD hb);obtain⟨⟨⟨Y,M,D⟩,q⟩,hd⟩:∃x,dateAns day=x:=⟨_,rfl⟩;have i2:=DateE.mk hd;clear hb hd;go_enter Tryz.func53,Tryz.ntmps53
  go_wp2_with (first|(with_reducible refine aB ?_;first|rintro _ V ⟨rfl,(_:StepC _ _)⟩)|(with_reducible refine aG ?_;intro V g _ _ _))
  go_ret2
  exact⟨rfl,⟨ExtC.h⟩⟩
 obtain⟨Y1,M1,D1,hD1,hA1,hY1,hM1,hd1⟩:=kS (by simpa using hb)
 have i1:=DateE.mk hA1;by_cases hd:inB day 0 40000=false
 ·rw[if_pos (.inr hd)] at h;injection h with h1 h2
  subst h1 h2;have i2:=DateE.mk (rD hd);clear hb hd hD1 hA1;go_enter Tryz.func53,Tryz.ntmps53
  go_wp2_with (first|(with_reducible refine aB ?_;first|rintro _ V ⟨rfl,(_:StepC _ _)⟩)|(with_reducible refine aG ?_;intro V g _ _ _))
  go_ret2
  exact⟨rfl,⟨ExtC.h⟩⟩
 obtain⟨Y2,M2,D2,hD2,hA2,hY2,hM2,hd2⟩:=kS (by simpa using hd)
 have i2:=DateE.mk hA2;rw[if_neg (by rintro(h|h);exact hb h;exact hd h)] at h
 by_cases hlt:day<born
 ·rw[if_pos hlt] at h;injection h with h1 h2
  subst h1 h2;clear hb hd hD1 hA1 hD2 hA2;go_enter Tryz.func53,Tryz.ntmps53
  go_wp2_with (first|(with_reducible refine aB ?_;first|rintro _ V ⟨rfl,(_:StepC _ _)⟩)|(with_reducible refine aG ?_;intro V g _ _ _))
  go_ret2
  exact⟨rfl,⟨ExtC.h⟩⟩
 rw[if_neg hlt] at h;simp only[hD1,hD2] at h;obtain⟨q,hq⟩:∃q:Nat,M1=(q:Int)+1:=⟨(M1-1).toNat,by omega⟩
 subst hq;have f1:Fact' (0≤Y2∧Y2≤100000):=⟨by omega⟩
 have ix:=ixs Y2 q (by omega)
 have hbl:=Ak (leap Y2) q (by omega)
 obtain⟨L,hL⟩:∃L,monthLen (leap Y2) ((q:Int)+1)=L:=⟨_,rfl⟩;rw[hL] at ix hbl h;have z6:IntKind.i64.wrap (q:Int)=(q:Int):=IntWalk.i64_in _ (by omega)
 have z7:IntKind.i64.wrap (Y2-Y1)=Y2-Y1:=IntWalk.i64_in _ (by omega)
 have z8:IntKind.i64.wrap (Y2-Y1-1)=Y2-Y1-1:=IntWalk.i64_in _ (by omega)
 obtain⟨B,hB⟩:∃B,min D1 L=B:=⟨_,rfl⟩;have hB2:B=if L<D1 then L else D1:=by rw[←hB];split<;>omega
 rw[hB] at h;have H:=Lib.hid h;clear hb hd hD1 hA1 hD2 hA2 h hL hB;have hc2:D1≤L↔¬L<D1:=by omega
 have HB:=Lib.hid hB2;clear hB2;obtain⟨rfl,rfl⟩:(if M2<(q:Int)+1∨M2=(q:Int)+1∧D2<B then Y2-Y1-1 else Y2-Y1)=a∧0=r:=by have:=H.out;injection this with h1 h2;exact⟨h1,h2⟩
 clear H;by_cases c1:M2<(q:Int)+1
 ·rw[if_pos (Or.inl c1)];by_cases hc:L<D1
  all_goals
   have hB2:=HB.out;first|rw[if_pos hc] at hB2|rw[if_neg hc] at hB2
   subst hB2;clear HB;go_enter Tryz.func53,Tryz.ntmps53
   go_wp2_with (first|(with_reducible refine aA ?_)|(with_reducible refine aB ?_;first|rintro _ V ⟨rfl,(_:StepC _ _)⟩)|(with_reducible refine aG ?_;intro V g _ _ _))
   refine aP ((.take 0 (.take 1 (.take 2 (.take 3 (.take 5 (.take 6 (.take 7 (.one 4 (.take 8 (.take 9 (.take 10 .nil)))))))))))) (fun hHd=> ?_) (hQ:=by intro _ _ _ _ _ h;exact h)
   repeat' first|((with_reducible refine aX ?_);(first|(refine tk (v:= ?_) ?_ hHd ?_;rotate_left;(·(intro W' h;have:=StepC.mk h;first|with_reducible exact aJ|with_reducible exact iS)))|(refine tk (v:= ?_) ?_ hHd ?_;rotate_left;(·(intro wq hSw;go_simp;(try with_reducible rfl)))));(try simp only[pS]))|((with_reducible refine bC ?_);refine aQ (by simp only[gS];rfl) ?_)|((with_reducible refine aN ?_);first|(rintro _ V ⟨rfl,(_:StepC _ _)⟩;refine⟨_,rfl,?_⟩))|((with_reducible refine bD ?_);clear hHd;refine aM ExtC.h (fun hHd=> ?_);(try simp only[pS]))|(with_reducible refine aF ?_)
   go_wp2_with (first|go_skip|(with_reducible refine aA ?_))
   go_ret2
   exact⟨rfl,⟨ExtC.h⟩⟩
 by_cases c2:M2=(q:Int)+1
 ·by_cases c3:D2<B
  ·rw[if_pos (Or.inr ⟨c2,c3⟩)];by_cases hc:L<D1
   all_goals
    have hB2:=HB.out;first|rw[if_pos hc] at hB2|rw[if_neg hc] at hB2
    subst hB2;clear HB;go_enter Tryz.func53,Tryz.ntmps53
    go_wp2_with (first|(with_reducible refine aA ?_)|(with_reducible refine aB ?_;first|rintro _ V ⟨rfl,(_:StepC _ _)⟩)|(with_reducible refine aG ?_;intro V g _ _ _))
    refine aP ((.take 0 (.take 1 (.take 2 (.take 3 (.take 5 (.take 6 (.take 7 (.one 4 (.take 8 (.take 9 (.take 10 .nil)))))))))))) (fun hHd=> ?_) (hQ:=by intro _ _ _ _ _ h;exact h)
    repeat' first|((with_reducible refine aX ?_);(first|(refine tk (v:= ?_) ?_ hHd ?_;rotate_left;(·(intro W' h;have:=StepC.mk h;first|with_reducible exact aJ|with_reducible exact iS)))|(refine tk (v:= ?_) ?_ hHd ?_;rotate_left;(·(intro wq hSw;go_simp;(try with_reducible rfl)))));(try simp only[pS]))|((with_reducible refine bC ?_);refine aQ (by simp only[gS];rfl) ?_)|((with_reducible refine aN ?_);first|(rintro _ V ⟨rfl,(_:StepC _ _)⟩;refine⟨_,rfl,?_⟩))|((with_reducible refine bD ?_);clear hHd;refine aM ExtC.h (fun hHd=> ?_);(try simp only[pS]))|(with_reducible refine aF ?_)
    go_wp2_with (first|(with_reducible refine aA ?_)|(with_reducible refine bA ?_))
    go_ret2
    exact⟨rfl,⟨ExtC.h⟩⟩
  ·rw[if_neg (fun h=>h.elim c1 (fun h=>c3 h.2))]
   by_cases hc:L<D1
   all_goals
    have hB2:=HB.out;first|rw[if_pos hc] at hB2|rw[if_neg hc] at hB2
    subst hB2;clear HB;go_enter Tryz.func53,Tryz.ntmps53
    go_wp2_with (first|(with_reducible refine aA ?_)|(with_reducible refine aB ?_;first|rintro _ V ⟨rfl,(_:StepC _ _)⟩)|(with_reducible refine aG ?_;intro V g _ _ _))
    refine aP ((.take 0 (.take 1 (.take 2 (.take 3 (.take 5 (.take 6 (.take 7 (.one 4 (.take 8 (.take 9 (.take 10 .nil)))))))))))) (fun hHd=> ?_) (hQ:=by intro _ _ _ _ _ h;exact h)
    repeat' first|((with_reducible refine aX ?_);(first|(refine tk (v:= ?_) ?_ hHd ?_;rotate_left;(·(intro W' h;have:=StepC.mk h;first|with_reducible exact aJ|with_reducible exact iS)))|(refine tk (v:= ?_) ?_ hHd ?_;rotate_left;(·(intro wq hSw;go_simp;(try with_reducible rfl)))));(try simp only[pS]))|((with_reducible refine bC ?_);refine aQ (by simp only[gS];rfl) ?_)|((with_reducible refine aN ?_);first|(rintro _ V ⟨rfl,(_:StepC _ _)⟩;refine⟨_,rfl,?_⟩))|((with_reducible refine bD ?_);clear hHd;refine aM ExtC.h (fun hHd=> ?_);(try simp only[pS]))|(with_reducible refine aF ?_)
    go_wp2_with (first|(with_reducible refine aA ?_)|(with_reducible refine bA ?_))
    go_ret2
    exact⟨rfl,⟨ExtC.h⟩⟩
 ·rw[if_neg (fun h=>h.elim c1 (fun h=>c2 h.1))]
  have c4:(M2==(q:Int)+1)=false:=by simpa using c2
  have c6:decide (M2<(q:Int)+1)=false:=by simpa using c1
  by_cases hc:L<D1
  all_goals
   have hB2:=HB.out;first|rw[if_pos hc] at hB2|rw[if_neg hc] at hB2
   subst hB2;clear HB;go_enter Tryz.func53,Tryz.ntmps53
   go_wp2_with (first|(with_reducible refine aA ?_)|(with_reducible refine aB ?_;first|rintro _ V ⟨rfl,(_:StepC _ _)⟩)|(with_reducible refine aG ?_;intro V g _ _ _))
   refine aP ((.take 0 (.take 1 (.take 2 (.take 3 (.take 5 (.take 6 (.take 7 (.one 4 (.take 8 (.take 9 (.take 10 .nil)))))))))))) (fun hHd=> ?_) (hQ:=by intro _ _ _ _ _ h;exact h)
   repeat' first|((with_reducible refine aX ?_);(first|(refine tk (v:= ?_) ?_ hHd ?_;rotate_left;(·(intro W' h;have:=StepC.mk h;first|with_reducible exact aJ|with_reducible exact iS)))|(refine tk (v:= ?_) ?_ hHd ?_;rotate_left;(·(intro wq hSw;go_simp;(try with_reducible rfl)))));(try simp only[pS]))|((with_reducible refine bC ?_);refine aQ (by simp only[gS];rfl) ?_)|((with_reducible refine aN ?_);first|(rintro _ V ⟨rfl,(_:StepC _ _)⟩;refine⟨_,rfl,?_⟩))|((with_reducible refine bD ?_);clear hHd;refine aM ExtC.h (fun hHd=> ?_);(try simp only[pS]))|(with_reducible refine aF ?_)
   go_wp2_with (first|go_skip|(with_reducible refine aA ?_)|(with_reducible refine bA ?_))
   go_ret2
   exact⟨rfl,⟨ExtC.h⟩⟩
instance{W:World}{born day a r:Int}[h:AgeE born day a r]:FunC Tryz.prog 53 #[.int .i64 born,.int .i64 day] W (RII W a r):=⟨Ov _ _ _ _ h.h W⟩
theorem CovV.row{W:World}{v:Value}{n:Nat}{L:List (List Bool)}(h:CovV W v n L){i:Nat}(hi:i<L.length):∃A c ad g,v=.slice A L.length c∧A=some ad∧W.cell? (ad.add i)=some (.slice (some ⟨g,0,none⟩) n n)∧∀j<n,W.cell? ⟨g,j,none⟩=some (.bool ((L.getD i []).getD j false)):=by
 obtain⟨gs,h1,⟨A,c,rfl,k1,k2,k3,k4⟩,h3⟩:=h.h;obtain⟨ad,rfl,hc⟩:=k4 (by omega)
 refine⟨_,c,ad,gs[i]'(by omega),rfl,rfl,hc i _ (by simp[h1,hi]),fun j hj=>iH (h3 i (by omega)).1 (by rw[(h3 i (by omega)).2];exact hj)⟩
theorem cV{α:Type}[Enc α]{W B:World}{A:Option Addr}{n c sz:Nat}{e:TypeId}{l m:List α}{x:α}{cs:List Value}(h:m=l++ [x])(hR:RowC W (.slice A n c) B e sz n cs)(hn:n=l.length+1:=by rfl)(hc:cs=encL l++Enc.enc x:=by rfl):∃A2 c2,Value.slice A n c=.slice A2 m.length c2∧RowC W (.slice A2 m.length c2) B e sz m.length (encL m):=by
 subst h hn hc;exact⟨A,c,by simp,by rw[encL_snoc,List.length_append];exact hR⟩
theorem Ig{α:Type}[Enc α]{W B:World}{A:Option Addr}{n c sz:Nat}{e:TypeId}{l m:List α}{cs:List Value}(h:m=l)(hR:RowC W (.slice A n c) B e sz n cs)(hn:n=l.length:=by rfl)(hc:cs=encL l:=by rfl):∃A2 c2,Value.slice A n c=.slice A2 m.length c2∧RowC W (.slice A2 m.length c2) B e sz m.length (encL m):=by
 subst h hn hc;exact⟨A,c,rfl,hR⟩
class CoversE (s:Sys) (c:Int) (l:outParam (List Int)) (r:outParam Int):Prop where h:s.coversAns c=(l,r)
def Sys.cov(s:Sys)(c:Int)(k:Nat):List Int:=(List.range k).filterMap fun k:Nat=>if s.covers c k=true then some (k:Int) else none
theorem Sys.cov_succ(s:Sys)(c:Int)(k:Nat):s.cov c (k+1)=s.cov c k++if s.covers c k=true then [(k:Int)] else []:=by
 unfold Sys.cov;rw[List.range_succ,List.filterMap_append];by_cases h:s.covers c k=true<;>simp[h]
theorem Sys.cov_len(s:Sys)(c:Int)(k:Nat):(s.cov c k).length≤k:=by
 unfold Sys.cov;exact Nat.le_trans (List.length_filterMap_le _ _) (by simp)
theorem Cb(s:Sys)(v:Value)(c:Int)(l:List Int)(r:Int)(w:World)(h:SysV w v s)(hc:s.coversAns c=(l,r)):Calls Tryz.prog 242 #[v,.int .i64 c] w (RLI w l r):=by
 obtain⟨A,_,k,A',k',rfl,rfl,-⟩:=h.h;have i1:=SysB.mk h;obtain⟨⟨p,a,r0⟩,hk⟩:∃x,s.check=x:=⟨_,rfl⟩;unfold Sys.coversAns at hc;rw[hk] at hc;simp only at hc;by_cases hz:r0=0
 ·subst hz;obtain⟨rfl,rfl⟩:=eD hk;have i2:OpenOk s:=⟨hk⟩;have hok:s.Ok:=Sys.ok_of (by rw[hk])
  have n1:=hok.n;rw[if_neg (by simp)] at hc
  have z1:IntKind.i64.wrap ((s.classes.length:Int)-1)=(s.classes.length:Int)-1:=IntWalk.i64_in _ (by omega)
  by_cases h1:inB c 0 ((s.classes.length:Int)-1)=false
  ·rw[if_pos h1] at hc;injection hc with m1 m2
   subst m1 m2;have e1:outB 0 ((s.classes.length:Int)-1) [c]=true:=by rw[bL,h1];rfl
   clear hk hok h1;go_enter Tryz.func242,Tryz.ntmps242
   go_wp2_with (first|(with_reducible refine aA ?_)|(with_reducible refine aB ?_;first|rintro _ V ⟨rfl,(_:StepC _ _)⟩|rintro _ V ⟨gp,Ap,kp,Aq,kq,cv,rfl,_,_,_,_,(_:StepC _ _)⟩)|(with_reducible refine aH ?_;intro V g _ _ _)|(with_reducible refine aD ?_;intro V g _ _ _))
   go_ret2
   exact⟨none,0,rfl,⟨ListV.nil⟩,⟨ExtC.h⟩⟩
  have e1:outB 0 ((s.classes.length:Int)-1) [c]=false:=by rw[bL];simpa using h1
  rw[if_neg h1] at hc;injection hc with m1 m2
  subst m2;have c1:=inB_t.1 (by simpa using h1:inB c 0 ((s.classes.length:Int)-1)=true)
  obtain⟨i,rfl⟩:∃i:Nat,c=(i:Int):=⟨c.toNat,by omega⟩
  have hin:i<s.classes.length:=by omega
  have hl:s.cov i s.classes.length=l:=m1;have Hl:=Lib.hid hl;clear hk hok h1 hl m1 c1;go_enter Tryz.func242,Tryz.ntmps242
  go_wp2_with (first|(with_reducible refine aA ?_)|(with_reducible refine aB ?_;first|rintro _ V ⟨rfl,(_:StepC _ _)⟩|rintro _ V ⟨gp,Ap,kp,Aq,kq,cv,rfl,_,_,_,_,(_:StepC _ _)⟩)|(with_reducible refine aH ?_;intro V g _ _ _)|(with_reducible refine aD ?_;intro V g _ _ _))
  obtain⟨B,kb,ad,gr,rfl,rfl,x1,x2⟩:=(CovC.h (W:=V) (v:=cv) (n:=s.classes.length) (s:=s)).1.row (i:=i) (by simpa using hin)
  have hl:((List.range s.classes.length).map fun i:Nat=>s.coverL i).length=s.classes.length:=by simp
  have x3:∀j<s.classes.length,V.cell? ⟨gr,j,none⟩=some (.bool (s.covers i j)):=fun j hj=>by rw[x2 j hj,kT rfl hin]
  have X3:=Lib.hid x3;simp only[hl];have i4:=CellB.mk x1;clear x1 x2 x3 hl;go_simp
  go_wp2_with (first|(with_reducible refine aA ?_))
  go_loopw [4,41] (fun sv iv wr=>StepC V wr∧∃j:Nat,j≤s.classes.length∧iv=.int .i64 j∧∃A2 c2,sv=.slice A2 (s.cov i j).length c2∧RowC wr (.slice A2 (s.cov i j).length c2) V 3 1 (s.cov i j).length (encL (s.cov i j))) (fun _ iv _=>s.classes.length-(RowKit.intOf iv).toNat)
  case atStart=>exact⟨⟨ExtC.h⟩,0,by omega,rfl,none,0,rfl,RowC.nil⟩
  case round=>
   obtain⟨_,j,hj,rfl,A2,c2,rfl,hR⟩:=hrel;by_cases hlt:j<s.classes.length
   ·have i5:=CellB.mk (X3.out j hlt);have hln:=s.cov_len i j;have hs:=s.cov_succ i j;obtain⟨b,hb⟩:∃b,s.covers i j=b:=⟨_,rfl⟩;rw[hb] at i5 hs;have Hs:=Lib.hid hs;clear hs hb;obtain⟨m,hm⟩:∃m,s.cov i j=m:=⟨_,rfl⟩;rw[hm] at hR Hs hln⊢;have z2:IntKind.i64.wrap ((j:Int)+1)=(j:Int)+1:=IntWalk.i64_in _ (by omega)
    clear hm
    cases b
    ·go_wp2_with (first|(with_reducible refine aA ?_))
     go_roundw
     case rel=>exact⟨⟨ExtC.h⟩,j+1,by omega,by simp,Ig (l:=m) (by have:=Hs.out;simpa using this) (inferInstance:RowC _ (.slice A2 m.length c2) V 3 1 m.length _)⟩
     case measure=>simp[RowKit.intOf];omega
    ·go_wp2_with (first|(with_reducible refine aA ?_)|(with_reducible refine aD ?_;intro V g _ _ _)|(with_reducible refine bR ?_;intro _ _ V hR _))
     go_roundw
     case rel=>exact⟨⟨ExtC.h⟩,j+1,by omega,by simp,cV (l:=m) (x:=(j:Int)) (by have:=Hs.out;simpa using this) hR⟩
     case measure=>simp[RowKit.intOf];omega
   ·obtain rfl:j=s.classes.length:=by omega
    have hl:=Hl.out;rw[hl] at hR⊢;clear Hl hl;go_wp2
    go_ret2
    exact⟨A2,c2,rfl,⟨hR.list rfl rfl rfl⟩,⟨ExtC.h⟩⟩
 ·rw[if_pos hz] at hc;injection hc with m1 m2
  subst m1 m2;have i3:OpenBad s p a r0:=⟨hk,hz⟩;have q1:(r0 !=0)=true:=by simpa using hz
  clear hk;go_enter Tryz.func242,Tryz.ntmps242
  go_wp2_with (first|(with_reducible refine aA ?_)|(with_reducible refine aB ?_;first|rintro _ V ⟨rfl,(_:StepC _ _)⟩)|(with_reducible refine aH ?_;intro V g _ _ _))
  go_ret2
  exact⟨none,0,rfl,⟨ListV.nil⟩,⟨ExtC.h⟩⟩
instance{W:World}{v:Value}{s:Sys}{c r:Int}{l:List Int}[h:SysC W v s][q:CoversE s c l r]:FunC Tryz.prog 242 #[v,.int .i64 c] W (RLI W l r):=⟨Cb s v c l r W h.h q.h⟩
end Go.Rg
end
