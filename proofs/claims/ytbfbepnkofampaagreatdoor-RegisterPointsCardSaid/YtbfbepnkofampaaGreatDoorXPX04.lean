import Derived.Test.YtbfbepnkofampaaGreatDoorXPX01
import Derived.Test.YtbfbepnkofampaaGreatDoorXPX03
set_option maxRecDepth 100000
set_option synthInstance.maxSize 2000
set_option synthInstance.maxHeartbeats 400000
set_option maxHeartbeats 8000000
set_option linter.all false
section
namespace Go.Rg
open Go Go.Bp Go.RowKit Go.Walk Go.Proofs
instance arrYd:ArrT Tryz.prog 246 4:=⟨⟨_,_,Tryz.underlying246⟩,by kernel_rfl⟩
instance zerYd:ZeroT Tryz.prog 246 [.nilFunc,.nilFunc,.nilFunc,.nilFunc]:=⟨.agg #[.nilFunc,.nilFunc,.nilFunc,.nilFunc],32,by kernel_rfl,by simp[Value.cells],by decide⟩
theorem Cz{cs:Array Value}{k:Nat}{v:Value}(hk:k<4)(h:cs[k]? =some v):IxC Tryz.prog 246 cs k v:=⟨4,245,_,Tryz.underlying246,Tryz.underlying245,rfl,by kernel_rfl,hk,h⟩
instance ixYd0{a b c d:Value}:IxC Tryz.prog 246 #[a,b,c,d] 0 a:=Cz (by decide) rfl
instance ixYd1{a b c d:Value}:IxC Tryz.prog 246 #[a,b,c,d] 1 b:=Cz (by decide) rfl
instance ixYd2{a b c d:Value}:IxC Tryz.prog 246 #[a,b,c,d] 2 c:=Cz (by decide) rfl
instance ixYd3{a b c d:Value}:IxC Tryz.prog 246 #[a,b,c,d] 3 d:=Cz (by decide) rfl
instance tyYd1:TyNe 121 137:=⟨by decide⟩
instance tyYd2:TyNe 121 80:=⟨by decide⟩
structure GrW(v0 W:World)(g1 g2 gf gt:Nat)(vC vD vT:Value)(r:Rules)(born:Int)(l:List Event)(Ae:Option Addr)(ce:Nat)(Ac:Option Addr)(cc:Nat)(Ap:Option Addr)(cp:Nat)(tkn:List (Int×Int))(gs:List Grant):Prop where
 x:ExtC v0 W
 p:BlkC W g1 115 [.pointer (some ⟨gf,0,none⟩)]
 a:BlkC W g2 246 [.func (.func 178) #[.pointer (some ⟨gf,0,none⟩)] #[],.func (.func 179) #[.pointer (some ⟨gf,0,none⟩)] #[],.func (.func 180) #[.pointer (some ⟨gf,0,none⟩)] #[],.func (.func 181) #[.pointer (some ⟨gf,0,none⟩)] #[]]
 e:RowC W (.slice Ae l.length ce) v0 80 9 l.length (encL l)
 c:RowC W (.slice Ac (courts l).length cc) v0 95 2 (courts l).length (encL (courts l))
 b:RowC W (.slice Ap (r.offs l).bans.length cp) v0 95 2 (r.offs l).bans.length (encL (r.offs l).bans)
 t:MapC Int W gt tkn
 f:∃Ag cg,BlkC W gf 121 [vC,vD,vT,.int .i64 r.limit,.int .i64 r.fall,.int .i64 r.ban,.int .i64 born,.slice Ae l.length ce,.slice Ac (courts l).length cc,.slice Ap (r.offs l).bans.length cp,.map (some gt),.slice Ag gs.length cg]∧RowC W (.slice Ag gs.length cg) v0 137 5 gs.length (encL gs)
theorem gO{W:World}{g g' t t':Nat}{l l':List Value}(h:BlkC W g t l)(h':BlkC W g' t' l')(ht:t≠t'):NeC g g':=⟨fun e=>by
 subst e;have h1:=h.h;have h2:=h'.h;unfold Blk at h1 h2;rw[h1] at h2;injection h2 with h2;injection h2 with _ h2;exact ht h2⟩
instance tyYd5:TyNe 115 137:=⟨by decide⟩
instance tyYd6:TyNe 246 137:=⟨by decide⟩
instance tyYd7:TyNe 80 137:=⟨by decide⟩
instance tyYd8:TyNe 95 137:=⟨by decide⟩
instance tyYd3:TyNe 137 80:=⟨by decide⟩
instance tyYd4:TyNe 137 95:=⟨by decide⟩
theorem fcell{W:World}{g:Nat}{a0 a1 a2 a3 a4 a5 a6 a7 a8 a9 a10 a11:Value}[h:BlkC W g 121 [a0,a1,a2,a3,a4,a5,a6,a7,a8,a9,a10,a11]]:W.cell? ⟨g,7,none⟩=some a7:=by have:=h.h.cell 7;simpa using this
theorem GrW.shut{v0 A B:World}{D g1 g2 gf gt:Nat}{vC vD vT:Value}{r:Rules}{born:Int}{l:List Event}{Ae:Option Addr}{ce:Nat}{Ac:Option Addr}{cc:Nat}{Ap:Option Addr}{cp:Nat}{tkn:List (Int×Int)}{gs:List Grant}(h:GrW v0 A g1 g2 gf gt vC vD vT r born l Ae ce Ac cc Ap cp tkn gs)(c:CtlC A B v0)(s:ShutC A B D):GrW v0 B g1 g2 gf gt vC vD vT r born l Ae ce Ac cc Ap cp tkn gs:=by
 obtain⟨h1,h2,h3,h4,h5,h6,h7,Ag,cg,h8,h9⟩:=h;exact⟨inferInstance,inferInstance,inferInstance,inferInstance,inferInstance,inferInstance,inferInstance,Ag,cg,inferInstance,inferInstance⟩
theorem GrW.step{v0 A B:World}{g1 g2 gf gt:Nat}{vC vD vT:Value}{r:Rules}{born:Int}{l:List Event}{Ae:Option Addr}{ce:Nat}{Ac:Option Addr}{cc:Nat}{Ap:Option Addr}{cp:Nat}{tkn:List (Int×Int)}{gs:List Grant}(h:GrW v0 A g1 g2 gf gt vC vD vT r born l Ae ce Ac cc Ap cp tkn gs)(c:StepC A B):GrW v0 B g1 g2 gf gt vC vD vT r born l Ae ce Ac cc Ap cp tkn gs:=by
 obtain⟨h1,h2,h3,h4,h5,h6,h7,Ag,cg,h8,h9⟩:=h;exact⟨⟨ExtC.h⟩,inferInstance,inferInstance,inferInstance,inferInstance,inferInstance,inferInstance,Ag,cg,inferInstance,inferInstance⟩
theorem GrW.ctl{v0 v1 A B:World}{g1 g2 gf gt:Nat}{vC vD vT:Value}{r:Rules}{born:Int}{l:List Event}{Ae:Option Addr}{ce:Nat}{Ac:Option Addr}{cc:Nat}{Ap:Option Addr}{cp:Nat}{tkn m':List (Int×Int)}{gs:List Grant}(h:GrW v0 A g1 g2 gf gt vC vD vT r born l Ae ce Ac cc Ap cp tkn gs)(c:CtlC A B v1)[hm:MapC Int v1 gt m'][hx:ExtC v0 v1]:GrW v0 B g1 g2 gf gt vC vD vT r born l Ae ce Ac cc Ap cp tkn gs:=by
 obtain⟨h1,h2,h3,h4,h5,h6,h7,Ag,cg,h8,h9⟩:=h;exact⟨inferInstance,inferInstance,inferInstance,inferInstance,inferInstance,inferInstance,inferInstance,Ag,cg,inferInstance,inferInstance⟩
theorem Fl(gf gt:Nat)(vC vD vT:Value)(r:Rules)(born:Int)(l:List Event)(v0 w:World)(Ae:Option Addr)(ce:Nat)(Ac:Option Addr)(cc:Nat)(Ap:Option Addr)(cp:Nat)(tkn:List (Int×Int))(hE:Ext v0 w)(hgf:v0.heap.size≤gf)(hgt:v0.heap.size≤gt)
 [hB:BlkC w gf 121 [vC,vD,vT,.int .i64 r.limit,.int .i64 r.fall,.int .i64 r.ban,.int .i64 born,.slice Ae l.length ce,.slice Ac (courts l).length cc,.slice Ap (r.offs l).bans.length cp,.map (some gt),.slice none 0 0]][hM:MapC Int w gt tkn][hR:RowC w (.slice Ae l.length ce) v0 80 9 l.length (encL l)][hC:RowC w (.slice Ac (courts l).length cc) v0 95 2 (courts l).length (encL (courts l))][hP:RowC w (.slice Ap (r.offs l).bans.length cp) v0 95 2 (r.offs l).bans.length (encL (r.offs l).bans)]
 [hRu:RulesB v0 (.agg #[vC,vD,vT,.int .i64 r.limit,.int .i64 r.fall,.int .i64 r.ban]) r](hn:l.length≤30)(hck:r.check.2.2=0)(hev:∀x∈l,r.eventErr born x=0)(hbo:0≤born∧born≤40000):
 Calls Tryz.prog 123 #[.pointer (some ⟨gf,0,none⟩)] w (fun e W'=>e=.returned (.tuple #[])∧Ext v0 W'∧RowC W' (.slice Ae l.length ce) v0 80 9 l.length (encL l)∧RowC W' (.slice Ac (courts l).length cc) v0 95 2 (courts l).length (encL (courts l))∧RowC W' (.slice Ap (r.offs l).bans.length cp) v0 95 2 (r.offs l).bans.length (encL (r.offs l).bans)∧MapC Int W' gt tkn∧∃Ag cg,BlkC W' gf 121 [vC,vD,vT,.int .i64 r.limit,.int .i64 r.fall,.int .i64 r.ban,.int .i64 born,.slice Ae l.length ce,.slice Ac (courts l).length cc,.slice Ap (r.offs l).bans.length cp,.map (some gt),.slice Ag (r.grants born l).length cg]∧RowC W' (.slice Ag (r.grants born l).length cg) v0 137 5 (r.grants born l).length (encL (r.grants born l))):=by
 have a1:AtC v0 gf:=⟨hgf⟩;have a2:AtC v0 gt:=⟨hgt⟩;have s0:StepC v0 w:=⟨hE⟩;have hso:SysOk r.sys:=fH hck;have Hck:=Lib.hid hck;have Hev:=Lib.hid hev;clear hck hev;refine dC Tryz.func123 rfl ?_;simp only[Tryz.ntmps123,List.size_toArray,List.length_cons,List.length_nil,Nat.reduceAdd,Nat.reduceSub,Array.replicate_succ,Array.replicate_zero,List.push_toArray,List.append_toArray,List.nil_append,List.cons_append];go_wp2_with (first|(with_reducible refine aH (d:=some 1) ?_;intro V1 g1 hE1 hB1 hA1)|(with_reducible refine aG (uu:=2) ?_;intro V2 g2 hE2 hB2 hA2)|(first|(with_reducible refine aA ?_)))
 (try simp only[pS])
 refine Gw (fun x=>#[.pointer (some ⟨gf,0,none⟩),.pointer (some ⟨g1,0,none⟩),.pointer (some ⟨g2,0,none⟩),x 3,x 4,x 5,x 6,x 7,x 8,x 9,x 10,.pointer (some ⟨gf,0,none⟩),.func (.func 178) #[.pointer (some ⟨gf,0,none⟩)] #[],.pointer (some ⟨gf,0,none⟩),.func (.func 179) #[.pointer (some ⟨gf,0,none⟩)] #[],.pointer (some ⟨gf,0,none⟩),.func (.func 180) #[.pointer (some ⟨gf,0,none⟩)] #[],.pointer (some ⟨gf,0,none⟩),.func (.func 181) #[.pointer (some ⟨gf,0,none⟩)] #[],.agg #[.func (.func 178) #[.pointer (some ⟨gf,0,none⟩)] #[],.func (.func 179) #[.pointer (some ⟨gf,0,none⟩)] #[],.func (.func 180) #[.pointer (some ⟨gf,0,none⟩)] #[],.func (.func 181) #[.pointer (some ⟨gf,0,none⟩)] #[]],.pointer (some ⟨gf,0,none⟩),.pointer (some ⟨gf,0,none⟩),.pointer (some ⟨gf,7,none⟩),.slice Ae l.length ce,.int .i64 l.length,x 25,x 26,x 27,x 28,x 29,x 30,x 31,x 32,x 33,x 34,x 35,x 36,x 37,x 38,x 39,x 40,x 41,x 42,x 43,x 44,x 45,x 46,x 47,x 48,x 49,x 50,x 51,x 52,x 53,x 54,x 55,x 56,x 57,x 58,x 59,x 60,x 61,x 62,x 63,x 64,x 65,x 66,x 67,x 68,x 69,x 70,x 71,x 72,x 73,x 74,x 75,x 76,x 77,x 78,x 79,x 80,x 81,x 82,x 83,x 84,x 85,x 86,x 87,x 88,x 89,x 90,x 91,x 92,x 93,x 94,x 95,x 96,x 97,x 98,x 99,x 100,x 101,x 102,x 103,x 104,x 105,x 106,x 107,x 108,x 109,x 110,x 111,x 112,x 113,x 114,x 115,x 116,x 117,x 118,x 119,x 120,x 121,x 122,x 123,x 124]) 25 (fun n ds iv W=>∃k:Nat,k≤l.length∧n=l.length-k∧iv=.int .i64 k∧GrW v0 W g1 g2 gf gt vC vD vT r born l Ae ce Ac cc Ap cp tkn (granted r born l k)∧ds.Nodup∧(∀D∈ds,v0.heap.size≤D)∧∀D∈ds,MarkC W D) l.length rfl rfl ⟨0,by omega,rfl,rfl,⟨⟨ExtC.h⟩,inferInstance,inferInstance,inferInstance,inferInstance,inferInstance,inferInstance,none,0,inferInstance,RowC.nil⟩,by simp,by simp,by simp⟩ ?round
 case round=>
  rintro n ds x W K ⟨k,hk,hnk,hx25,hG,hnd,hdv,hdm⟩ hK;have HK:=Lib.hid hK;clear hK;by_cases lk:k<l.length
  ·obtain⟨i1,i2,i3,i4,i5,i6,i7,Ag,cg,i8,i9⟩:=hG;have hsh:=bI (Hev.out _ (List.getElem_mem lk));obtain⟨ad,rfl,hc⟩:=(i4.list (l:=l) rfl rfl rfl).elem lk;have w1:IntKind.i64.wrap ((k:Int)+1)=(k:Int)+1:=IntWalk.i64_in _ (by omega)
   simp only[hx25];obtain⟨e,hx⟩:∃e,l[k]=e:=⟨_,rfl⟩;rw[hx] at hc hsh;obtain⟨hdb,hsh⟩:=hsh;obtain⟨dy,hdy⟩:∃d,e.day=d:=⟨_,rfl⟩;rw[hdy] at hdb hsh;clear hx25;rcases hsh with ⟨⟨yc,yo⟩,m,rfl,hyr,hym⟩|⟨ti,rfl,hti⟩|⟨ti,rfl,hti⟩|⟨ti,rfl,hti⟩|⟨ti,rfl,hti⟩
   all_goals clear hdy
   ·have ic:CellsB W (ad.add (k*9)) [.int .i64 0,.int .i64 dy,.int .i64 yc,.int .i64 yo,.int .i64 0,.int .i64 0,.int .i64 0,.int .i64 0,.int .i64 m]:=⟨hc⟩;clear hc;have hyi:=Sys.right_in hyr;have iE:EndE r dy yc (r.endOf dy yc):=⟨hyi.1,rfl⟩;obtain⟨e0,he0⟩:∃e,r.endOf dy yc=e:=⟨_,rfl⟩;rw[he0] at iE;have He0:=Lib.hid he0;have hnz:∀z∈l,z.kind=2→0≤r.endOf z.day z.cls:=fun z hz hk=>vY Hck.out (Hev.out z hz) hk
    have he0n:0≤e0:=by rw[←He0.out];exact qY Hck.out ⟨hdb.1,hdb.2.1⟩ hyi.1
    clear he0;go_wp2_with (first|(with_reducible refine aG (uu:=4) ?_;intro V4 g4 hE4 hB4 hA4)|(with_reducible refine aG (uu:=5) ?_;intro V5 g5 hE5 hB5 hA5)|(first|(with_reducible refine aA ?_)))
    refine kL [6,50,51,52,53,54,55,56,57,58,59] (fun x W'=>∃g6,x 6=.pointer (some ⟨g6,0,none⟩)∧AtC v0 g6∧(∀W,NrC W g6 (.slice Ag (granted r born l k).length cg))∧BlkC W' g6 137 [.int .i64 dy,.int .i64 yc,.int .i64 yo,.int .i64 0,.int .i64 e0]∧StepC V5 W') ?h12u ?k12u
    case h12u=>
     refine aP ((.take 0 (.take 1 (.take 2 (.take 3 (.take 4 (.take 5 (.take 6 (.take 7 (.two 8 (.take 9 (.one 10 (.one 11 .nil))) 10 (.one 8 (.take 9 (.one 11 .nil))))))))))))) (fun hHd=> ?_) (hQ:=by intro _ _ _ _ _ h;exact absurd h.1 (fun e=>by cases e))
     repeat' first|((with_reducible refine aX ?_);(first|(refine tk (v:= ?_) ?_ hHd ?_;rotate_left;(·(intro W' h;have:=StepC.mk h;first|with_reducible exact aJ)))|(refine tk (v:= ?_) ?_ hHd ?_;rotate_left;(·(intro wq hSw;go_simp;(try with_reducible rfl)))));(try simp only[pS]))|((with_reducible refine bC ?_);refine aQ (by simp only[gS];rfl) ?_)|((with_reducible refine gK ?_);refine dV (by simp only[gS];rfl) (by simp only[gS];rfl) ?_ ?_)|(with_reducible refine aR ?_;intro V g _ _ _)|(with_reducible refine aI ?_;intro V _ _)|((first|with_reducible refine aN ?_);first|(rintro _ V ⟨rfl,(_:StepC _ _)⟩;refine⟨_,rfl,?_⟩))|((with_reducible refine bD ?_);clear hHd;refine aM ExtC.h (fun hHd=> ?_);(try simp only[pS]))|(with_reducible refine aF ?_)
     all_goals
      refine⟨rfl,eC ?_ ⟨_,rfl,AtC.up inferInstance,fun _=>⟨(NrC.new (W:=v0) (v:=.slice Ag (granted r born l k).length cg)).h⟩,inferInstance,⟨ExtC.h⟩⟩⟩
      simp only[Act.sets,Act.put,List.foldl_cons,List.foldl_nil,List.setIfInBounds_toArray,List.set_cons_zero,List.set_cons_succ,Act.get];rfl
    rintro x12 W12 ⟨g6,hx6,(_:AtC _ _),hnr6,(_:BlkC _ _ _ _),(_:StepC _ _)⟩;simp only[Act.sets,Act.put,List.foldl_cons,List.foldl_nil,List.setIfInBounds_toArray,List.set_cons_zero,List.set_cons_succ,hx6];simp only[Exit.then];go_wp2_with (first|(with_reducible refine aA ?_))
    obtain⟨V9,hV9⟩:∃V,V=W12:=⟨_,rfl⟩;subst hV9;obtain⟨nB,hnB⟩:∃n,r.bannedBy l dy=n:=⟨_,rfl⟩;have iB:BanE (courts l) (r.offs l).bans dy nB:=⟨hnB⟩;have hrf:=lX r born l (granted r born l k) ⟨0,dy,⟨yc,yo⟩,0,0,0,0,m⟩ ⟨yc,yo⟩;dsimp only at hrf;rw[hnB] at hrf;obtain⟨⟨ag,ae⟩,hage⟩:∃a,ageAns born dy=a:=⟨_,rfl⟩;rw[hage] at hrf;obtain⟨m0,h0⟩:∃b,decide (nB=0)=b:=⟨_,rfl⟩;obtain⟨m1,h1⟩:∃b,(!(decide ((0:Int)=1)&& !inB dy (r.daysOf ⟨0,dy,⟨yc,yo⟩,0,0,0,0,m⟩).lo (r.daysOf ⟨0,dy,⟨yc,yo⟩,0,0,0,0,m⟩).hi))=b:=⟨_,rfl⟩;obtain⟨m2,h2⟩:∃b,decide ((r.sys.at_ yc).age≤ag)=b:=⟨_,rfl⟩;obtain⟨m3,h3⟩:∃b,(!(decide (0≤(r.sys.at_ yc).needs)&& !((granted r born l k).any fun g=>decide (g.day<dy)&&decide (g.reason=0)&&decide (dy<g.end_)&&r.sys.covers g.right.cls (r.sys.at_ yc).needs)))=b:=⟨_,rfl⟩
    have hr4:r.reasonOf born l (granted r born l k) ⟨0,dy,⟨yc,yo⟩,0,0,0,0,m⟩ ⟨yc,yo⟩=firstT [(!m0,4),(!m1,5),(!m2,6),(!m3,7)] 0:=by
     rw[hrf,h0,h2,←h1,←h3];simp only[Bool.not_not]
    obtain⟨re,hre⟩:∃n,firstT [(!m0,4),(!m1,5),(!m2,6),(!m3,7)] 0=n:=⟨_,rfl⟩;rw[hre] at hr4;have Hr4:=Lib.hid hr4;have Hre:=Lib.hid hre;have H0:=Lib.hid h0;have H1:=Lib.hid h1;have H2:=Lib.hid h2;have H3:=Lib.hid h3;have Hage:=Lib.hid hage;have hgo:GrOk r.sys (granted r born l k):=⟨fun g hg=>by
     obtain⟨z,hz,hzk,hzr,_⟩:=oI hg;rw[hzr];exact(Sys.right_in (Rules.right_event (Rules.ok_of Hck.out) (Hev.out z hz) hzk)).1⟩
    have hyb:=(Sys.right_in hyr).1;simp only at hyb;clear hrf hr4 hre h0 h1 h2 h3 hage hnB;refine Ci (.exit 3) [7,8,61,62,63,64,65,66,67,68,69,70,71,72,73] (fun x W'=>BlkC W' g6 137 [.int .i64 dy,.int .i64 yc,.int .i64 yo,.int .i64 re,.int .i64 e0]∧∃V,StepC V9 V∧StoreC V W' g6) ?h3u ?k3u
    case k3u=>
     have n1:NeC gf g6:=gO (inferInstance:BlkC V9 gf 121 _) (inferInstance:BlkC V9 g6 137 _) (by decide)
     have n2:NeC g1 g6:=gO (inferInstance:BlkC V9 g1 115 _) (inferInstance:BlkC V9 g6 137 _) (by decide)
     have n3:NeC g2 g6:=gO (inferInstance:BlkC V9 g2 246 _) (inferInstance:BlkC V9 g6 137 _) (by decide)
     have n4:NeC g4 g6:=gO (inferInstance:BlkC V9 g4 80 _) (inferInstance:BlkC V9 g6 137 _) (by decide)
     have n5:NeC g5 g6:=gO (inferInstance:BlkC V9 g5 74 _) (inferInstance:BlkC V9 g6 137 _) (by decide)
     have n6:NeC g6 gf:=⟨n1.h.symm⟩;rintro x3 W13 ⟨(_:BlkC _ _ _ _),V14,(_:StepC _ _),(_:StoreC _ _ _)⟩;simp only[Act.sets,Act.put,List.foldl_cons,List.foldl_nil,List.setIfInBounds_toArray,List.set_cons_zero,List.set_cons_succ,Exit.inBlock,if_true];have hmk:∀D∈ds,MarkC W13 D:=fun D hD=>by have:=hdm D hD;infer_instance
     have hGW:GrW v0 W13 g1 g2 gf gt vC vD vT r born l (some ad) ce Ac cc Ap cp tkn (granted r born l k):=⟨⟨ExtC.h⟩,inferInstance,inferInstance,inferInstance,inferInstance,inferInstance,inferInstance,Ag,cg,inferInstance,inferInstance⟩;have m4:BlkC W13 g4 80 [.int .i64 0,.int .i64 dy,.int .i64 yc,.int .i64 yo,.int .i64 0,.int .i64 0,.int .i64 0,.int .i64 0,.int .i64 m]:=inferInstance;have m5:BlkC W13 g5 74 [.int .i64 yc,.int .i64 yo]:=inferInstance;go_wp2_with (first|(with_reducible refine aB ?_;rintro _ V15 ⟨q1,q2,rfl,hq1,hq2,hqa1,hqa2,hE15⟩)|(first|(with_reducible refine aA ?_)))
     have m6:BlkC V15 g6 137 [.int .i64 dy,.int .i64 yc,.int .i64 yo,.int .i64 re,.int .i64 (endTo r l ⟨yc,yo⟩ dy 0 e0)]:=inferInstance;refine eE (xs:=ofL 2 l) rfl enters_of1 (lI q1 q2 gf 2 (some ad) ce l) (fun _=>rfl) (fun A B h=>KeepsFrom.ofExt h) ?hStu (fun j W'=>GrW v0 W' g1 g2 gf gt vC vD vT r born l (some ad) ce Ac cc Ap cp tkn (granted r born l k)∧BlkC W' g4 80 [.int .i64 0,.int .i64 dy,.int .i64 yc,.int .i64 yo,.int .i64 0,.int .i64 0,.int .i64 0,.int .i64 0,.int .i64 m]∧BlkC W' g5 74 [.int .i64 yc,.int .i64 yo]∧BlkC W' g6 137 [.int .i64 dy,.int .i64 yc,.int .i64 yo,.int .i64 re,.int .i64 (endTo r l ⟨yc,yo⟩ dy j e0)]∧(∀D∈ds,MarkC W' D)∧BlkC W' gf 121 [vC,vD,vT,.int .i64 r.limit,.int .i64 r.fall,.int .i64 r.ban,.int .i64 born,.slice (some ad) l.length ce,.slice Ac (courts l).length cc,.slice Ap (r.offs l).bans.length cp,.map (some gt),.slice Ag (granted r born l k).length cg]) (fun _ _ _=>False) ?hIu ?hIru ?hIxu ?hIxru ?h0u ?hs0u ?hroundu ?hdoneu ?hstopu
     case hStu=>exact cL fun k X Y hc h=>h.ctl hc
     case hIu=>
      refine cL fun j X Y hc h=> ?_
      obtain⟨h1,h2,h3,h4,h5,h6⟩:=h;have k15:MapC Int V15 gt tkn:=inferInstance;have k16:ExtC v0 V15:=⟨ExtC.h⟩;exact⟨h1.ctl hc,inferInstance,inferInstance,inferInstance,fun D hD=>by have:=h5 D hD;have:=hmk D hD;have:MarkC V15 D:=inferInstance;infer_instance,inferInstance⟩
     case hIru=>
      intro j X Y h hXY;obtain⟨h1,h2,h3,h4,h5,h6⟩:=h;have j1:StepC X Y:=⟨hXY⟩;exact⟨h1.step j1,inferInstance,inferInstance,inferInstance,fun D hD=>by have:=h5 D hD;infer_instance,inferInstance⟩
     case hIxu=>exact fun _ _ _ _ _ h=>h.elim
     case hIxru=>exact fun _ _ _ _ h=>h.elim
     case h0u=>exact⟨hGW.step ⟨ExtC.h⟩,inferInstance,inferInstance,inferInstance,fun D hD=>by have:=hmk D hD;infer_instance,inferInstance⟩
     case hs0u=>exact⟨hq1.h,hq2.h,by have:=(inferInstance:BlkC V15 gf 121 _).h.cell 7;simpa using this,(inferInstance:RowC V15 (.slice (some ad) l.length ce) v0 80 9 l.length (encL l)).list rfl rfl rfl⟩
     case hroundu=>
      intro lp j hj W16 hlp hI hS;obtain⟨hGr,b4,b5,b6,hm6,k10⟩:=hI;have hGr2:=hGr;obtain⟨k1,k2,k3,k4,k5,k6,k7,Ag2,cg2,k8,k9⟩:=hGr;obtain⟨rfl,rfl⟩:Ag2=Ag∧cg2=cg:=by
       have e1:=k8.h;have e2:=k10.h;unfold Blk at e1 e2;rw[e1] at e2;injection e2 with e2
       injection e2 with e2
       have e2:=congrArg Array.toList e2;simpa using e2
      clear k10;have jp:BlkC W16 q1 115 [.pointer (some ⟨gf,0,none⟩)]:=⟨hS.p⟩;have jk:BlkC W16 q2 3 [.int .i64 2]:=⟨hS.k⟩;have hmem:(ofL 2 l)[j].2∈l∧(ofL 2 l)[j].2.kind=2:=by
       have hm:(ofL 2 l)[j].2∈(ofL 2 l).map Prod.snd:=List.mem_map.2 ⟨_,List.getElem_mem hj,rfl⟩;rw[dK] at hm;have h2:=List.mem_filter.1 hm;exact⟨h2.1,of_decide_eq_true h2.2⟩
      have hnn:=mN (r:=r) (l:=l) (y:=⟨yc,yo⟩) (day:=dy) (e:=e0) (fun z hz hk=>hnz z hz hk) he0n j (by omega)
      obtain⟨⟨i,z⟩,hx2⟩:∃x,(ofL 2 l)[j]=x:=⟨_,rfl⟩;have hst:=fun b1 b2 b3 b4=>qX r l ⟨yc,yo⟩ dy e0 hj (z:=z) (by rw[hx2]) (b1:=b1) (b2:=b2) (b3:=b3) (b4:=b4)
      rw[hx2] at hmem;have hsz:=bI (Hev.out _ hmem.1);obtain⟨ee,hee⟩:∃e,endTo r l ⟨yc,yo⟩ dy j e0=e:=⟨_,rfl⟩;rw[hee] at b6 hnn;simp only[hee] at hst;obtain⟨hzd,hsz⟩:=hsz;obtain⟨zd,hzdE⟩:∃d,z.day=d:=⟨_,rfl⟩;rw[hzdE] at hzd hsz;obtain⟨zc,rfl,hzc⟩:∃i,z=⟨2,zd,⟨0,0⟩,0,i,0,0,0⟩∧0≤i∧i<r.sys.classes.length:=by
       rcases hsz with ⟨y,m',e,_⟩|⟨t',e,_⟩|⟨t',e,h⟩|⟨t',e,_⟩|⟨t',e,_⟩
       ·have:=hmem.2;rw[e] at this;simp at this
       ·have:=hmem.2;rw[e] at this;simp at this
       ·exact⟨t',e,h⟩
       ·have:=hmem.2;rw[e] at this;simp at this
       ·have:=hmem.2;rw[e] at this;simp at this
      obtain⟨nB2,hnB2⟩:∃n,r.bannedBy l zd=n:=⟨_,rfl⟩;have iB2:BanE (courts l) (r.offs l).bans zd nB2:=⟨hnB2⟩;obtain⟨e2,he2⟩:∃n,r.endOf zd zc=n:=⟨_,rfl⟩;have iE2:EndE r zd zc e2:=⟨hzc,he2⟩;simp only[hnB2,he2] at hst;obtain⟨b1,hb1⟩:∃b,decide (ee<40001)=b:=⟨_,rfl⟩;obtain⟨b2,hb2⟩:∃b,decide (zc=yc)=b:=⟨_,rfl⟩;obtain⟨b3,hb3⟩:∃b,inB zd dy (ee-1)=b:=⟨_,rfl⟩;obtain⟨b4,hb4⟩:∃b,decide (nB2=0)=b:=⟨_,rfl⟩;have Hst:=Lib.hid (hst b1 b2 b3 b4 hb1 hb2 hb3 hb4);have hb2':(zc==yc)=b2:=hb2;have hb4':(nB2==0)=b4:=hb4;have hb3':outB dy (ee-1) [zd]= !b3:=by rw[bL,hb3]
      rw[hx2];show Code.wpIn _ _ _ _ _ (roundAct #[76,77] #[_,_] _) _
      rw[rAct2];simp only[Enc.val,List.setIfInBounds_toArray,List.set_cons_zero,List.set_cons_succ];clear hst hb2 hb3 hb4 hx2 hsz hzdE hmem hnB2 he2 hee hzc hS;refine aK (by rintro⟨_,_,h⟩;exact h) (by kernel_rfl) ?_
      go_wp2_with (first|(with_reducible refine aG (uu:=10) ?_;intro V17 g10 hE17 hB17 hA17))
      refine⟨ExtC.h,fun V18 hc18=> ?_⟩
      intros
      refine wpIn_block ?_;refine wpIn_seq ?_
      cases b1
      ·skip
       refine aK (by rintro⟨_,_,h⟩;exact h) (by kernel_rfl) ?_
       go_wp2_with (first|(with_reducible refine aA ?_))
       gi_wp2
       (try simp only[Exit.inBlock])
       have e:=Hst.out;simp only[Bool.false_and,Bool.true_and,Bool.and_false,Bool.false_eq_true,if_false] at e;refine⟨KfC.h,⟨⟨⟨ExtC.h⟩,inferInstance,inferInstance,inferInstance,inferInstance,inferInstance,inferInstance,Ag2,cg2,inferInstance,inferInstance⟩,inferInstance,inferInstance,?_,fun D hD=>by have:=hm6 D hD;have:=hmk D hD;have:MarkC V15 D:=inferInstance;infer_instance,inferInstance⟩,⟨(inferInstance:BlkC _ q1 115 _).h,(inferInstance:BlkC _ q2 3 _).h,?_,?_⟩⟩
       ·rw[e];infer_instance
       ·exact fcell
       ·exact(inferInstance:RowC _ (.slice (some ad) l.length ce) v0 80 9 l.length (encL l)).list rfl rfl rfl
      ·have w3:IntKind.i64.wrap (ee-1)=ee-1:=IntWalk.i64_in _ (by have:=of_decide_eq_true hb1;omega)
       cases b2
       ·skip
        refine aK (by rintro⟨_,_,h⟩;exact h) (by kernel_rfl) ?_
        go_wp2_with (first|(with_reducible refine aA ?_)|(with_reducible refine bA ?_))
        gi_wp2
        (try simp only[Exit.inBlock])
        have e:=Hst.out;simp only[Bool.false_and,Bool.true_and,Bool.and_false,Bool.false_eq_true,if_false] at e;refine⟨KfC.h,⟨⟨⟨ExtC.h⟩,inferInstance,inferInstance,inferInstance,inferInstance,inferInstance,inferInstance,Ag2,cg2,inferInstance,inferInstance⟩,inferInstance,inferInstance,?_,fun D hD=>by have:=hm6 D hD;have:=hmk D hD;have:MarkC V15 D:=inferInstance;infer_instance,inferInstance⟩,⟨(inferInstance:BlkC _ q1 115 _).h,(inferInstance:BlkC _ q2 3 _).h,?_,?_⟩⟩
        ·rw[e];infer_instance
        ·exact fcell
        ·exact(inferInstance:RowC _ (.slice (some ad) l.length ce) v0 80 9 l.length (encL l)).list rfl rfl rfl
       ·cases b3
        ·skip
         refine aK (by rintro⟨_,_,h⟩;exact h) (by kernel_rfl) ?_
         go_wp2_with (first|(with_reducible refine aA ?_)|(with_reducible refine bA ?_)|(with_reducible refine bH ?_)|(with_reducible refine aB ?_;first|rintro _ V ⟨rfl,(_:StepC _ _)⟩)|(with_reducible refine aD ?_;intro V g _ _ _))
         gi_wp2
         (try simp only[Exit.inBlock])
         have e:=Hst.out;simp only[Bool.false_and,Bool.true_and,Bool.and_false,Bool.false_eq_true,if_false] at e;refine⟨KfC.h,⟨⟨⟨ExtC.h⟩,inferInstance,inferInstance,inferInstance,inferInstance,inferInstance,inferInstance,Ag2,cg2,inferInstance,inferInstance⟩,inferInstance,inferInstance,?_,fun D hD=>by have:=hm6 D hD;have:=hmk D hD;have:MarkC V15 D:=inferInstance;infer_instance,inferInstance⟩,⟨(inferInstance:BlkC _ q1 115 _).h,(inferInstance:BlkC _ q2 3 _).h,?_,?_⟩⟩
         ·rw[e];infer_instance
         ·exact fcell
         ·exact(inferInstance:RowC _ (.slice (some ad) l.length ce) v0 80 9 l.length (encL l)).list rfl rfl rfl
        ·cases b4
         ·skip
          refine aK (by rintro⟨_,_,h⟩;exact h) (by kernel_rfl) ?_
          go_wp2_with (first|(with_reducible refine aA ?_)|(with_reducible refine bA ?_)|(with_reducible refine bH ?_)|(with_reducible refine aB ?_;first|rintro _ V ⟨rfl,(_:StepC _ _)⟩)|(with_reducible refine aD ?_;intro V g _ _ _))
          gi_wp2
          (try simp only[Exit.inBlock])
          have e:=Hst.out;simp only[Bool.false_and,Bool.true_and,Bool.and_false,Bool.false_eq_true,if_false] at e;refine⟨KfC.h,⟨⟨⟨ExtC.h⟩,inferInstance,inferInstance,inferInstance,inferInstance,inferInstance,inferInstance,Ag2,cg2,inferInstance,inferInstance⟩,inferInstance,inferInstance,?_,fun D hD=>by have:=hm6 D hD;have:=hmk D hD;have:MarkC V15 D:=inferInstance;infer_instance,inferInstance⟩,⟨(inferInstance:BlkC _ q1 115 _).h,(inferInstance:BlkC _ q2 3 _).h,?_,?_⟩⟩
          ·rw[e];infer_instance
          ·exact fcell
          ·exact(inferInstance:RowC _ (.slice (some ad) l.length ce) v0 80 9 l.length (encL l)).list rfl rfl rfl
         ·skip
          refine aK (by rintro⟨_,_,h⟩;exact h) (by kernel_rfl) ?_
          go_wp2_with (first|(with_reducible refine aA ?_)|(with_reducible refine bA ?_)|(with_reducible refine bH ?_)|(with_reducible refine aB ?_;first|rintro _ V ⟨rfl,(_:StepC _ _)⟩)|(with_reducible refine aD ?_;intro V g _ _ _))
          refine wpIn_cond_true (by rfl) ?_
          refine aK (by rintro⟨_,_,h⟩;exact h) (by kernel_rfl) ?_
          go_wp2_with (first|(with_reducible refine aI ?_;intro Vs hS hSB)|(first|(with_reducible refine aA ?_)|(with_reducible refine aB ?_;first|rintro _ V ⟨rfl,(_:StepC _ _)⟩)))
          (try simp only[Exit.inBlock])
          have e:=Hst.out;simp only[Bool.and_self,if_true] at e;have nq1:NeC q1 g6:=gO (inferInstance:BlkC V15 q1 115 _) (inferInstance:BlkC V15 g6 137 _) (by decide)
          have nq2:NeC q2 g6:=gO (inferInstance:BlkC V15 q2 3 _) (inferInstance:BlkC V15 g6 137 _) (by decide)
          refine⟨KfC.h,⟨⟨⟨ExtC.h⟩,inferInstance,inferInstance,inferInstance,inferInstance,inferInstance,inferInstance,Ag2,cg2,inferInstance,inferInstance⟩,inferInstance,inferInstance,?_,fun D hD=>by have:=hm6 D hD;have:=hmk D hD;have:MarkC V15 D:=inferInstance;infer_instance,inferInstance⟩,⟨(inferInstance:BlkC _ q1 115 _).h,(inferInstance:BlkC _ q2 3 _).h,?_,?_⟩⟩
          ·rw[e];exact hSB
          ·exact fcell
          ·exact(inferInstance:RowC _ (.slice (some ad) l.length ce) v0 80 9 l.length (encL l)).list rfl rfl rfl
     case hdoneu=>
      intro D W16 hD hI hkD;obtain⟨⟨k1,k2,k3,k4,k5,k6,k7,Ag2,cg2,k8,k9⟩,-,-,b6,hm6,k10⟩:=hI;obtain⟨rfl,rfl⟩:Ag2=Ag∧cg2=cg:=by
       have e1:=k8.h;have e2:=k10.h;unfold Blk at e1 e2;rw[e1] at e2;injection e2 with e2
       injection e2 with e2
       have e2:=congrArg Array.toList e2;simpa using e2
      clear k10;have jD:MarkC W16 D:=⟨hkD⟩;rw[nM] at b6;obtain⟨gs,hgs⟩:∃g,granted r born l k=g:=⟨_,rfl⟩;have hgl:gs.length≤30:=by rw[←hgs];have:=Rules.grants_len (r:=r) born l (l.take k) [];unfold granted;rw[List.length_take,List.length_nil] at this;omega
      obtain⟨ef,hef⟩:∃e,r.renewed l ⟨yc,yo⟩ dy l e0=e:=⟨_,rfl⟩;rw[hgs] at k8 k9 hnr6;rw[hef] at b6;have hgn:granted r born l (k+1)=gs++ [⟨dy,⟨yc,yo⟩,re,ef⟩]:=by
       rw[dR r born l lk,hx,if_pos (by simp),hgs]
       congr 2
       have h1:=Hr4.out;rw[hgs] at h1;unfold grantOf;simp only[Rules.rightOf,show¬((0:Int)=1) by decide,if_false]
       rw[h1,He0.out,hef]
      have Hgn:=Lib.hid hgn;have hnd2:(D::ds).Nodup:=List.nodup_cons.2 ⟨fun hm=>by have:=(Array.getElem?_eq_some_iff.1 (hmk D hm).h).1;have:=(ExtC.h:Ext W13 V15).size;omega,hnd⟩
      have hdv2:∀E∈D::ds,v0.heap.size≤E:=fun E hE=>by
       rcases List.mem_cons.1 hE with rfl|hE
       ·exact Nat.le_trans (ExtC.h:Ext v0 V15).size hD
       ·exact hdv E hE
      have hdm2:∀E∈D::ds,MarkC W16 E:=fun E hE=>by
       rcases List.mem_cons.1 hE with rfl|hE
       ·exact jD
       ·exact hm6 E hE
      clear hgn hef hgs hkD hx;go_wp2
      refine gM ?_;refine dA ((.take 0 (.take 1 (.take 2 (.take 3 (.take 5 (.two 4 (.one 6 (.one 7 (.take 8 (.take 9 (.one 10 .nil))))) 6 (.one 4 (.one 7 (.take 8 (.take 9 (.one 10 .nil)))))))))))) (fun w'=>Ext v0 w'∧Blk w' g1 115 #[.pointer (some ⟨gf,0,none⟩)]∧Blk w' g6 137 #[.int .i64 dy,.int .i64 yc,.int .i64 yo,.int .i64 re,.int .i64 ef]) ?_ (fun hHd=> ?_) (hQ:=by intro _ _ _ _ _ h;exact absurd h.1 (fun e=>by cases e))
      ·exact⟨ExtC.h,(inferInstance:BlkC _ g1 115 _).h,(inferInstance:BlkC _ g6 137 _).h⟩
      repeat' first|((with_reducible refine aX ?_);(first|(refine tk (v:= ?_) ?_ hHd ?_;rotate_left;(·(intro W' h;obtain⟨h,ha,hb⟩:=h;have:=StepC.mk h;have i6:BlkC W' g1 115 [.pointer (some ⟨gf,0,none⟩)]:=⟨ha⟩;have i7:BlkC W' g6 137 [.int .i64 dy,.int .i64 yc,.int .i64 yo,.int .i64 re,.int .i64 ef]:=⟨hb⟩;first|with_reducible exact aJ)))|(refine tk (v:= ?_) ?_ hHd ?_;rotate_left;(·(intro wq hSw;go_simp;(try with_reducible rfl)))));(try simp only[pS]))|((with_reducible refine bC ?_);refine aQ (by simp only[gS];rfl) ?_)|((with_reducible refine gK ?_);refine dV (by simp only[gS];rfl) (by simp only[gS];rfl) ?_ ?_)|(with_reducible refine aA ?_)|(with_reducible refine aI ?_;intro Vs hS hSB)|(with_reducible refine aD ?_;intro Vb g9 _ _ _)|(with_reducible refine bR ?_;intro A9 c9 Va hR hG)|((with_reducible refine bD ?_);clear hHd;refine aM ⟨ExtC.h,(inferInstance:BlkC _ g1 115 _).h,(inferInstance:BlkC _ g6 137 _).h⟩ (fun hHd=> ?_);(try simp only[pS]))|(with_reducible refine aF ?_)
      all_goals
       refine⟨rfl,?_⟩;go_wp2
       have el:(gs++ [(⟨dy,⟨yc,yo⟩,re,ef⟩:Grant)]).length=gs.length+1:=by simp
       refine HK.out (l.length-(k+1)) (D::ds) _ _ (by omega) rfl rfl ⟨k+1,lk,rfl,rfl,?_,hnd2,hdv2,fun E hE=>by have:=hdm2 E hE;infer_instance⟩
       rw[Hgn.out];refine⟨⟨ExtC.h⟩,inferInstance,inferInstance,inferInstance,inferInstance,inferInstance,inferInstance,A9,c9,?_,?_⟩
       ·rw[el];exact hSB
       ·rw[el,encL_snoc];exact(inferInstance:RowC Vs (.slice A9 (gs.length+1) c9) v0 137 5 (gs.length+1) (encL gs++ [.int .i64 dy,.int .i64 yc,.int .i64 yo,.int .i64 re,.int .i64 ef]))
     case hstopu=>exact fun _ _ _ _ _ _ h=>h.elim
    case h3u=>
     go_loopw [61] (fun iv wr=>StepC V9 wr∧∃j:Int,0≤j∧j≤4∧iv=.int .i64 j∧(1≤j→m0=true)∧(2≤j→m1=true)∧(3≤j→m2=true)∧(4≤j→m3=true)) (fun iv _=>4-(RowKit.intOf iv).toNat)
     case atStart=>exact⟨⟨ExtC.h⟩,0,by omega,by omega,rfl,by omega,by omega,by omega,by omega⟩
     case round=>
      obtain⟨_,j,hj0,hj4,rfl,hm0,hm1,hm2,hm3⟩:=hrel;have iRu:RulesC wr (.agg #[vC,vD,vT,.int .i64 r.limit,.int .i64 r.fall,.int .i64 r.ban]) r:=inferInstance;obtain rfl|rfl|rfl|rfl|rfl:j=0∨j=1∨j=2∨j=3∨j=4:=by omega
      ·skip
       have fJ:Calls Tryz.prog 178 #[.pointer (some ⟨gf,0,none⟩),.agg #[.int .i64 0,.int .i64 dy,.int .i64 yc,.int .i64 yo,.int .i64 0,.int .i64 0,.int .i64 0,.int .i64 0,.int .i64 m],.agg #[.int .i64 yc,.int .i64 yo]] wr (RB wr m0):=by rw[←H0.out];exact xE gf gt vC vD vT r.limit r.fall r.ban born 0 dy yc yo 0 0 0 0 m yc yo nB _ _ _ _ (courts l) (r.offs l).bans wr
       clear Hage
       cases m0
       ·obtain rfl:4=re:=Hre.out;clear hm0 hm1 hm2 hm3;go_wp2_with (first|(with_reducible refine cM (k:=0) ?_)|(refine Calls.mono fJ ?_;rintro _ Vc ⟨rfl,(_:StepC _ _)⟩)|(first|(with_reducible refine aA ?_)|(with_reducible refine aI ?_;intro V _ _)))
        refine⟨by first|trivial,eC ?_ ⟨inferInstance,Vc,⟨ExtC.h⟩,inferInstance⟩⟩
        simp only[Act.sets,Act.put,List.foldl_cons,List.foldl_nil,List.setIfInBounds_toArray,List.set_cons_zero,List.set_cons_succ,Act.get];rfl
       ·clear hm0 hm1 hm2 hm3;go_wp2_with (first|(with_reducible refine cM (k:=0) ?_)|(refine Calls.mono fJ ?_;rintro _ Vc ⟨rfl,(_:StepC _ _)⟩)|(first|(with_reducible refine aA ?_)))
        exact⟨⟨⟨ExtC.h⟩,0+1,by omega,by omega,rfl,by first|exact fun _=>trivial,by first|(intro h;omega),by first|(intro h;omega),by first|(intro h;omega)⟩,by simp[RowKit.intOf]⟩
      ·obtain rfl:=hm0 (by omega)
       have fJ:Calls Tryz.prog 179 #[.pointer (some ⟨gf,0,none⟩),.agg #[.int .i64 0,.int .i64 dy,.int .i64 yc,.int .i64 yo,.int .i64 0,.int .i64 0,.int .i64 0,.int .i64 0,.int .i64 m],.agg #[.int .i64 yc,.int .i64 yo]] wr (RB wr m1):=by rw[←H1.out];exact sZ gf gt vC vD vT r.limit r.fall r.ban born 0 dy yc yo 0 0 0 0 m yc yo _ _ _ _ r wr (by omega) _ rfl
       clear Hage
       cases m1
       ·obtain rfl:5=re:=Hre.out;clear hm0 hm1 hm2 hm3;go_wp2_with (first|(with_reducible refine cM (k:=1) ?_)|(refine Calls.mono fJ ?_;rintro _ Vc ⟨rfl,(_:StepC _ _)⟩)|(first|(with_reducible refine aA ?_)|(with_reducible refine aI ?_;intro V _ _)))
        refine⟨by first|trivial,eC ?_ ⟨inferInstance,Vc,⟨ExtC.h⟩,inferInstance⟩⟩
        simp only[Act.sets,Act.put,List.foldl_cons,List.foldl_nil,List.setIfInBounds_toArray,List.set_cons_zero,List.set_cons_succ,Act.get];rfl
       ·clear hm0 hm1 hm2 hm3;go_wp2_with (first|(with_reducible refine cM (k:=1) ?_)|(refine Calls.mono fJ ?_;rintro _ Vc ⟨rfl,(_:StepC _ _)⟩)|(first|(with_reducible refine aA ?_)))
        exact⟨⟨⟨ExtC.h⟩,1+1,by omega,by omega,rfl,by first|exact fun _=>trivial,by first|exact fun _=>trivial,by first|(intro h;omega),by first|(intro h;omega)⟩,by simp[RowKit.intOf]⟩
      ·(obtain rfl:=hm0 (by omega);obtain rfl:=hm1 (by omega))
       have fJ:Calls Tryz.prog 180 #[.pointer (some ⟨gf,0,none⟩),.agg #[.int .i64 0,.int .i64 dy,.int .i64 yc,.int .i64 yo,.int .i64 0,.int .i64 0,.int .i64 0,.int .i64 0,.int .i64 m],.agg #[.int .i64 yc,.int .i64 yo]] wr (RB wr m2):=by rw[←H2.out];exact Ct gf gt vC vD vT r.limit r.fall r.ban born dy yc yo 0 yc yo 0 0 0 0 m _ _ _ _ r wr hyb ag ae Hage.out
       clear Hage
       cases m2
       ·obtain rfl:6=re:=Hre.out;clear hm0 hm1 hm2 hm3;go_wp2_with (first|(with_reducible refine cM (k:=2) ?_)|(refine Calls.mono fJ ?_;rintro _ Vc ⟨rfl,(_:StepC _ _)⟩)|(first|(with_reducible refine aA ?_)|(with_reducible refine aI ?_;intro V _ _)))
        refine⟨by first|trivial,eC ?_ ⟨inferInstance,Vc,⟨ExtC.h⟩,inferInstance⟩⟩
        simp only[Act.sets,Act.put,List.foldl_cons,List.foldl_nil,List.setIfInBounds_toArray,List.set_cons_zero,List.set_cons_succ,Act.get];rfl
       ·clear hm0 hm1 hm2 hm3;go_wp2_with (first|(with_reducible refine cM (k:=2) ?_)|(refine Calls.mono fJ ?_;rintro _ Vc ⟨rfl,(_:StepC _ _)⟩)|(first|(with_reducible refine aA ?_)))
        exact⟨⟨⟨ExtC.h⟩,2+1,by omega,by omega,rfl,by first|exact fun _=>trivial,by first|exact fun _=>trivial,by first|exact fun _=>trivial,by first|(intro h;omega)⟩,by simp[RowKit.intOf]⟩
      ·(obtain rfl:=hm0 (by omega);obtain rfl:=hm1 (by omega);obtain rfl:=hm2 (by omega))
       have fJ:Calls Tryz.prog 181 #[.pointer (some ⟨gf,0,none⟩),.agg #[.int .i64 0,.int .i64 dy,.int .i64 yc,.int .i64 yo,.int .i64 0,.int .i64 0,.int .i64 0,.int .i64 0,.int .i64 m],.agg #[.int .i64 yc,.int .i64 yo]] wr (RB wr m3):=by rw[←H3.out];exact rH gf gt vC vD vT r.limit r.fall r.ban born 0 dy yc yo 0 0 0 0 m yc yo _ _ _ _ r (granted r born l k) wr hyb _ rfl
       clear Hage
       cases m3
       ·obtain rfl:7=re:=Hre.out;clear hm0 hm1 hm2 hm3;go_wp2_with (first|(with_reducible refine cM (k:=3) ?_)|(refine Calls.mono fJ ?_;rintro _ Vc ⟨rfl,(_:StepC _ _)⟩)|(first|(with_reducible refine aA ?_)|(with_reducible refine aI ?_;intro V _ _)))
        refine⟨by first|trivial,eC ?_ ⟨inferInstance,Vc,⟨ExtC.h⟩,inferInstance⟩⟩
        simp only[Act.sets,Act.put,List.foldl_cons,List.foldl_nil,List.setIfInBounds_toArray,List.set_cons_zero,List.set_cons_succ,Act.get];rfl
       ·clear hm0 hm1 hm2 hm3;go_wp2_with (first|(with_reducible refine cM (k:=3) ?_)|(refine Calls.mono fJ ?_;rintro _ Vc ⟨rfl,(_:StepC _ _)⟩)|(first|(with_reducible refine aA ?_)))
        exact⟨⟨⟨ExtC.h⟩,3+1,by omega,by omega,rfl,by first|exact fun _=>trivial,by first|exact fun _=>trivial,by first|exact fun _=>trivial,by first|exact fun _=>trivial⟩,by simp[RowKit.intOf]⟩
      ·obtain rfl:=hm0 (by omega)
       obtain rfl:=hm1 (by omega)
       obtain rfl:=hm2 (by omega)
       obtain rfl:=hm3 (by omega)
       obtain rfl:0=re:=Hre.out;clear hm0 hm1 hm2 hm3;go_wp2
       first|refine⟨by first|trivial,eC ?_ ⟨inferInstance,wr,inferInstance,⟨World.grownBy.refl _ _⟩⟩⟩
       simp only[Act.sets,Act.put,List.foldl_cons,List.foldl_nil,List.setIfInBounds_toArray,List.set_cons_zero,List.set_cons_succ,Act.get];rfl
   ·have ic:CellsB W (ad.add (k*9)) [.int .i64 1,.int .i64 dy,.int .i64 0,.int .i64 0,.int .i64 ti,.int .i64 0,.int .i64 0,.int .i64 0,.int .i64 0]:=⟨hc⟩;clear hc;obtain⟨tj,rfl⟩:∃tj:Nat,ti=(tj:Int):=⟨ti.toNat,by omega⟩
    have hj:tj<r.treaties.length:=by omega
    obtain⟨tad,ct,rfl,htn,htn2,hTC⟩:=pQ hRu.h hj;obtain⟨⟨nm,⟨yc,yo⟩,lo,hi⟩,htx⟩:∃x,r.treaties[tj]=x:=⟨_,rfl⟩;rw[htx] at hTC;have hro:r.rightOf ⟨1,dy,⟨0,0⟩,(tj:Int),0,0,0,0⟩=⟨yc,yo⟩:=by simp[Rules.rightOf,List.getD,hj,htx]
    have hyr:r.sys.rightErr ⟨yc,yo⟩=0:=by
     have:=Rules.right_event (Rules.ok_of Hck.out) (Hev.out _ (List.getElem_mem lk)) (by rw[hx];right;rfl)
     rw[hx,hro] at this;exact this
    have iT:CellsB v0 (tad.add (tj*5)) [.string nm,.int .i64 yc,.int .i64 yo,.int .i64 lo,.int .i64 hi]:=⟨hTC⟩;clear hTC htx;have hyi:=Sys.right_in hyr;have iE:EndE r dy yc (r.endOf dy yc):=⟨hyi.1,rfl⟩;obtain⟨e0,he0⟩:∃e,r.endOf dy yc=e:=⟨_,rfl⟩;rw[he0] at iE;have He0:=Lib.hid he0;have hnz:∀z∈l,z.kind=2→0≤r.endOf z.day z.cls:=fun z hz hk=>vY Hck.out (Hev.out z hz) hk
    have he0n:0≤e0:=by rw[←He0.out];exact qY Hck.out ⟨hdb.1,hdb.2.1⟩ hyi.1
    clear he0;go_wp2_with (first|(with_reducible refine aG (uu:=4) ?_;intro V4 g4 hE4 hB4 hA4)|(with_reducible refine aG (uu:=5) ?_;intro V5 g5 hE5 hB5 hA5)|(first|(with_reducible refine aA ?_)))
    refine gM ?_;refine dA ((.take 0 (.take 1 (.take 2 (.take 3 (.take 4 (.take 5 (.take 6 (.take 7 (.take 8 (.take 9 (.take 10 (.one 11 .nil))))))))))))) (fun w'=>Ext v0 w'∧Blk w' g1 115 #[.pointer (some ⟨gf,0,none⟩)]∧Blk w' g4 80 #[.int .i64 1,.int .i64 dy,.int .i64 0,.int .i64 0,.int .i64 tj,.int .i64 0,.int .i64 0,.int .i64 0,.int .i64 0]∧Blk w' gf 121 #[vC,vD,.slice (some tad) r.treaties.length ct,.int .i64 r.limit,.int .i64 r.fall,.int .i64 r.ban,.int .i64 born,.slice (some ad) l.length ce,.slice Ac (courts l).length cc,.slice Ap (r.offs l).bans.length cp,.map (some gt),.slice Ag (granted r born l k).length cg]) ?_ (fun hHd=> ?_) (hQ:=by intro _ _ _ _ _ h;exact absurd h.1 (fun e=>by cases e))
    ·exact⟨ExtC.h,(inferInstance:BlkC _ g1 115 _).h,(inferInstance:BlkC _ g4 80 _).h,(inferInstance:BlkC _ gf 121 _).h⟩
    repeat' first|((with_reducible refine aX ?_);(first|(refine tk (v:= ?_) ?_ hHd ?_;rotate_left;(·(intro W' h;obtain⟨h,ha,hb,hq⟩:=h;have:=StepC.mk h;have i6:BlkC W' g1 115 [.pointer (some ⟨gf,0,none⟩)]:=⟨ha⟩;have i7:BlkC W' g4 80 [.int .i64 1,.int .i64 dy,.int .i64 0,.int .i64 0,.int .i64 tj,.int .i64 0,.int .i64 0,.int .i64 0,.int .i64 0]:=⟨hb⟩;have i8:BlkC W' gf 121 [vC,vD,.slice (some tad) r.treaties.length ct,.int .i64 r.limit,.int .i64 r.fall,.int .i64 r.ban,.int .i64 born,.slice (some ad) l.length ce,.slice Ac (courts l).length cc,.slice Ap (r.offs l).bans.length cp,.map (some gt),.slice Ag (granted r born l k).length cg]:=⟨hq⟩;first|with_reducible exact aJ)))|(refine tk (v:= ?_) ?_ hHd ?_;rotate_left;(·(intro wq hSw;go_simp;(try with_reducible rfl)))));(try simp only[pS]))|((with_reducible refine bC ?_);refine aQ (by simp only[gS];rfl) ?_)|(with_reducible refine aI ?_;intro Vs hS hSB)|((with_reducible refine bD ?_);clear hHd;refine aM ⟨ExtC.h,(inferInstance:BlkC _ g1 115 _).h,(inferInstance:BlkC _ g4 80 _).h,(inferInstance:BlkC _ gf 121 _).h⟩ (fun hHd=> ?_);(try simp only[pS]))|(with_reducible refine aF ?_)
    refine⟨rfl,?_⟩;go_wp2
    refine kL [6,50,51,52,53,54,55,56,57,58,59] (fun x W'=>∃g6,x 6=.pointer (some ⟨g6,0,none⟩)∧AtC v0 g6∧(∀W,NrC W g6 (.slice Ag (granted r born l k).length cg))∧BlkC W' g6 137 [.int .i64 dy,.int .i64 yc,.int .i64 yo,.int .i64 0,.int .i64 e0]∧StepC Vs W') ?h12v ?k12v
    case h12v=>
     refine aP ((.take 0 (.take 1 (.take 2 (.take 3 (.take 4 (.take 5 (.take 6 (.take 7 (.two 8 (.take 9 (.one 10 (.one 11 .nil))) 10 (.one 8 (.take 9 (.one 11 .nil))))))))))))) (fun hHd=> ?_) (hQ:=by intro _ _ _ _ _ h;exact absurd h.1 (fun e=>by cases e))
     repeat' first|((with_reducible refine aX ?_);(first|(refine tk (v:= ?_) ?_ hHd ?_;rotate_left;(·(intro W' h;have:=StepC.mk h;first|with_reducible exact aJ)))|(refine tk (v:= ?_) ?_ hHd ?_;rotate_left;(·(intro wq hSw;go_simp;(try with_reducible rfl)))));(try simp only[pS]))|((with_reducible refine bC ?_);refine aQ (by simp only[gS];rfl) ?_)|((with_reducible refine gK ?_);refine dV (by simp only[gS];rfl) (by simp only[gS];rfl) ?_ ?_)|(with_reducible refine aR ?_;intro V g _ _ _)|(with_reducible refine aI ?_;intro V _ _)|((first|with_reducible refine aN ?_);first|(rintro _ V ⟨rfl,(_:StepC _ _)⟩;refine⟨_,rfl,?_⟩))|((with_reducible refine bD ?_);clear hHd;refine aM ExtC.h (fun hHd=> ?_);(try simp only[pS]))|(with_reducible refine aF ?_)
     all_goals
      refine⟨rfl,eC ?_ ⟨_,rfl,AtC.up inferInstance,fun _=>⟨(NrC.new (W:=v0) (v:=.slice Ag (granted r born l k).length cg)).h⟩,inferInstance,⟨ExtC.h⟩⟩⟩
      simp only[Act.sets,Act.put,List.foldl_cons,List.foldl_nil,List.setIfInBounds_toArray,List.set_cons_zero,List.set_cons_succ,Act.get];rfl
    rintro x12 W12 ⟨g6,hx6,(_:AtC _ _),hnr6,(_:BlkC _ _ _ _),(_:StepC _ _)⟩;simp only[Act.sets,Act.put,List.foldl_cons,List.foldl_nil,List.setIfInBounds_toArray,List.set_cons_zero,List.set_cons_succ,hx6];simp only[Exit.then];go_wp2_with (first|(with_reducible refine aA ?_))
    obtain⟨V9,hV9⟩:∃V,V=W12:=⟨_,rfl⟩;subst hV9;obtain⟨nB,hnB⟩:∃n,r.bannedBy l dy=n:=⟨_,rfl⟩;have iB:BanE (courts l) (r.offs l).bans dy nB:=⟨hnB⟩;have hrf:=lX r born l (granted r born l k) ⟨1,dy,⟨0,0⟩,(tj:Int),0,0,0,0⟩ ⟨yc,yo⟩;dsimp only at hrf;rw[hnB] at hrf;obtain⟨⟨ag,ae⟩,hage⟩:∃a,ageAns born dy=a:=⟨_,rfl⟩;rw[hage] at hrf;obtain⟨m0,h0⟩:∃b,decide (nB=0)=b:=⟨_,rfl⟩;obtain⟨m1,h1⟩:∃b,(!(decide ((1:Int)=1)&& !inB dy (r.daysOf ⟨1,dy,⟨0,0⟩,(tj:Int),0,0,0,0⟩).lo (r.daysOf ⟨1,dy,⟨0,0⟩,(tj:Int),0,0,0,0⟩).hi))=b:=⟨_,rfl⟩;obtain⟨m2,h2⟩:∃b,decide ((r.sys.at_ yc).age≤ag)=b:=⟨_,rfl⟩;obtain⟨m3,h3⟩:∃b,(!(decide (0≤(r.sys.at_ yc).needs)&& !((granted r born l k).any fun g=>decide (g.day<dy)&&decide (g.reason=0)&&decide (dy<g.end_)&&r.sys.covers g.right.cls (r.sys.at_ yc).needs)))=b:=⟨_,rfl⟩
    have hr4:r.reasonOf born l (granted r born l k) ⟨1,dy,⟨0,0⟩,(tj:Int),0,0,0,0⟩ ⟨yc,yo⟩=firstT [(!m0,4),(!m1,5),(!m2,6),(!m3,7)] 0:=by
     rw[hrf,h0,h2,←h1,←h3];simp only[Bool.not_not]
    obtain⟨re,hre⟩:∃n,firstT [(!m0,4),(!m1,5),(!m2,6),(!m3,7)] 0=n:=⟨_,rfl⟩;rw[hre] at hr4;have Hr4:=Lib.hid hr4;have Hre:=Lib.hid hre;have H0:=Lib.hid h0;have H1:=Lib.hid h1;have H2:=Lib.hid h2;have H3:=Lib.hid h3;have Hage:=Lib.hid hage;have hgo:GrOk r.sys (granted r born l k):=⟨fun g hg=>by
     obtain⟨z,hz,hzk,hzr,_⟩:=oI hg;rw[hzr];exact(Sys.right_in (Rules.right_event (Rules.ok_of Hck.out) (Hev.out z hz) hzk)).1⟩
    have hyb:=(Sys.right_in hyr).1;simp only at hyb;clear hrf hr4 hre h0 h1 h2 h3 hage hnB;refine Ci (.exit 3) [7,8,61,62,63,64,65,66,67,68,69,70,71,72,73] (fun x W'=>BlkC W' g6 137 [.int .i64 dy,.int .i64 yc,.int .i64 yo,.int .i64 re,.int .i64 e0]∧∃V,StepC V9 V∧StoreC V W' g6) ?h3v ?k3v
    case k3v=>
     have n1:NeC gf g6:=gO (inferInstance:BlkC V9 gf 121 _) (inferInstance:BlkC V9 g6 137 _) (by decide)
     have n2:NeC g1 g6:=gO (inferInstance:BlkC V9 g1 115 _) (inferInstance:BlkC V9 g6 137 _) (by decide)
     have n3:NeC g2 g6:=gO (inferInstance:BlkC V9 g2 246 _) (inferInstance:BlkC V9 g6 137 _) (by decide)
     have n4:NeC g4 g6:=gO (inferInstance:BlkC V9 g4 80 _) (inferInstance:BlkC V9 g6 137 _) (by decide)
     have n5:NeC g5 g6:=gO (inferInstance:BlkC V9 g5 74 _) (inferInstance:BlkC V9 g6 137 _) (by decide)
     have n6:NeC g6 gf:=⟨n1.h.symm⟩;rintro x3 W13 ⟨(_:BlkC _ _ _ _),V14,(_:StepC _ _),(_:StoreC _ _ _)⟩;simp only[Act.sets,Act.put,List.foldl_cons,List.foldl_nil,List.setIfInBounds_toArray,List.set_cons_zero,List.set_cons_succ,Exit.inBlock,if_true];have hmk:∀D∈ds,MarkC W13 D:=fun D hD=>by have:=hdm D hD;infer_instance
     have hGW:GrW v0 W13 g1 g2 gf gt vC vD (.slice (some tad) r.treaties.length ct) r born l (some ad) ce Ac cc Ap cp tkn (granted r born l k):=⟨⟨ExtC.h⟩,inferInstance,inferInstance,inferInstance,inferInstance,inferInstance,inferInstance,Ag,cg,inferInstance,inferInstance⟩;have m4:BlkC W13 g4 80 [.int .i64 1,.int .i64 dy,.int .i64 0,.int .i64 0,.int .i64 (tj:Int),.int .i64 0,.int .i64 0,.int .i64 0,.int .i64 0]:=inferInstance;have m5:BlkC W13 g5 74 [.int .i64 yc,.int .i64 yo]:=inferInstance;go_wp2_with (first|(with_reducible refine aB ?_;rintro _ V15 ⟨q1,q2,rfl,hq1,hq2,hqa1,hqa2,hE15⟩)|(first|(with_reducible refine aA ?_)))
     have m6:BlkC V15 g6 137 [.int .i64 dy,.int .i64 yc,.int .i64 yo,.int .i64 re,.int .i64 (endTo r l ⟨yc,yo⟩ dy 0 e0)]:=inferInstance;refine eE (xs:=ofL 2 l) rfl enters_of1 (lI q1 q2 gf 2 (some ad) ce l) (fun _=>rfl) (fun A B h=>KeepsFrom.ofExt h) ?hStv (fun j W'=>GrW v0 W' g1 g2 gf gt vC vD (.slice (some tad) r.treaties.length ct) r born l (some ad) ce Ac cc Ap cp tkn (granted r born l k)∧BlkC W' g4 80 [.int .i64 1,.int .i64 dy,.int .i64 0,.int .i64 0,.int .i64 (tj:Int),.int .i64 0,.int .i64 0,.int .i64 0,.int .i64 0]∧BlkC W' g5 74 [.int .i64 yc,.int .i64 yo]∧BlkC W' g6 137 [.int .i64 dy,.int .i64 yc,.int .i64 yo,.int .i64 re,.int .i64 (endTo r l ⟨yc,yo⟩ dy j e0)]∧(∀D∈ds,MarkC W' D)∧BlkC W' gf 121 [vC,vD,(.slice (some tad) r.treaties.length ct),.int .i64 r.limit,.int .i64 r.fall,.int .i64 r.ban,.int .i64 born,.slice (some ad) l.length ce,.slice Ac (courts l).length cc,.slice Ap (r.offs l).bans.length cp,.map (some gt),.slice Ag (granted r born l k).length cg]) (fun _ _ _=>False) ?hIv ?hIrv ?hIxv ?hIxrv ?h0v ?hs0v ?hroundv ?hdonev ?hstopv
     case hStv=>exact cL fun k X Y hc h=>h.ctl hc
     case hIv=>
      refine cL fun j X Y hc h=> ?_
      obtain⟨h1,h2,h3,h4,h5,h6⟩:=h;have k15:MapC Int V15 gt tkn:=inferInstance;have k16:ExtC v0 V15:=⟨ExtC.h⟩;exact⟨h1.ctl hc,inferInstance,inferInstance,inferInstance,fun D hD=>by have:=h5 D hD;have:=hmk D hD;have:MarkC V15 D:=inferInstance;infer_instance,inferInstance⟩
     case hIrv=>
      intro j X Y h hXY;obtain⟨h1,h2,h3,h4,h5,h6⟩:=h;have j1:StepC X Y:=⟨hXY⟩;exact⟨h1.step j1,inferInstance,inferInstance,inferInstance,fun D hD=>by have:=h5 D hD;infer_instance,inferInstance⟩
     case hIxv=>exact fun _ _ _ _ _ h=>h.elim
     case hIxrv=>exact fun _ _ _ _ h=>h.elim
     case h0v=>exact⟨hGW.step ⟨ExtC.h⟩,inferInstance,inferInstance,inferInstance,fun D hD=>by have:=hmk D hD;infer_instance,inferInstance⟩
     case hs0v=>exact⟨hq1.h,hq2.h,by have:=(inferInstance:BlkC V15 gf 121 _).h.cell 7;simpa using this,(inferInstance:RowC V15 (.slice (some ad) l.length ce) v0 80 9 l.length (encL l)).list rfl rfl rfl⟩
     case hroundv=>
      intro lp j hj W16 hlp hI hS;obtain⟨hGr,b4,b5,b6,hm6,k10⟩:=hI;have hGr2:=hGr;obtain⟨k1,k2,k3,k4,k5,k6,k7,Ag2,cg2,k8,k9⟩:=hGr;obtain⟨rfl,rfl⟩:Ag2=Ag∧cg2=cg:=by
       have e1:=k8.h;have e2:=k10.h;unfold Blk at e1 e2;rw[e1] at e2;injection e2 with e2
       injection e2 with e2
       have e2:=congrArg Array.toList e2;simpa using e2
      clear k10;have jp:BlkC W16 q1 115 [.pointer (some ⟨gf,0,none⟩)]:=⟨hS.p⟩;have jk:BlkC W16 q2 3 [.int .i64 2]:=⟨hS.k⟩;have hmem:(ofL 2 l)[j].2∈l∧(ofL 2 l)[j].2.kind=2:=by
       have hm:(ofL 2 l)[j].2∈(ofL 2 l).map Prod.snd:=List.mem_map.2 ⟨_,List.getElem_mem hj,rfl⟩;rw[dK] at hm;have h2:=List.mem_filter.1 hm;exact⟨h2.1,of_decide_eq_true h2.2⟩
      have hnn:=mN (r:=r) (l:=l) (y:=⟨yc,yo⟩) (day:=dy) (e:=e0) (fun z hz hk=>hnz z hz hk) he0n j (by omega)
      obtain⟨⟨i,z⟩,hx2⟩:∃x,(ofL 2 l)[j]=x:=⟨_,rfl⟩;have hst:=fun b1 b2 b3 b4=>qX r l ⟨yc,yo⟩ dy e0 hj (z:=z) (by rw[hx2]) (b1:=b1) (b2:=b2) (b3:=b3) (b4:=b4)
      rw[hx2] at hmem;have hsz:=bI (Hev.out _ hmem.1);obtain⟨ee,hee⟩:∃e,endTo r l ⟨yc,yo⟩ dy j e0=e:=⟨_,rfl⟩;rw[hee] at b6 hnn;simp only[hee] at hst;obtain⟨hzd,hsz⟩:=hsz;obtain⟨zd,hzdE⟩:∃d,z.day=d:=⟨_,rfl⟩;rw[hzdE] at hzd hsz;obtain⟨zc,rfl,hzc⟩:∃i,z=⟨2,zd,⟨0,0⟩,0,i,0,0,0⟩∧0≤i∧i<r.sys.classes.length:=by
       rcases hsz with ⟨y,m',e,_⟩|⟨t',e,_⟩|⟨t',e,h⟩|⟨t',e,_⟩|⟨t',e,_⟩
       ·have:=hmem.2;rw[e] at this;simp at this
       ·have:=hmem.2;rw[e] at this;simp at this
       ·exact⟨t',e,h⟩
       ·have:=hmem.2;rw[e] at this;simp at this
       ·have:=hmem.2;rw[e] at this;simp at this
      obtain⟨nB2,hnB2⟩:∃n,r.bannedBy l zd=n:=⟨_,rfl⟩;have iB2:BanE (courts l) (r.offs l).bans zd nB2:=⟨hnB2⟩;obtain⟨e2,he2⟩:∃n,r.endOf zd zc=n:=⟨_,rfl⟩;have iE2:EndE r zd zc e2:=⟨hzc,he2⟩;simp only[hnB2,he2] at hst;obtain⟨b1,hb1⟩:∃b,decide (ee<40001)=b:=⟨_,rfl⟩;obtain⟨b2,hb2⟩:∃b,decide (zc=yc)=b:=⟨_,rfl⟩;obtain⟨b3,hb3⟩:∃b,inB zd dy (ee-1)=b:=⟨_,rfl⟩;obtain⟨b4,hb4⟩:∃b,decide (nB2=0)=b:=⟨_,rfl⟩;have Hst:=Lib.hid (hst b1 b2 b3 b4 hb1 hb2 hb3 hb4);have hb2':(zc==yc)=b2:=hb2;have hb4':(nB2==0)=b4:=hb4;have hb3':outB dy (ee-1) [zd]= !b3:=by rw[bL,hb3]
      rw[hx2];show Code.wpIn _ _ _ _ _ (roundAct #[76,77] #[_,_] _) _
      rw[rAct2];simp only[Enc.val,List.setIfInBounds_toArray,List.set_cons_zero,List.set_cons_succ];clear hst hb2 hb3 hb4 hx2 hsz hzdE hmem hnB2 he2 hee hzc hS;refine aK (by rintro⟨_,_,h⟩;exact h) (by kernel_rfl) ?_
      go_wp2_with (first|(with_reducible refine aG (uu:=10) ?_;intro V17 g10 hE17 hB17 hA17))
      refine⟨ExtC.h,fun V18 hc18=> ?_⟩
      intros
      refine wpIn_block ?_;refine wpIn_seq ?_
      cases b1
      ·skip
       refine aK (by rintro⟨_,_,h⟩;exact h) (by kernel_rfl) ?_
       go_wp2_with (first|(with_reducible refine aA ?_))
       gi_wp2
       (try simp only[Exit.inBlock])
       have e:=Hst.out;simp only[Bool.false_and,Bool.true_and,Bool.and_false,Bool.false_eq_true,if_false] at e;refine⟨KfC.h,⟨⟨⟨ExtC.h⟩,inferInstance,inferInstance,inferInstance,inferInstance,inferInstance,inferInstance,Ag2,cg2,inferInstance,inferInstance⟩,inferInstance,inferInstance,?_,fun D hD=>by have:=hm6 D hD;have:=hmk D hD;have:MarkC V15 D:=inferInstance;infer_instance,inferInstance⟩,⟨(inferInstance:BlkC _ q1 115 _).h,(inferInstance:BlkC _ q2 3 _).h,?_,?_⟩⟩
       ·rw[e];infer_instance
       ·exact fcell
       ·exact(inferInstance:RowC _ (.slice (some ad) l.length ce) v0 80 9 l.length (encL l)).list rfl rfl rfl
      ·have w3:IntKind.i64.wrap (ee-1)=ee-1:=IntWalk.i64_in _ (by have:=of_decide_eq_true hb1;omega)
       cases b2
       ·skip
        refine aK (by rintro⟨_,_,h⟩;exact h) (by kernel_rfl) ?_
        go_wp2_with (first|(with_reducible refine aA ?_)|(with_reducible refine bA ?_))
        gi_wp2
        (try simp only[Exit.inBlock])
        have e:=Hst.out;simp only[Bool.false_and,Bool.true_and,Bool.and_false,Bool.false_eq_true,if_false] at e;refine⟨KfC.h,⟨⟨⟨ExtC.h⟩,inferInstance,inferInstance,inferInstance,inferInstance,inferInstance,inferInstance,Ag2,cg2,inferInstance,inferInstance⟩,inferInstance,inferInstance,?_,fun D hD=>by have:=hm6 D hD;have:=hmk D hD;have:MarkC V15 D:=inferInstance;infer_instance,inferInstance⟩,⟨(inferInstance:BlkC _ q1 115 _).h,(inferInstance:BlkC _ q2 3 _).h,?_,?_⟩⟩
        ·rw[e];infer_instance
        ·exact fcell
        ·exact(inferInstance:RowC _ (.slice (some ad) l.length ce) v0 80 9 l.length (encL l)).list rfl rfl rfl
       ·cases b3
        ·skip
         refine aK (by rintro⟨_,_,h⟩;exact h) (by kernel_rfl) ?_
         go_wp2_with (first|(with_reducible refine aA ?_)|(with_reducible refine bA ?_)|(with_reducible refine bH ?_)|(with_reducible refine aB ?_;first|rintro _ V ⟨rfl,(_:StepC _ _)⟩)|(with_reducible refine aD ?_;intro V g _ _ _))
         gi_wp2
         (try simp only[Exit.inBlock])
         have e:=Hst.out;simp only[Bool.false_and,Bool.true_and,Bool.and_false,Bool.false_eq_true,if_false] at e;refine⟨KfC.h,⟨⟨⟨ExtC.h⟩,inferInstance,inferInstance,inferInstance,inferInstance,inferInstance,inferInstance,Ag2,cg2,inferInstance,inferInstance⟩,inferInstance,inferInstance,?_,fun D hD=>by have:=hm6 D hD;have:=hmk D hD;have:MarkC V15 D:=inferInstance;infer_instance,inferInstance⟩,⟨(inferInstance:BlkC _ q1 115 _).h,(inferInstance:BlkC _ q2 3 _).h,?_,?_⟩⟩
         ·rw[e];infer_instance
         ·exact fcell
         ·exact(inferInstance:RowC _ (.slice (some ad) l.length ce) v0 80 9 l.length (encL l)).list rfl rfl rfl
        ·cases b4
         ·skip
          refine aK (by rintro⟨_,_,h⟩;exact h) (by kernel_rfl) ?_
          go_wp2_with (first|(with_reducible refine aA ?_)|(with_reducible refine bA ?_)|(with_reducible refine bH ?_)|(with_reducible refine aB ?_;first|rintro _ V ⟨rfl,(_:StepC _ _)⟩)|(with_reducible refine aD ?_;intro V g _ _ _))
          gi_wp2
          (try simp only[Exit.inBlock])
          have e:=Hst.out;simp only[Bool.false_and,Bool.true_and,Bool.and_false,Bool.false_eq_true,if_false] at e;refine⟨KfC.h,⟨⟨⟨ExtC.h⟩,inferInstance,inferInstance,inferInstance,inferInstance,inferInstance,inferInstance,Ag2,cg2,inferInstance,inferInstance⟩,inferInstance,inferInstance,?_,fun D hD=>by have:=hm6 D hD;have:=hmk D hD;have:MarkC V15 D:=inferInstance;infer_instance,inferInstance⟩,⟨(inferInstance:BlkC _ q1 115 _).h,(inferInstance:BlkC _ q2 3 _).h,?_,?_⟩⟩
          ·rw[e];infer_instance
          ·exact fcell
          ·exact(inferInstance:RowC _ (.slice (some ad) l.length ce) v0 80 9 l.length (encL l)).list rfl rfl rfl
         ·skip
          refine aK (by rintro⟨_,_,h⟩;exact h) (by kernel_rfl) ?_
          go_wp2_with (first|(with_reducible refine aA ?_)|(with_reducible refine bA ?_)|(with_reducible refine bH ?_)|(with_reducible refine aB ?_;first|rintro _ V ⟨rfl,(_:StepC _ _)⟩)|(with_reducible refine aD ?_;intro V g _ _ _))
          refine wpIn_cond_true (by rfl) ?_
          refine aK (by rintro⟨_,_,h⟩;exact h) (by kernel_rfl) ?_
          go_wp2_with (first|(with_reducible refine aI ?_;intro Vs hS hSB)|(first|(with_reducible refine aA ?_)|(with_reducible refine aB ?_;first|rintro _ V ⟨rfl,(_:StepC _ _)⟩)))
          (try simp only[Exit.inBlock])
          have e:=Hst.out;simp only[Bool.and_self,if_true] at e;have nq1:NeC q1 g6:=gO (inferInstance:BlkC V15 q1 115 _) (inferInstance:BlkC V15 g6 137 _) (by decide)
          have nq2:NeC q2 g6:=gO (inferInstance:BlkC V15 q2 3 _) (inferInstance:BlkC V15 g6 137 _) (by decide)
          refine⟨KfC.h,⟨⟨⟨ExtC.h⟩,inferInstance,inferInstance,inferInstance,inferInstance,inferInstance,inferInstance,Ag2,cg2,inferInstance,inferInstance⟩,inferInstance,inferInstance,?_,fun D hD=>by have:=hm6 D hD;have:=hmk D hD;have:MarkC V15 D:=inferInstance;infer_instance,inferInstance⟩,⟨(inferInstance:BlkC _ q1 115 _).h,(inferInstance:BlkC _ q2 3 _).h,?_,?_⟩⟩
          ·rw[e];exact hSB
          ·exact fcell
          ·exact(inferInstance:RowC _ (.slice (some ad) l.length ce) v0 80 9 l.length (encL l)).list rfl rfl rfl
     case hdonev=>
      intro D W16 hD hI hkD;obtain⟨⟨k1,k2,k3,k4,k5,k6,k7,Ag2,cg2,k8,k9⟩,-,-,b6,hm6,k10⟩:=hI;obtain⟨rfl,rfl⟩:Ag2=Ag∧cg2=cg:=by
       have e1:=k8.h;have e2:=k10.h;unfold Blk at e1 e2;rw[e1] at e2;injection e2 with e2
       injection e2 with e2
       have e2:=congrArg Array.toList e2;simpa using e2
      clear k10;have jD:MarkC W16 D:=⟨hkD⟩;rw[nM] at b6;obtain⟨gs,hgs⟩:∃g,granted r born l k=g:=⟨_,rfl⟩;have hgl:gs.length≤30:=by rw[←hgs];have:=Rules.grants_len (r:=r) born l (l.take k) [];unfold granted;rw[List.length_take,List.length_nil] at this;omega
      obtain⟨ef,hef⟩:∃e,r.renewed l ⟨yc,yo⟩ dy l e0=e:=⟨_,rfl⟩;rw[hgs] at k8 k9 hnr6;rw[hef] at b6;have hgn:granted r born l (k+1)=gs++ [⟨dy,⟨yc,yo⟩,re,ef⟩]:=by
       rw[dR r born l lk,hx,if_pos (by simp),hgs]
       congr 2
       have h1:=Hr4.out;rw[hgs] at h1;unfold grantOf;simp only[hro];rw[h1,He0.out,hef]
      have Hgn:=Lib.hid hgn;have hnd2:(D::ds).Nodup:=List.nodup_cons.2 ⟨fun hm=>by have:=(Array.getElem?_eq_some_iff.1 (hmk D hm).h).1;have:=(ExtC.h:Ext W13 V15).size;omega,hnd⟩
      have hdv2:∀E∈D::ds,v0.heap.size≤E:=fun E hE=>by
       rcases List.mem_cons.1 hE with rfl|hE
       ·exact Nat.le_trans (ExtC.h:Ext v0 V15).size hD
       ·exact hdv E hE
      have hdm2:∀E∈D::ds,MarkC W16 E:=fun E hE=>by
       rcases List.mem_cons.1 hE with rfl|hE
       ·exact jD
       ·exact hm6 E hE
      clear hgn hef hgs hkD hx;go_wp2
      refine gM ?_;refine dA ((.take 0 (.take 1 (.take 2 (.take 3 (.take 5 (.two 4 (.one 6 (.one 7 (.take 8 (.take 9 (.one 10 .nil))))) 6 (.one 4 (.one 7 (.take 8 (.take 9 (.one 10 .nil)))))))))))) (fun w'=>Ext v0 w'∧Blk w' g1 115 #[.pointer (some ⟨gf,0,none⟩)]∧Blk w' g6 137 #[.int .i64 dy,.int .i64 yc,.int .i64 yo,.int .i64 re,.int .i64 ef]) ?_ (fun hHd=> ?_) (hQ:=by intro _ _ _ _ _ h;exact absurd h.1 (fun e=>by cases e))
      ·exact⟨ExtC.h,(inferInstance:BlkC _ g1 115 _).h,(inferInstance:BlkC _ g6 137 _).h⟩
      repeat' first|((with_reducible refine aX ?_);(first|(refine tk (v:= ?_) ?_ hHd ?_;rotate_left;(·(intro W' h;obtain⟨h,ha,hb⟩:=h;have:=StepC.mk h;have i6:BlkC W' g1 115 [.pointer (some ⟨gf,0,none⟩)]:=⟨ha⟩;have i7:BlkC W' g6 137 [.int .i64 dy,.int .i64 yc,.int .i64 yo,.int .i64 re,.int .i64 ef]:=⟨hb⟩;first|with_reducible exact aJ)))|(refine tk (v:= ?_) ?_ hHd ?_;rotate_left;(·(intro wq hSw;go_simp;(try with_reducible rfl)))));(try simp only[pS]))|((with_reducible refine bC ?_);refine aQ (by simp only[gS];rfl) ?_)|((with_reducible refine gK ?_);refine dV (by simp only[gS];rfl) (by simp only[gS];rfl) ?_ ?_)|(with_reducible refine aA ?_)|(with_reducible refine aI ?_;intro Vs hS hSB)|(with_reducible refine aD ?_;intro Vb g9 _ _ _)|(with_reducible refine bR ?_;intro A9 c9 Va hR hG)|((with_reducible refine bD ?_);clear hHd;refine aM ⟨ExtC.h,(inferInstance:BlkC _ g1 115 _).h,(inferInstance:BlkC _ g6 137 _).h⟩ (fun hHd=> ?_);(try simp only[pS]))|(with_reducible refine aF ?_)
      all_goals
       refine⟨rfl,?_⟩;go_wp2
       have el:(gs++ [(⟨dy,⟨yc,yo⟩,re,ef⟩:Grant)]).length=gs.length+1:=by simp
       refine HK.out (l.length-(k+1)) (D::ds) _ _ (by omega) rfl rfl ⟨k+1,lk,rfl,rfl,?_,hnd2,hdv2,fun E hE=>by have:=hdm2 E hE;infer_instance⟩
       rw[Hgn.out];refine⟨⟨ExtC.h⟩,inferInstance,inferInstance,inferInstance,inferInstance,inferInstance,inferInstance,A9,c9,?_,?_⟩
       ·rw[el];exact hSB
       ·rw[el,encL_snoc];exact(inferInstance:RowC Vs (.slice A9 (gs.length+1) c9) v0 137 5 (gs.length+1) (encL gs++ [.int .i64 dy,.int .i64 yc,.int .i64 yo,.int .i64 re,.int .i64 ef]))
     case hstopv=>exact fun _ _ _ _ _ _ h=>h.elim
    case h3v=>
     go_loopw [61] (fun iv wr=>StepC V9 wr∧∃j:Int,0≤j∧j≤4∧iv=.int .i64 j∧(1≤j→m0=true)∧(2≤j→m1=true)∧(3≤j→m2=true)∧(4≤j→m3=true)) (fun iv _=>4-(RowKit.intOf iv).toNat)
     case atStart=>exact⟨⟨ExtC.h⟩,0,by omega,by omega,rfl,by omega,by omega,by omega,by omega⟩
     case round=>
      obtain⟨_,j,hj0,hj4,rfl,hm0,hm1,hm2,hm3⟩:=hrel;have iRu:RulesC wr (.agg #[vC,vD,(.slice (some tad) r.treaties.length ct),.int .i64 r.limit,.int .i64 r.fall,.int .i64 r.ban]) r:=inferInstance;obtain rfl|rfl|rfl|rfl|rfl:j=0∨j=1∨j=2∨j=3∨j=4:=by omega
      ·skip
       have fJ:Calls Tryz.prog 178 #[.pointer (some ⟨gf,0,none⟩),.agg #[.int .i64 1,.int .i64 dy,.int .i64 0,.int .i64 0,.int .i64 (tj:Int),.int .i64 0,.int .i64 0,.int .i64 0,.int .i64 0],.agg #[.int .i64 yc,.int .i64 yo]] wr (RB wr m0):=by rw[←H0.out];exact xE gf gt vC vD (.slice (some tad) r.treaties.length ct) r.limit r.fall r.ban born 1 dy 0 0 (tj:Int) 0 0 0 0 yc yo nB _ _ _ _ (courts l) (r.offs l).bans wr
       clear Hage
       cases m0
       ·obtain rfl:4=re:=Hre.out;clear hm0 hm1 hm2 hm3;go_wp2_with (first|(with_reducible refine cM (k:=0) ?_)|(refine Calls.mono fJ ?_;rintro _ Vc ⟨rfl,(_:StepC _ _)⟩)|(first|(with_reducible refine aA ?_)|(with_reducible refine aI ?_;intro V _ _)))
        refine⟨by first|trivial,eC ?_ ⟨inferInstance,Vc,⟨ExtC.h⟩,inferInstance⟩⟩
        simp only[Act.sets,Act.put,List.foldl_cons,List.foldl_nil,List.setIfInBounds_toArray,List.set_cons_zero,List.set_cons_succ,Act.get];rfl
       ·clear hm0 hm1 hm2 hm3;go_wp2_with (first|(with_reducible refine cM (k:=0) ?_)|(refine Calls.mono fJ ?_;rintro _ Vc ⟨rfl,(_:StepC _ _)⟩)|(first|(with_reducible refine aA ?_)))
        exact⟨⟨⟨ExtC.h⟩,0+1,by omega,by omega,rfl,by first|exact fun _=>trivial,by first|(intro h;omega),by first|(intro h;omega),by first|(intro h;omega)⟩,by simp[RowKit.intOf]⟩
      ·obtain rfl:=hm0 (by omega)
       have fJ:Calls Tryz.prog 179 #[.pointer (some ⟨gf,0,none⟩),.agg #[.int .i64 1,.int .i64 dy,.int .i64 0,.int .i64 0,.int .i64 (tj:Int),.int .i64 0,.int .i64 0,.int .i64 0,.int .i64 0],.agg #[.int .i64 yc,.int .i64 yo]] wr (RB wr m1):=by rw[←H1.out];exact sZ gf gt vC vD (.slice (some tad) r.treaties.length ct) r.limit r.fall r.ban born 1 dy 0 0 (tj:Int) 0 0 0 0 yc yo _ _ _ _ r wr (by omega) _ rfl
       clear Hage
       cases m1
       ·obtain rfl:5=re:=Hre.out;clear hm0 hm1 hm2 hm3;go_wp2_with (first|(with_reducible refine cM (k:=1) ?_)|(refine Calls.mono fJ ?_;rintro _ Vc ⟨rfl,(_:StepC _ _)⟩)|(first|(with_reducible refine aA ?_)|(with_reducible refine aI ?_;intro V _ _)))
        refine⟨by first|trivial,eC ?_ ⟨inferInstance,Vc,⟨ExtC.h⟩,inferInstance⟩⟩
        simp only[Act.sets,Act.put,List.foldl_cons,List.foldl_nil,List.setIfInBounds_toArray,List.set_cons_zero,List.set_cons_succ,Act.get];rfl
       ·clear hm0 hm1 hm2 hm3;go_wp2_with (first|(with_reducible refine cM (k:=1) ?_)|(refine Calls.mono fJ ?_;rintro _ Vc ⟨rfl,(_:StepC _ _)⟩)|(first|(with_reducible refine aA ?_)))
        exact⟨⟨⟨ExtC.h⟩,1+1,by omega,by omega,rfl,by first|exact fun _=>trivial,by first|exact fun _=>trivial,by first|(intro h;omega),by first|(intro h;omega)⟩,by simp[RowKit.intOf]⟩
      ·(obtain rfl:=hm0 (by omega);obtain rfl:=hm1 (by omega))
       have fJ:Calls Tryz.prog 180 #[.pointer (some ⟨gf,0,none⟩),.agg #[.int .i64 1,.int .i64 dy,.int .i64 0,.int .i64 0,.int .i64 (tj:Int),.int .i64 0,.int .i64 0,.int .i64 0,.int .i64 0],.agg #[.int .i64 yc,.int .i64 yo]] wr (RB wr m2):=by rw[←H2.out];exact Ct gf gt vC vD (.slice (some tad) r.treaties.length ct) r.limit r.fall r.ban born dy yc yo 1 0 0 (tj:Int) 0 0 0 0 _ _ _ _ r wr hyb ag ae Hage.out
       clear Hage
       cases m2
       ·obtain rfl:6=re:=Hre.out;clear hm0 hm1 hm2 hm3;go_wp2_with (first|(with_reducible refine cM (k:=2) ?_)|(refine Calls.mono fJ ?_;rintro _ Vc ⟨rfl,(_:StepC _ _)⟩)|(first|(with_reducible refine aA ?_)|(with_reducible refine aI ?_;intro V _ _)))
        refine⟨by first|trivial,eC ?_ ⟨inferInstance,Vc,⟨ExtC.h⟩,inferInstance⟩⟩
        simp only[Act.sets,Act.put,List.foldl_cons,List.foldl_nil,List.setIfInBounds_toArray,List.set_cons_zero,List.set_cons_succ,Act.get];rfl
       ·clear hm0 hm1 hm2 hm3;go_wp2_with (first|(with_reducible refine cM (k:=2) ?_)|(refine Calls.mono fJ ?_;rintro _ Vc ⟨rfl,(_:StepC _ _)⟩)|(first|(with_reducible refine aA ?_)))
        exact⟨⟨⟨ExtC.h⟩,2+1,by omega,by omega,rfl,by first|exact fun _=>trivial,by first|exact fun _=>trivial,by first|exact fun _=>trivial,by first|(intro h;omega)⟩,by simp[RowKit.intOf]⟩
      ·(obtain rfl:=hm0 (by omega);obtain rfl:=hm1 (by omega);obtain rfl:=hm2 (by omega))
       have fJ:Calls Tryz.prog 181 #[.pointer (some ⟨gf,0,none⟩),.agg #[.int .i64 1,.int .i64 dy,.int .i64 0,.int .i64 0,.int .i64 (tj:Int),.int .i64 0,.int .i64 0,.int .i64 0,.int .i64 0],.agg #[.int .i64 yc,.int .i64 yo]] wr (RB wr m3):=by rw[←H3.out];exact rH gf gt vC vD (.slice (some tad) r.treaties.length ct) r.limit r.fall r.ban born 1 dy 0 0 (tj:Int) 0 0 0 0 yc yo _ _ _ _ r (granted r born l k) wr hyb _ rfl
       clear Hage
       cases m3
       ·obtain rfl:7=re:=Hre.out;clear hm0 hm1 hm2 hm3;go_wp2_with (first|(with_reducible refine cM (k:=3) ?_)|(refine Calls.mono fJ ?_;rintro _ Vc ⟨rfl,(_:StepC _ _)⟩)|(first|(with_reducible refine aA ?_)|(with_reducible refine aI ?_;intro V _ _)))
        refine⟨by first|trivial,eC ?_ ⟨inferInstance,Vc,⟨ExtC.h⟩,inferInstance⟩⟩
        simp only[Act.sets,Act.put,List.foldl_cons,List.foldl_nil,List.setIfInBounds_toArray,List.set_cons_zero,List.set_cons_succ,Act.get];rfl
       ·clear hm0 hm1 hm2 hm3;go_wp2_with (first|(with_reducible refine cM (k:=3) ?_)|(refine Calls.mono fJ ?_;rintro _ Vc ⟨rfl,(_:StepC _ _)⟩)|(first|(with_reducible refine aA ?_)))
        exact⟨⟨⟨ExtC.h⟩,3+1,by omega,by omega,rfl,by first|exact fun _=>trivial,by first|exact fun _=>trivial,by first|exact fun _=>trivial,by first|exact fun _=>trivial⟩,by simp[RowKit.intOf]⟩
      ·obtain rfl:=hm0 (by omega)
       obtain rfl:=hm1 (by omega)
       obtain rfl:=hm2 (by omega)
       obtain rfl:=hm3 (by omega)
       obtain rfl:0=re:=Hre.out;clear hm0 hm1 hm2 hm3;go_wp2
       first|(refine⟨Nj ?_,inferInstance,wr,inferInstance,⟨World.grownBy.refl _ _⟩⟩)
       simp only[Act.sets,Act.put,List.foldl_cons,List.foldl_nil,List.setIfInBounds_toArray,List.set_cons_zero,List.set_cons_succ,Act.get];rfl
   ·have ic:CellsB W (ad.add (k*9)) [.int .i64 2,.int .i64 dy,.int .i64 0,.int .i64 0,.int .i64 0,.int .i64 ti,.int .i64 0,.int .i64 0,.int .i64 0]:=⟨hc⟩;clear hc
    ·have hs:granted r born l (k+1)=granted r born l k:=by rw[dR r born l lk,hx];simp
     have Hs:=Lib.hid hs;clear hs hx;go_wp2_with (first|(with_reducible refine aG (uu:=4) ?_;intro V4 g4 hE4 hB4 hA4)|(with_reducible refine aG (uu:=5) ?_;intro V5 g5 hE5 hB5 hA5)|(first|(with_reducible refine aA ?_)))
     refine HK.out (l.length-(k+1)) ds _ _ (by omega) rfl rfl ⟨k+1,lk,rfl,rfl,?_,hnd,hdv,fun D hD=>by have:=hdm D hD;infer_instance⟩
     rw[Hs.out];exact⟨⟨ExtC.h⟩,inferInstance,inferInstance,inferInstance,inferInstance,inferInstance,inferInstance,Ag,cg,inferInstance,inferInstance⟩
   ·have ic:CellsB W (ad.add (k*9)) [.int .i64 3,.int .i64 dy,.int .i64 0,.int .i64 0,.int .i64 0,.int .i64 0,.int .i64 ti,.int .i64 0,.int .i64 0]:=⟨hc⟩;clear hc
    ·have hs:granted r born l (k+1)=granted r born l k:=by rw[dR r born l lk,hx];simp
     have Hs:=Lib.hid hs;clear hs hx;go_wp2_with (first|(with_reducible refine aG (uu:=4) ?_;intro V4 g4 hE4 hB4 hA4)|(with_reducible refine aG (uu:=5) ?_;intro V5 g5 hE5 hB5 hA5)|(first|(with_reducible refine aA ?_)))
     refine HK.out (l.length-(k+1)) ds _ _ (by omega) rfl rfl ⟨k+1,lk,rfl,rfl,?_,hnd,hdv,fun D hD=>by have:=hdm D hD;infer_instance⟩
     rw[Hs.out];exact⟨⟨ExtC.h⟩,inferInstance,inferInstance,inferInstance,inferInstance,inferInstance,inferInstance,Ag,cg,inferInstance,inferInstance⟩
   ·have ic:CellsB W (ad.add (k*9)) [.int .i64 4,.int .i64 dy,.int .i64 0,.int .i64 0,.int .i64 0,.int .i64 0,.int .i64 0,.int .i64 ti,.int .i64 0]:=⟨hc⟩;clear hc
    ·have hs:granted r born l (k+1)=granted r born l k:=by rw[dR r born l lk,hx];simp
     have Hs:=Lib.hid hs;clear hs hx;go_wp2_with (first|(with_reducible refine aG (uu:=4) ?_;intro V4 g4 hE4 hB4 hA4)|(with_reducible refine aG (uu:=5) ?_;intro V5 g5 hE5 hB5 hA5)|(first|(with_reducible refine aA ?_)))
     refine HK.out (l.length-(k+1)) ds _ _ (by omega) rfl rfl ⟨k+1,lk,rfl,rfl,?_,hnd,hdv,fun D hD=>by have:=hdm D hD;infer_instance⟩
     rw[Hs.out];exact⟨⟨ExtC.h⟩,inferInstance,inferInstance,inferInstance,inferInstance,inferInstance,inferInstance,Ag,cg,inferInstance,inferInstance⟩
  ·obtain rfl:k=l.length:=by omega
   have hG2:=vJ (v0:=v0) (fun W=>GrW v0 W g1 g2 gf gt vC vD vT r born l Ae ce Ac cc Ap cp tkn (granted r born l l.length)) (fun A B D c s h=>h.shut c s) ds W hnd hdm hdv hG
   rw[oJ] at hG2;have HG:=Lib.hid hG2;simp only[hx25];clear hG2 hG hx25;go_wp2
   refine wI (l:=ds) rfl hnd hdm ?_;(first|refine bodyPost_ret (results_none rfl _ _ _) (by rfl) ?_)
   obtain⟨h1,h2,h3,h4,h5,h6,h7,Ag,cg,h8,h9⟩:=HG.out;exact⟨rfl,h1.h,h4,h5,h6,h7,Ag,cg,h8,h9⟩
end Go.Rg
end
