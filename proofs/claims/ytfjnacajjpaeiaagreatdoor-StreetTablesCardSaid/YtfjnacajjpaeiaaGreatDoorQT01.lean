/- Chapter 03: contracts of functions of the program and of the reference, and plain laws (out of SR14 LS1 KTables). No condition of its own. -/
import Derived.Test.YtfjnacajjpaeiaaGreatDoorQE02
set_option maxRecDepth 100000
set_option linter.all false
section
namespace Go.St
open Go Go.Bp Go.RowKit Go.Proofs
set_option maxHeartbeats 16000000 in
theorem Bm(tv kv rv:Value)(t:Town)(k:Task)(rows:List (List Int))(w:World)(h:aM w tv t)(hk:bA w kv k)(hr:Rows w rv rows):
 Calls Tryz.prog 29 #[tv,kv,rv] w (Pg w (t.provesAns k rows).1 (t.provesAns k rows).2):=by
 obtain⟨pv,shv,tmv,xv,rfl,hT⟩:=h;obtain⟨A1,cp1,rfl,_,hc1,_,_⟩:=hT.places;obtain⟨A2,cp2,rfl,_,hc2,_,_⟩:=hT.shows;obtain⟨A4,cp4,rfl,_,h42,_⟩:=hT.streets;obtain⟨clv,rfl,hC⟩:=hk;obtain⟨AT,cT,rfl,hT1,hT2,hT3⟩:=lY hr;unfold maxLen at hc1 hc2 h42 hT2;have hE:=Ext.refl w;by_cases hte:t.taskErr k=0
 ·have Hte:=Lib.hid hte;have hok:=Town.taskOk_of hte;have Hok:=Lib.hid hok;have hp1:=hok.ok.p1;have hp2:=hok.ok.p2;have hst:=hok.ok.st;have hsh:=hok.ok.sh;have hsb:=(Town.sets_bd hok.ok.sh);have cset:∀w,Calls Tryz.prog 42 #[.int .i64 t.shows.length] w fun e w'=>e=.returned (.int .i64 ((2^t.shows.length:Nat):Int))∧w=w':=fun w=>by have:=jP t.shows.length (by omega) w;push_cast;exact this
  obtain⟨M,hM⟩:∃M:Nat,2^t.shows.length=M:=⟨_,rfl⟩;have hM2:1≤M∧M≤64:=by
   have e:t.sets=((2^t.shows.length:Nat):Int):=by unfold Town.sets;push_cast;rfl
   rw[e,hM] at hsb;omega
  have HM:=Lib.hid hM;rw[hM] at cset;clear hte hok hsb hM;by_cases hlen:rows.length=t.places.length
  ·have q1:((rows.length:Int) !=(t.places.length:Int))=false:=by simp[hlen]
   obtain⟨adT,rfl,hrow⟩:=hT3 (by omega)
   have Hlen:=Lib.hid hlen;have hr0:0<rows.length:=by omega
   have hr16:rows.length≤16:=by omega
   clear hlen hT3 hr;go_enter Tryz.func29,Tryz.ntmps29
   go_wp2_with (first|(go_at_call 38;((with_reducible refine(fN _ _ t k _ (by exact aM.of hT) (by exact bA.of hC)).mono ?_);rintro e WcT ⟨rfl,hEcT⟩;(try replace hE:=hE.trans hEcT);(try replace hT:=hT.ext hEcT);(try replace hC:=hC.ext hEcT);(try replace hB3:=hB3.ext hEcT);(try replace hB4:=hB4.ext hEcT);(try replace hb3_0:=Ext.c hEcT hb3_0);(try replace hb3_1:=Ext.c hEcT hb3_1);(try replace hb3_2:=Ext.c hEcT hb3_2);(try replace hb3_3:=Ext.c hEcT hb3_3);(try replace hb4_0:=Ext.c hEcT hb4_0);(try replace hb4_1:=Ext.c hEcT hb4_1);(try replace hb4_2:=Ext.c hEcT hb4_2);(try replace hb4_3:=Ext.c hEcT hb4_3);(try replace hb4_4:=Ext.c hEcT hb4_4);rw[show t.taskErr k=0 from Hte.out]))|((with_reducible refine aF (d:=some 3) ?_);intro W3 g3 hE3 hB3 hg3;simp[Act.eval,Act.put,Value.cells] at hB3;(try replace hE:=hE.trans hE3);(try replace hT:=hT.ext hE3);(try replace hC:=hC.ext hE3);have hb3_0:=hB3.cell 0;have hb3_1:=hB3.cell 1;have hb3_2:=hB3.cell 2;have hb3_3:=hB3.cell 3;simp at hb3_0 hb3_1 hb3_2 hb3_3;clear hE3)|((with_reducible refine aF (d:=some 4) ?_);intro W4 g4 hE4 hB4 hg4;simp[Act.eval,Act.put,Value.cells] at hB4;(try replace hE:=hE.trans hE4);(try replace hT:=hT.ext hE4);(try replace hC:=hC.ext hE4);(try replace hB3:=hB3.ext hE4);(try replace hb3_0:=Ext.c hE4 hb3_0);(try replace hb3_1:=Ext.c hE4 hb3_1);(try replace hb3_2:=Ext.c hE4 hb3_2);(try replace hb3_3:=Ext.c hE4 hb3_3);have hb4_0:=hB4.cell 0;have hb4_1:=hB4.cell 1;have hb4_2:=hB4.cell 2;have hb4_3:=hB4.cell 3;have hb4_4:=hB4.cell 4;simp at hb4_0 hb4_1 hb4_2 hb4_3 hb4_4;clear hE4))
   obtain⟨Wk,hWk⟩:∃W,W=WcT:=⟨_,rfl⟩;subst hWk;have hrowk:∀p(hp:p<rows.length),Bl Wk (adT.add p) rows[p]:=fun p hp=>(hrow p hp).ext hE
   have HR:=Lib.hid hrowk;have HSt:=Lib.hid (show TownP Wk (.slice A1 t.places.length cp1) (.slice A2 t.shows.length cp2) tmv (.slice A4 t.streets.length cp4) t∧bG Wk clv k.closed from⟨hT,hC⟩)
   have k31:=hb3_1;have k43:=hb4_3;clear hrow hrowk hb3_0 hb3_1 hb3_2 hb3_3 hb4_0 hb4_1 hb4_2 hb4_3 hb4_4 hT hC;go_loopw [9] (fun p W=>Ext Wk W∧∃n:Nat,n≤rows.length∧p=.int .i64 n∧∀r∈rows.take n,r.length=M) (fun p _=>rows.length-(intOf p).toNat)
   case atStart=>exact⟨Ext.refl _,0,by omega,rfl,by simp⟩
   case round=>
    obtain⟨hEr,n,hn,rfl,hm⟩:=hrel;have Hm:=Lib.hid hm;have d31:=Ext.c hEr k31;clear hm;by_cases hlt:n<rows.length
    ·obtain⟨B,cB,e1,b1,b2,_⟩:=(HR.out n hlt).ext hEr;have hz:(n:Int)<(rows.length:Int):=by omega
     unfold maxLen at b2;by_cases hl:rows[n].length=M
     ·have q2:((rows[n].length:Int) !=(M:Int))=false:=by simp[hl]
      have Hm1:=Lib.hid (show∀r∈rows.take (n+1),r.length=M by
       intro r hr;rw[cI _ hlt] at hr;rcases List.mem_append.1 hr with h|h
       ·exact Hm.out r h
       ·simp at h;rw[h];exact hl)
      clear hl;go_wp2
      go_region_held3 (fun w'=>w'.cell? (adT.add n)=some (.slice B rows[n].length cB)∧w'.cell? (⟨g3,1,none⟩)=some (.slice A2 t.shows.length cp2)) (simp[*]) ((first|((go_at_call 42;refine(cset _).mono ?_;rintro e w' ⟨rfl,rfl⟩))))
      go_wp2
      go_roundw
      case rel=>exact⟨hEr.todrew,n+1,by omega,by go_num,Hm1.out⟩
      case measure=>simp[intOf];omega
     ·have q2:((rows[n].length:Int) !=(M:Int))=true:=by rw[bne_iff_ne];omega
      have Hr:=Lib.hid (Town.provesAns_3 (t:=t) (k:=k) (rows:=rows) Hte.out (.inr (List.all_eq_false.2 ⟨_,List.getElem_mem hlt,by rw[HM.out];simpa using hl⟩)))
      clear hl;go_wp2
      go_region_held3 (fun w'=>w'.cell? (adT.add n)=some (.slice B rows[n].length cB)∧w'.cell? (⟨g3,1,none⟩)=some (.slice A2 t.shows.length cp2)) (simp[*]) ((first|((go_at_call 42;refine(cset _).mono ?_;rintro e w' ⟨rfl,rfl⟩))))
      go_wp2
      go_ret2
      exact⟨by rw[Hr.out];rfl,hE.trans hEr.todrew⟩
    ·obtain rfl:n=rows.length:=by omega
     have hrl:∀p(hp:p<rows.length),rows[p].length=M:=fun p hp=>Hm.out _ (by rw[List.take_length];exact List.getElem_mem hp)
     have HRL:=Lib.hid hrl;obtain⟨Wl,hWl⟩:∃W,W=wr:=⟨_,rfl⟩;subst hWl;clear hrl Hm d31;go_wp2
     go_loopw [10,11] (fun p _ W=>W=Wl∧∃n:Nat,n≤rows.length∧p=.int .i64 n∧∀r∈rows.take n,∀x∈r,inB x (-1) 20000000=true) (fun p _ _=>rows.length-(intOf p).toNat)
     case atStart=>exact⟨rfl,0,by omega,rfl,by simp⟩
     case round=>
      obtain⟨rfl,n,hn,rfl,hm⟩:=hrel;have Hm:=Lib.hid hm;clear hm;by_cases hlt:n<rows.length
      ·obtain⟨B,cB,e1,b1,b2,b3⟩:=(HR.out n hlt).ext hEr;have hz:(n:Int)<(rows.length:Int):=by omega
       unfold maxLen at b2;obtain⟨r,hrr⟩:∃r,rows[n]=r:=⟨_,rfl⟩;have Hrr:=Lib.hid hrr;have hrM:=HRL.out n hlt;rw[hrr] at e1 b1 b3 hrM;clear hrr;go_wp2
       go_loopw [11] (fun s W=>W=wr∧∃j:Nat,j≤r.length∧s=.int .i64 j∧∀x∈r.take j,inB x (-1) 20000000=true) (fun s _=>r.length-(intOf s).toNat)
       case atStart=>exact⟨rfl,0,by omega,rfl,by simp⟩
       case round=>
        obtain⟨rfl,j,hj,rfl,hx⟩:=hrel;have Hx:=Lib.hid hx;clear hx;by_cases hjl:j<r.length
        ·obtain⟨adr,rfl,hcr⟩:=b3 (by omega)
         have e2:=hcr.i hjl;have hjz:(j:Int)<(r.length:Int):=by omega
         clear b3 hcr
         cases hin:inB r[j] (-1) 20000000 with
         |true=>
          have Hx1:=Lib.hid (lD (p:=fun n=>inB n (-1) 20000000) hjl Hx.out hin)
          go_wp2_with (first|(go_at_call 53;refine(cN _ _ _ _).mono ?_;rintro e w' ⟨rfl,rfl⟩))
          go_roundw
          case rel=>exact⟨(by first|rfl|trivial),j+1,by omega,by go_num,Hx1.out⟩
          case measure=>simp[intOf];omega
         |false=>
          have Hr:=Lib.hid (Town.provesAns_7 (t:=t) (k:=k) (rows:=rows) Hte.out Hlen.out (fun y hy=>by obtain⟨i,hi,rfl⟩:=List.mem_iff_getElem.1 hy;rw[HM.out];exact HRL.out i hi) (List.all_eq_false.2 ⟨r,by rw[←Hrr.out];exact List.getElem_mem hlt,by rw[Bool.not_eq_true,List.all_eq_false];exact⟨_,List.getElem_mem hjl,by rw[hin];simp⟩⟩))
          go_wp2_with (first|(go_at_call 53;refine(cN _ _ _ _).mono ?_;rintro e w' ⟨rfl,rfl⟩))
          go_ret2
          exact⟨by rw[Hr.out];rfl,hE.trans hEr⟩
        ·obtain rfl:j=r.length:=by omega
         have Hm1:=Lib.hid (show∀y∈rows.take (n+1),∀x∈y,inB x (-1) 20000000=true by
          intro y hy;rw[cI _ hlt] at hy;rcases List.mem_append.1 hy with h|h
          ·exact Hm.out y h
          ·simp at h;rw[h,Hrr.out];intro x hx;exact Hx.out x (by rwa [List.take_length]))
         clear b3;go_wp2
         go_roundw
         case rel=>exact⟨(by first|rfl|trivial),n+1,by omega,by go_num,Hm1.out⟩
         case measure=>simp[intOf];omega
      ·obtain rfl:n=rows.length:=by omega
       have hall:∀p(hp:p<rows.length),∀x∈rows[p],inB x (-1) 20000000=true:=fun p hp=>Hm.out _ (by rw[List.take_length];exact List.getElem_mem hp)
       have HAL:=Lib.hid hall;clear hall Hm;have hbI:=aV.1 Hok.out.b;have hsI:=aV.1 Hok.out.sh;obtain⟨bn,hbn⟩:∃n:Nat,k.b=n:=⟨k.b.toNat,by omega⟩
       obtain⟨sn,hsn⟩:∃n:Nat,k.show_=n:=⟨k.show_.toNat,by omega⟩
       have hsM:sn<M:=by
        have e:t.sets=((2^t.shows.length:Nat):Int):=by unfold Town.sets;push_cast;rfl
        rw[e,HM.out] at hsI;omega
       have hbl:bn<rows.length:=by have:=Hlen.out;omega
       obtain⟨Bb,cb,eb1,eb2,eb3,eb4⟩:=(HR.out bn hbl).ext hEr;have hbM:=HRL.out bn hbl;obtain⟨adb,rfl,hcb⟩:=eb4 (by omega)
       have e0:=hcb.i (k:=0) (by omega)
       rw[rN] at e0;have hv0:eP rows k.b 0=rows[bn][0]:=by rw[hbn];exact gJ (s:=0) hbl (by rw[hbM];omega)
       obtain⟨v0,hv0'⟩:∃v,rows[bn][0]=v:=⟨_,rfl⟩;rw[hv0'] at e0 hv0;have hB3r:=hB3.ext hEr;have hB4r:=hB4.ext hEr;have f41:=hB4r.cell 1;simp at f41;rw[hbn] at f41;unfold maxLen at eb3;have hbz:(bn:Int)<(rows.length:Int):=by omega
       have hbz2:(0:Int)<(rows[bn].length:Int):=by omega
       have hTr:=HSt.out.1.ext hEr;have hCr:=HSt.out.2.ext hEr;have Hbn:=Lib.hid hbn;have Hsn:=Lib.hid hsn;have Hv0:=Lib.hid hv0;clear hbn hsn hv0 hv0' hcb eb4 hbI hsI hbM k31 k43;go_wp2_with (first|((with_reducible refine aC (d:=some 80) (hl:=aL hB3r) ?_ ?_);rfl)|((with_reducible refine aC (d:=some 81) (hl:=bU hB4r) ?_ ?_);rfl)|(go_at_call 68;refine(rE _ _ t k _ (aM.of hTr) hst (bA.of hCr)).mono ?_;rintro e W8 ⟨A8,c8,rfl,hO8,hE8⟩))
       have hEb:=hEr.trans hE8;have hL8:=aX.steps hO8;obtain⟨l,hl⟩:∃l,t.stepsAll k=l:=⟨_,rfl⟩;have Hl:=Lib.hid hl;rw[hl] at hL8⊢;have HS2:=Lib.hid (show TownP W8 (.slice A1 t.places.length cp1) (.slice A2 t.shows.length cp2) tmv (.slice A4 t.streets.length cp4) t∧bY W8 (.slice A8 l.length c8) l∧Blk W8 g3 25 #[.slice A1 t.places.length cp1,.slice A2 t.shows.length cp2,tmv,.slice A4 t.streets.length cp4]∧Blk W8 g4 43 #[.int .i64 k.a,.int .i64 k.b,.int .i64 k.show_,.int .i64 k.time,clv] from⟨HSt.out.1.ext hEb,hL8,hB3.ext hEb,hB4.ext hEb⟩)
       have HRb:=Lib.hid (fun p(hp:p<rows.length)=>(HR.out p hp).ext hEb)
       have hlen:l.length≤80:=by rw[←hl];have:=Town.stepsTo_len (t:=t) (k:=k) t.streets.length;unfold Town.stepsAll;omega
       have hEw:=hE.trans hEb;have k42:=HS2.out.2.2.2.cell 2;simp at k42;rw[show k.show_=sn from Hsn.out] at k42
       clear hl hO8 hL8 hTr hCr hB3r hB4r f41 e0 hE8 hEr hEb;go_loopw [12,14,15,16,17,18,19] (fun pr set _ _ _ _ _ W=>Ext W8 W∧∃(n:Nat)(b:Bool),n≤sn+1∧set=.int .i64 n∧pr=.bool b∧(b=true↔v0=0∧∀x∈l,∀i:Nat,i<n→aE (i:Int) k.show_=0→t.okAt k rows i x)) (fun _ set _ _ _ _ _ _=>sn+1-(intOf set).toNat)
       case atStart=>exact⟨Ext.refl _,0,_,by omega,rfl,rfl,by simp⟩
       case round=>
        obtain⟨hEr,n,b,hn,rfl,rfl,hb⟩:=hrel;have Hb:=Lib.hid hb;have d42:=Ext.c hEr k42;clear hb;by_cases hlt:n≤sn
        ·have hz1:(n:Int)≤(sn:Int):=by omega
         by_cases hpo:aE (n:Int) (sn:Int)=0
         ·have hle:cH (n:Int) (sn:Int)=0:=by rw[dE (by omega) (by omega) (by omega)];exact hpo
          have cless:∀w,Calls Tryz.prog 44 #[.int .i64 n,.int .i64 sn] w fun e w'=>e=.returned (.int .i64 0)∧w=w':=fun w=>by rw[←hle];exact fI n sn ⟨by omega,by omega⟩ ⟨by omega,by omega⟩ w
          have Hpo:=Lib.hid hpo;clear hle hpo;go_wp2
          obtain⟨Wn,hWn⟩:∃W,W=wr:=⟨_,rfl⟩;subst hWn;go_loopw [12,15,16,17,18,19] (fun pr i _ _ _ _ W=>Ext W8 W∧∃(j:Nat)(b':Bool),j≤l.length∧i=.int .i64 j∧pr=.bool b'∧(b'=true↔b=true∧∀x∈l.take j,t.okAt k rows (n:Int) x)) (fun _ i _ _ _ _ _=>l.length-(intOf i).toNat)
          case atStart=>exact⟨hEr,0,b,by omega,rfl,rfl,by simp⟩
          case round=>
           clear hEr d42;obtain⟨hX0,j,b',hj,rfl,rfl,hb'⟩:=hrel;have Hb':=Lib.hid hb';have d42:=Ext.cell_some hX0 k42;clear hb';by_cases hjl:j<l.length
           ·obtain⟨x,hx⟩:∃x,l[j]=x:=⟨_,rfl⟩;have hxm:x∈t.stepsAll k:=by rw[show t.stepsAll k=l from Hl.out,←hx];exact List.getElem_mem hjl
            have hin:=(Town.mem_stepsAll.1 hxm).1;have hend1:=aV.1 (Hok.out.ok.ends hin).1;have hend2:=aV.1 (Hok.out.ok.ends hin).2;have hlen2:rows.length=t.places.length:=Hlen.out;obtain⟨pn,hpn⟩:∃q:Nat,(t.ends x).1=q:=⟨((t.ends x).1).toNat,by omega⟩
            obtain⟨qn,hqn⟩:∃q:Nat,(t.ends x).2=q:=⟨((t.ends x).2).toNat,by omega⟩
            have hpl:pn<rows.length:=by omega
            have hql:qn<rows.length:=by omega
            have hokd:t.okAt k rows (n:Int) x↔(0≤eP rows (qn:Int) (aE n (t.shownAt k.time x))→0≤eP rows (pn:Int) n∧eP rows (pn:Int) n≤eP rows (qn:Int) (aE n (t.shownAt k.time x))+(t.at_ x.st).metres):=by unfold Town.okAt;rw[hpn,hqn]
            have hL8:=HS2.out.2.1;obtain⟨Al,cl,e8,hl1,hl2,_,hl4⟩:=hL8;injection e8 with e81 e82 e83
            subst e81;subst e83;obtain⟨adl,rfl,hlc⟩:=hl4 (by omega)
            unfold maxLen at hl2;have htk:=pT (P:=fun x=>t.okAt k rows (n:Int) x) hjl
            rw[hx] at htk;obtain⟨st,bk⟩:=x;obtain⟨i0,rfl,hi0⟩:=fB hin;have hi0l:i0<t.streets.length:=by omega
            have hcells:=oU hlc hjl;rw[hx] at hcells;have HstL:=Lib.hid (fun W(h:Ext W8 W)=>(by have:=iM (hlc.ext h) hjl;rw[hx] at this;exact this:(loadVar 82 (adl.add (j*2))).run Tryz.prog W=.ok (.agg #[.int .i64 (i0:Int),.bool bk]) W))
            have c117:=Gi hcells (u:=.int .i64 (i0:Int)) rfl;have hst':=HS2.out.1.streets;obtain⟨A4',cp4',e4,_,_,h44⟩:=hst';injection e4 with e41 e42 e43
            subst e41;subst e43;obtain⟨ad4,rfl,hc4⟩:=h44 (by omega)
            obtain⟨sv,hs⟩:=hc4 i0 hi0l;have hso:=Hok.out.ok.at_ hi0l;have hsl:=hso.sh;have htm:=aV.1 Hok.out.time;obtain⟨tm,htme⟩:∃n:Nat,k.time=n:=⟨k.time.toNat,by omega⟩
            have html:tm<t.streets[i0].shows.length:=by omega
            have hshown:=(Hok.out.ok.shown hso Hok.out.time).2;have hsx:t.shownAt k.time ⟨(i0:Int),bk⟩=t.streets[i0].shows[tm]:=by unfold Town.shownAt;rw[Town.at_eq hi0l,htme];simp[List.getD,html]
            have hsx2:t.streets[i0].shows.getD k.time.toNat 0=t.streets[i0].shows[tm]:=by rw[htme];simp[List.getD,html]
            rw[hsx2] at hshown;rw[hsx,Town.at_eq hi0l] at hokd;have hset2:=(Town.sets_bd Hok.out.ok.sh).2;have hcIe:∃adI ci,sv=.slice (some adI) t.streets[i0].shows.length ci∧t.streets[i0].shows.length≤ci∧ci≤maxLen∧cS W8 adI (gA t.streets[i0].shows):=by
             obtain⟨Ai,ci,e1,i1,i2,i3,i4⟩:=hs.2;obtain⟨adI,e2,hcI⟩:=i4 (by omega)
             exact⟨adI,ci,by rw[e1,e2],i1,i2,hcI⟩
            obtain⟨adI,ci,rfl,hci,hci2,hcI⟩:=hcIe;unfold maxLen at hci2;have c130:=hcI.i html;have c112:=HS2.out.2.2.1.cell 3;have c128:=HS2.out.2.2.2.cell 3;simp at c112 c128;rw[htme] at c128;have hsm:=aV.1 hso.m;obtain⟨s,hss⟩:∃s,t.streets[i0]=s:=⟨_,rfl⟩;obtain⟨xs,hxs⟩:∃x,t.streets[i0].shows[tm]=x:=⟨_,rfl⟩;rw[hxs] at c130 hokd hshown;rw[hss] at hs hci hsm hokd html;have hless:cH (n:Int) xs=aE n xs:=dE (by omega) (by omega) hshown.1
            have hl0:=cM (n:Int) xs;have hlM:=lL (a:=(n:Int)) (b:=xs) (n:=t.shows.length) (by omega) (by have e:((2:Int)^t.shows.length)=((2^t.shows.length:Nat):Int):=(by push_cast;rfl);rw[e,HM.out];omega)
            obtain⟨u2,hu2⟩:∃u:Nat,aE (n:Int) xs=u:=⟨(aE (n:Int) xs).toNat,by omega⟩
            have cless2:∀w,Calls Tryz.prog 44 #[.int .i64 n,.int .i64 xs] w fun e w'=>e=.returned (.int .i64 u2)∧w=w':=fun w=>by rw[←hu2,←hless];exact fI n xs ⟨by omega,by omega⟩ ⟨hshown.1,by omega⟩ w
            have huM:u2<M:=by
             have e:((2:Int)^t.shows.length)=((2^t.shows.length:Nat):Int):=(by push_cast;rfl)
             rw[hu2,e,HM.out] at hlM;omega
            rw[hu2] at hokd;obtain⟨Bq,cq,q1',q2',q3',q4'⟩:=HRb.out qn hql;obtain⟨Bp,cp',p1',p2',p3',p4'⟩:=HRb.out pn hpl;have hqM:=HRL.out qn hql;have hpM:=HRL.out pn hpl;obtain⟨adq,rfl,hcq⟩:=q4' (by rw[hqM];omega)
            obtain⟨adp,rfl,hcp⟩:=p4' (by rw[hpM];omega)
            have hnM:n<M:=by omega
            have c133:=hcq.i (k:=u2) (by rw[hqM];exact huM)
            have c143:=hcp.i (k:=n) (by rw[hpM];exact hnM)
            rw[gJ hql (by rw[hqM];exact huM),gJ hpl (by rw[hpM];exact hnM)] at hokd
            have hn0:=aV.1 (HAL.out qn hql _ (List.getElem_mem (show u2<rows[qn].length by rw[hqM];exact huM)))
            have hvp:=aV.1 (HAL.out pn hpl _ (List.getElem_mem (show n<rows[pn].length by rw[hpM];exact hnM)))
            obtain⟨n0,hn0e⟩:∃y,rows[qn][u2]'(by rw[hqM];exact huM)=y:=⟨_,rfl⟩
            obtain⟨vp,hvpe⟩:∃y,rows[pn][n]'(by rw[hpM];exact hnM)=y:=⟨_,rfl⟩
            rw[hn0e] at c133 hokd hn0;rw[hvpe] at c143 hokd hvp;rw[hqM] at q1' q2';rw[hpM] at p1' p2';unfold maxLen at q3' p3';have Hokd:=Lib.hid hokd;have Htk:=Lib.hid htk;have cends:=fun w h=>dW (.agg #[.slice A1 t.places.length cp1,.slice A2 t.shows.length cp2,tmv,.slice (some ad4) t.streets.length cp4]) t i0 bk w h hi0l
            rw[hpn,hqn] at cends;have z1:(j:Int)<(l.length:Int):=by omega
            have z2:(i0:Int)<(t.streets.length:Int):=by omega
            have z3:(tm:Int)<(s.shows.length:Int):=by omega
            have z4:(qn:Int)<(rows.length:Int):=by omega
            have z5:(pn:Int)<(rows.length:Int):=by omega
            have z6:(u2:Int)<(M:Int):=by omega
            have z7:(n:Int)<(M:Int):=by omega
            have HsA:=Lib.hid hs;clear hx hxm hin hend1 hend2 hlen2 hpn hqn hokd htk hlc hl4 hcells h44 hc4 hs hso htm htme hsx hsx2 hshown hset2 hsl hcI hxs hss hless hl0 hlM hu2 q4' p4' hqM hpM hcq hcp hn0e hvpe;go_wp2_with (go_at_call 44;refine(cless _).mono ?_;rintro e w' ⟨rfl,rfl⟩)
            have hX1:=Ext.todrew hX0;refine aR (.take 0 (.take 1 (.take 2 (.take 3 (.take 4 (.one 5 (.take 6 (.take 7 (.take 8 (.take 9 (.take 10 .nil))))))))))) (fun w'=>Ext W8 w') ?_ (fun hHd=> ?_)
            ·assumption
            repeat' first|((with_reducible refine aB ?_);(first|((with_reducible refine aB (i:=0) ?_);refine tk (v:=.agg #[.slice A1 t.places.length cp1,.slice A2 t.shows.length cp2,tmv,.slice (some ad4) t.streets.length cp4]) ?_ hHd ?_;(·exact aA (by rfl) (fun W h=>aL (HS2.out.2.2.1.ext h))))|((with_reducible refine aB (i:=4) ?_);refine tk (v:=.agg #[.int .i64 (i0:Int),.bool bk]) ?_ hHd ?_;(·exact aA (by rfl) (fun W h=>HstL.out W h)))|(refine tk (v:= ?_) ?_ hHd ?_;rotate_left;(·(intro wq hSw;(try dsimp only at hSw);go_simp;(try with_reducible rfl)))));(try simp only[pS]))|((with_reducible refine bC ?_);refine aQ (by simp only[gS];rfl) ?_)|((with_reducible refine aH (d:=some 108) ?_);((refine bD (by rfl) (cends _ (aM.of (HS2.out.1.ext hX1))) (by go_simp) ?_;rintro e W108 ⟨rfl,hE108⟩;refine⟨_,rfl,?_⟩;have hX2:=hX1.trans hE108)))|((with_reducible refine bB ?_);clear hHd;refine aJ ?_ (fun hHd=> ?_);(·assumption);(try simp only[pS]))|(with_reducible refine aG ?_)
            go_wp2
            have hX3:=Ext.todrew hX2;have hgg:=hX2.size;refine aR (.take 0 (.take 1 (.take 2 (.take 3 (.take 4 (.take 5 (.take 6 (.take 7 (.take 8 (.one 9 (.one 10 .nil))))))))))) (fun w'=>Ext W8 w') ?_ (fun hHd=> ?_)
            ·assumption
            repeat' first|((with_reducible refine aB ?_);(first|((with_reducible refine aB (i:=1) ?_);refine tk (v:=.slice (some ad4) t.streets.length cp4) ?_ hHd ?_;(·exact aA (by rfl) (rl Tryz.underlying23 c112)))|((with_reducible refine aB (i:=6) ?_);refine tk (v:=.int .i64 (i0:Int)) ?_ hHd ?_;(·exact aA (by rfl) (rl Tryz.underlying3 c117)))|((with_reducible refine aB (i:=8) ?_);refine tk (v:=.agg #[.int .i64 s.a,.int .i64 s.b,.int .i64 s.metres,.int .i64 s.lo,.int .i64 s.hi,.bool s.both,.slice (some adI) s.shows.length ci]) ?_ hHd ?_;(·exact aA (by rfl) (fun W h=>eA (HsA.out.ext h))))|(refine tk (v:= ?_) ?_ hHd ?_;rotate_left;(·(intro wq hSw;(try dsimp only at hSw);go_simp;(try with_reducible rfl)))));(try simp only[pS]))|((with_reducible refine bC ?_);refine aQ (by simp only[gS];rfl) ?_)|((with_reducible refine aH (d:=some 18) ?_);(((with_reducible refine aS (d:=some 18) sY ?_);intro W18 g18 hE18 hB18 hg18;simp[Value.cells] at hB18;have hX18:=hX3.trans hE18)))|((with_reducible refine aH (d:=none) ?_);(((with_reducible refine aK (t:=87) (e:=87) (g:=g18) (off:=0) (n:=7) (v:=.agg #[.int .i64 s.a,.int .i64 s.b,.int .i64 s.metres,.int .i64 s.lo,.int .i64 s.hi,.bool s.both,.slice (some adI) s.shows.length ci]) ?_ ?_ hB18 fT ?_ ?_ ?_ ?_);rfl;rfl;rfl;(simp[Value.cells]);(simp[Value.cells,Value.oneCell']);intro Ws hBs hgrs;simp[aI,Value.cells] at hBs;have hXs:Ext W8 Ws:=aD hX18 hgrs (Nat.le_trans hX3.size hg18))))|((with_reducible refine bB ?_);clear hHd;refine aJ ?_ (fun hHd=> ?_);(·assumption);(try simp only[pS]))|(with_reducible refine aG ?_)
            go_wp2
            have hX5:=Ext.todrew hXs;have hB5:=hBs.d;refine aR (.take 0 (.take 1 (.take 2 (.take 3 (.take 4 (.take 5 (.take 6 (.take 7 (.take 8 (.take 9 (.take 10 (.one 11 (.take 12 (.take 13 (.take 14 .nil))))))))))))))) (fun w'=>Ext W8 w'∧Blk w' g18 87 #[.int .i64 s.a,.int .i64 s.b,.int .i64 s.metres,.int .i64 s.lo,.int .i64 s.hi,.bool s.both,.slice (some adI) s.shows.length ci]) ?_ (fun hHd=> ?_)
            ·(first|exact True.intro|((try dsimp only);(repeat' apply And.intro)<;>first|assumption|(refine Ext.cell_some (Ext.todrew (Ext.refl _)) ?_;assumption)))
            repeat' first|((with_reducible refine aB ?_);(first|((with_reducible refine aB (i:=3) ?_);refine tk (v:=.slice (some adq) M cq) ?_ hHd ?_;(·exact aA (by rfl) (fun W h=>aY Tryz.underlying41 rfl (Ext.cell_some h.1 q1'))))|((with_reducible refine aB (i:=6) ?_);refine tk (v:=.slice (some adI) s.shows.length ci) ?_ hHd ?_;(·exact aA (by rfl) (fun W h=>aY Tryz.underlying41 rfl ((Blk.cell h.2 6).trans rfl))))|((with_reducible refine aB (i:=8) ?_);refine tk (v:=.int .i64 (tm:Int)) ?_ hHd ?_;(·exact aA (by rfl) (fun W h=>aY Tryz.underlying3 rfl (Ext.cell_some h.1 c128))))|((with_reducible refine aB (i:=10) ?_);refine tk (v:=.int .i64 xs) ?_ hHd ?_;(·exact aA (by rfl) (fun W h=>aY Tryz.underlying3 rfl (Ext.cell_some h.1 c130))))|((with_reducible refine aB (i:=13) ?_);refine tk (v:=.int .i64 n0) ?_ hHd ?_;(·exact aA (by rfl) (fun W h=>aY Tryz.underlying3 rfl (Ext.cell_some h.1 c133))))|(refine tk (v:= ?_) ?_ hHd ?_;rotate_left;(·(intro wq hSw;(try dsimp only at hSw);go_simp;(try with_reducible rfl)))));(try simp only[pS]))|((with_reducible refine bC ?_);refine aQ (by simp only[gS];rfl) ?_)|((with_reducible refine aH (d:=some 131) ?_);((refine bD (by rfl) (cless2 _) (by go_simp) ?_;rintro e w' ⟨rfl,rfl⟩;refine⟨_,rfl,?_⟩)))|((with_reducible refine bB ?_);clear hHd;refine aJ ?_ (fun hHd=> ?_);(·(first|exact True.intro|((try dsimp only);(repeat' apply And.intro)<;>first|assumption|(refine Ext.cell_some (Ext.todrew (Ext.refl _)) ?_;assumption))));(try simp only[pS]))|(with_reducible refine aG ?_)
            go_wp2
            clear hBs hXs hgrs;generalize Ws.drew=Wt at hX5 hB5⊢;have r140:=Ext.cell_some hX5 p1';have r143:=Ext.cell_some hX5 c143;have r155:=hB5.cell 2;simp at r155;by_cases ho:(0≤n0→0≤vp∧vp≤n0+s.metres)
            ·have hnx:b'=true↔b=true∧∀x∈l.take (j+1),t.okAt k rows (n:Int) x:=by
              rw[Hb'.out,Htk.out];constructor
              ·rintro⟨h1,h2⟩;exact⟨h1,h2,Hokd.out.2 ho⟩
              ·rintro⟨h1,h2,_⟩;exact⟨h1,h2⟩
             have Hnx:=Lib.hid hnx;clear hnx;by_cases hn00:0≤n0
             ·obtain⟨ho1,ho2⟩:=ho hn00;have y1:¬vp<0:=by omega
              have y2:¬(n0+s.metres<vp):=by omega
              have y3:IntKind.i64.wrap (n0+s.metres)=n0+s.metres:=IntWalk.i64_in _ (by omega)
              clear ho;refine wp_region_quiet_lit (by kernel_rfl) (by kernel_rfl) ?_
              repeat(any_goals(first|go_big_quiet_step (fail)|quiet_step (fail)))
              refine wpQuiet_nil ?_;intro _ hw';obtain⟨nq,hw''⟩:=hw';subst hw'';go_wp2
              go_roundw
              case rel=>exact⟨hX5.drewN nq,j+1,b',by omega,by go_num,rfl,Hnx.out⟩
              case measure=>simp[intOf];omega
             ·clear ho;refine wp_region_quiet_lit (by kernel_rfl) (by kernel_rfl) ?_
              repeat(any_goals(first|go_big_quiet_step (fail)|quiet_step (fail)))
              refine wpQuiet_nil ?_;intro _ hw';obtain⟨nq,hw''⟩:=hw';subst hw'';go_wp2
              go_roundw
              case rel=>exact⟨hX5.drewN nq,j+1,b',by omega,by go_num,rfl,Hnx.out⟩
              case measure=>simp[intOf];omega
            ·have hnx:false=true↔b=true∧∀x∈l.take (j+1),t.okAt k rows (n:Int) x:=by
              rw[Htk.out];constructor
              ·intro h;cases h
              ·rintro⟨_,_,h3⟩;exact absurd (Hokd.out.1 h3) ho
             have Hnx:=Lib.hid hnx;have hn00:0≤n0:=Classical.byContradiction fun h=>ho (fun h2=>absurd h2 h)
             have y3:IntKind.i64.wrap (n0+s.metres)=n0+s.metres:=IntWalk.i64_in _ (by omega)
             clear hnx;by_cases y1:vp<0
             ·clear ho;refine wp_region_quiet_lit (by kernel_rfl) (by kernel_rfl) ?_
              repeat(any_goals(first|go_big_quiet_step (fail)|quiet_step (fail)))
              refine wpQuiet_nil ?_;intro _ hw';obtain⟨nq,hw''⟩:=hw';subst hw'';go_wp2
              go_roundw
              case rel=>exact⟨hX5.drewN nq,j+1,false,by omega,by go_num,rfl,Hnx.out⟩
              case measure=>simp[intOf];omega
             ·have y2:n0+s.metres<vp:=Classical.byContradiction fun h=>ho (fun _=>⟨by omega,by omega⟩)
              clear ho;refine wp_region_quiet_lit (by kernel_rfl) (by kernel_rfl) ?_
              repeat(any_goals(first|go_big_quiet_step (fail)|quiet_step (fail)))
              refine wpQuiet_nil ?_;intro _ hw';obtain⟨nq,hw''⟩:=hw';subst hw'';go_wp2
              go_roundw
              case rel=>exact⟨hX5.drewN nq,j+1,false,by omega,by go_num,rfl,Hnx.out⟩
              case measure=>simp[intOf];omega
           ·obtain rfl:j=l.length:=by omega
            have hnx:b'=true↔v0=0∧∀x∈l,∀i:Nat,i<n+1→aE (i:Int) k.show_=0→t.okAt k rows i x:=by
             rw[Hb'.out,Hb.out,List.take_length];constructor
             ·rintro⟨⟨h1,h2⟩,h3⟩;refine⟨h1,fun x hx i hi hp=> ?_⟩
              by_cases e:i=n
              ·rw[e];exact h3 x hx
              ·exact h2 x hx i (by omega) hp
             ·rintro⟨h1,h2⟩;exact⟨⟨h1,fun x hx i hi hp=>h2 x hx i (by omega) hp⟩,fun x hx=>h2 x hx n (by omega) (by rw[show k.show_=sn from Hsn.out];exact Hpo.out)⟩
            have Hnx:=Lib.hid hnx;clear hnx;go_wp2
            go_roundw
            case rel=>exact⟨hX0,n+1,b',by omega,by go_num,rfl,Hnx.out⟩
            case measure=>simp[intOf];omega
         ·have hle:cH (n:Int) (sn:Int)=aE n sn:=dE (by omega) (by omega) (by omega)
          have cless:∀w,Calls Tryz.prog 44 #[.int .i64 n,.int .i64 sn] w fun e w'=>e=.returned (.int .i64 (aE n sn))∧w=w':=fun w=>by rw[←hle];exact fI n sn ⟨by omega,by omega⟩ ⟨by omega,by omega⟩ w
          have q2:(aE (n:Int) (sn:Int)==0)=false:=by simp[hpo]
          have hnx:b=true↔v0=0∧∀x∈l,∀i:Nat,i<n+1→aE (i:Int) k.show_=0→t.okAt k rows i x:=by
           rw[Hb.out];constructor
           ·rintro⟨h1,h2⟩;refine⟨h1,fun x hx i hi hp=> ?_⟩
            by_cases e:i=n
            ·rw[e,show k.show_=sn from Hsn.out] at hp;exact absurd hp hpo
            ·exact h2 x hx i (by omega) hp
           ·rintro⟨h1,h2⟩;exact⟨h1,fun x hx i hi hp=>h2 x hx i (by omega) hp⟩
          have Hnx:=Lib.hid hnx;clear hle hpo hnx;go_wp2
          obtain⟨Wn,hWn⟩:∃W,W=wr:=⟨_,rfl⟩;subst hWn;go_loopw [12,15] (fun pr i W=>Ext W8 W∧i=.int .i64 0∧pr=.bool b) (fun _ _ _=>0)
          case atStart=>exact⟨hEr,rfl,rfl⟩
          case round=>
           clear hEr d42;obtain⟨hX0,rfl,rfl⟩:=hrel;have d42:=Ext.cell_some hX0 k42;by_cases hl0:0<l.length
           ·go_wp2_with (go_at_call 44;refine(cless _).mono ?_;rintro e w' ⟨rfl,rfl⟩)
            go_roundw
            case rel=>exact⟨hX0,n+1,b,by omega,by go_num,rfl,Hnx.out⟩
            case measure=>simp[intOf];omega
           ·go_wp2
            go_roundw
            case rel=>exact⟨hX0,n+1,b,by omega,by go_num,rfl,Hnx.out⟩
            case measure=>simp[intOf];omega
        ·obtain rfl:n=sn+1:=by omega
         have q1:¬(((sn+1:Nat):Int)≤(sn:Int)):=by omega
         have Hr:=Lib.hid (Town.provesAns_0 (t:=t) (k:=k) (rows:=rows) (b:=b) Hte.out Hlen.out (fun y hy=>by obtain⟨i,hi,rfl⟩:=List.mem_iff_getElem.1 hy;rw[HM.out];exact HRL.out i hi) (fun y hy=>by obtain⟨i,hi,rfl⟩:=List.mem_iff_getElem.1 hy;exact HAL.out i hi) (by
          rw[Hb.out];unfold Town.ProvesP;rw[show t.stepsAll k=l from Hl.out,show eP rows k.b 0=v0 from Hv0.out]
          constructor
          ·rintro⟨h1,h2⟩;exact⟨h1,fun x hx i hi hp=>h2 x hx i (by rw[show k.show_=sn from Hsn.out] at hi;omega) hp⟩
          ·rintro⟨h1,h2⟩;exact⟨h1,fun x hx i hi hp=>h2 x hx i (by rw[show k.show_=sn from Hsn.out];omega) hp⟩))
         go_wp2
         go_ret2
         exact⟨by rw[Hr.out];rfl,hEw.trans hEr⟩
  ·have q1:((rows.length:Int) !=(t.places.length:Int))=true:=by rw[bne_iff_ne];omega
   have Hr:=Lib.hid (Town.provesAns_3 (t:=t) (k:=k) (rows:=rows) Hte.out (.inl hlen));clear hlen hT3 hr;go_enter Tryz.func29,Tryz.ntmps29
   go_wp2_with (first|(go_at_call 38;((with_reducible refine(fN _ _ t k _ (by exact aM.of hT) (by exact bA.of hC)).mono ?_);rintro e WcT ⟨rfl,hEcT⟩;(try replace hE:=hE.trans hEcT);(try replace hT:=hT.ext hEcT);(try replace hC:=hC.ext hEcT);(try replace hB3:=hB3.ext hEcT);(try replace hB4:=hB4.ext hEcT);(try replace hb3_0:=Ext.c hEcT hb3_0);(try replace hb3_1:=Ext.c hEcT hb3_1);(try replace hb3_2:=Ext.c hEcT hb3_2);(try replace hb3_3:=Ext.c hEcT hb3_3);(try replace hb4_0:=Ext.c hEcT hb4_0);(try replace hb4_1:=Ext.c hEcT hb4_1);(try replace hb4_2:=Ext.c hEcT hb4_2);(try replace hb4_3:=Ext.c hEcT hb4_3);(try replace hb4_4:=Ext.c hEcT hb4_4);rw[show t.taskErr k=0 from Hte.out]))|((with_reducible refine aF (d:=some 3) ?_);intro W3 g3 hE3 hB3 hg3;simp[Act.eval,Act.put,Value.cells] at hB3;(try replace hE:=hE.trans hE3);(try replace hT:=hT.ext hE3);(try replace hC:=hC.ext hE3);have hb3_0:=hB3.cell 0;have hb3_1:=hB3.cell 1;have hb3_2:=hB3.cell 2;have hb3_3:=hB3.cell 3;simp at hb3_0 hb3_1 hb3_2 hb3_3;clear hE3)|((with_reducible refine aF (d:=some 4) ?_);intro W4 g4 hE4 hB4 hg4;simp[Act.eval,Act.put,Value.cells] at hB4;(try replace hE:=hE.trans hE4);(try replace hT:=hT.ext hE4);(try replace hC:=hC.ext hE4);(try replace hB3:=hB3.ext hE4);(try replace hb3_0:=Ext.c hE4 hb3_0);(try replace hb3_1:=Ext.c hE4 hb3_1);(try replace hb3_2:=Ext.c hE4 hb3_2);(try replace hb3_3:=Ext.c hE4 hb3_3);have hb4_0:=hB4.cell 0;have hb4_1:=hB4.cell 1;have hb4_2:=hB4.cell 2;have hb4_3:=hB4.cell 3;have hb4_4:=hB4.cell 4;simp at hb4_0 hb4_1 hb4_2 hb4_3 hb4_4;clear hE4))
   go_ret2
   exact⟨by rw[Hr.out];rfl,hE⟩
 ·have q1:(t.taskErr k !=0)=true:=by simp[hte]
  have Hr:=Lib.hid (Town.provesAns_e (rows:=rows) hte);clear hte hT3 hr;go_enter Tryz.func29,Tryz.ntmps29
  go_wp2_with (first|(go_at_call 38;((with_reducible refine(fN _ _ t k _ (by exact aM.of hT) (by exact bA.of hC)).mono ?_);rintro e WcT ⟨rfl,hEcT⟩;(try replace hE:=hE.trans hEcT);(try replace hT:=hT.ext hEcT);(try replace hC:=hC.ext hEcT);(try replace hB3:=hB3.ext hEcT);(try replace hB4:=hB4.ext hEcT);(try replace hb3_0:=Ext.c hEcT hb3_0);(try replace hb3_1:=Ext.c hEcT hb3_1);(try replace hb3_2:=Ext.c hEcT hb3_2);(try replace hb3_3:=Ext.c hEcT hb3_3);(try replace hb4_0:=Ext.c hEcT hb4_0);(try replace hb4_1:=Ext.c hEcT hb4_1);(try replace hb4_2:=Ext.c hEcT hb4_2);(try replace hb4_3:=Ext.c hEcT hb4_3);(try replace hb4_4:=Ext.c hEcT hb4_4)))|((with_reducible refine aF (d:=some 3) ?_);intro W3 g3 hE3 hB3 hg3;simp[Act.eval,Act.put,Value.cells] at hB3;(try replace hE:=hE.trans hE3);(try replace hT:=hT.ext hE3);(try replace hC:=hC.ext hE3);have hb3_0:=hB3.cell 0;have hb3_1:=hB3.cell 1;have hb3_2:=hB3.cell 2;have hb3_3:=hB3.cell 3;simp at hb3_0 hb3_1 hb3_2 hb3_3;clear hE3)|((with_reducible refine aF (d:=some 4) ?_);intro W4 g4 hE4 hB4 hg4;simp[Act.eval,Act.put,Value.cells] at hB4;(try replace hE:=hE.trans hE4);(try replace hT:=hT.ext hE4);(try replace hC:=hC.ext hE4);(try replace hB3:=hB3.ext hE4);(try replace hb3_0:=Ext.c hE4 hb3_0);(try replace hb3_1:=Ext.c hE4 hb3_1);(try replace hb3_2:=Ext.c hE4 hb3_2);(try replace hb3_3:=Ext.c hE4 hb3_3);have hb4_0:=hB4.cell 0;have hb4_1:=hB4.cell 1;have hb4_2:=hB4.cell 2;have hb4_3:=hB4.cell 3;have hb4_4:=hB4.cell 4;simp at hb4_0 hb4_1 hb4_2 hb4_3 hb4_4;clear hE4))
  go_ret2
  exact⟨by rw[Hr.out];rfl,hE⟩
end Go.St
end
section
namespace Go.St
open Go Go.Bp Go.RowKit Go.Proofs
set_option maxHeartbeats 4000000 in
theorem Og(tv kv rv:Value)(t:Town)(k:Task)(rows:List (List Int))(w:World)(h:aM w tv t)(hk:bA w kv k)(hr:Rows w rv rows)(hv:Env w):Calls Tryz.prog 6 #[tv,kv,rv] w (dB w true):=by
 have hT0:=h;obtain⟨pv,sv,tmv,xv,rfl,hT⟩:=h;obtain⟨A1,cp1,rfl,_,_,_,_⟩:=hT.places;obtain⟨A2,cp2,rfl,_,_,_,_⟩:=hT.shows;obtain⟨A3,cp3,rfl,_,_,_,_⟩:=hT.times;obtain⟨A4,cp4,rfl,_,_,_⟩:=hT.streets;clear hT;have hE:=Ext.refl w;obtain⟨cv,rfl,hC⟩:=hk;obtain⟨A5,cp5,rfl,_,_,_,_⟩:=id hC;have hK:=bA.of hC;obtain⟨⟨x,z⟩,hr1⟩:∃r,t.tableAns k=r:=⟨_,rfl⟩;obtain⟨⟨p,q⟩,hr2⟩:∃r,t.provesAns k rows=r:=⟨_,rfl⟩;have HP:=Lib.hid (fun W v u(h:aM W v t)(h2:bA W u k)=>by have:=mL v u t k W h h2;rw[hr1] at this;exact this)
 have HR:=Lib.hid (fun W v u(h:aM W v t)(h2:bA W u k)=>by have:=Ds v u t k W h h2;rw[hr1] at this;exact this)
 have HQ:=Lib.hid (fun W v u r(h:aM W v t)(h2:bA W u k)(h3:Rows W r rows)=>by have:=nL v u r t k rows W h h2 h3;rw[hr2] at this;exact this)
 have HS:=Lib.hid (fun W v u r(h:aM W v t)(h2:bA W u k)(h3:Rows W r rows)=>by have:=Bm v u r t k rows W h h2 h3;rw[hr2] at this;exact this)
 have HT:=Lib.hid (show∀v u W,Rows W v x→Rows W u x→Calls Tryz.prog 27 #[v,u] W (dB W true) from fun v u W h h'=>by have:=sU v u _ _ W h h';rwa [show decide (x=x)=true by simp] at this)
 clear hr1 hr2;go_enter Tryz.func6,Tryz.ntmps6
 go_wp2_with (first|(((with_reducible refine aC (d:=some 14) (hl:=aL hB3) ?_ ?_);rfl))|(((with_reducible refine aC (d:=some 20) (hl:=aL hB3) ?_ ?_);rfl))|(((with_reducible refine aC (d:=some 35) (hl:=aL hB3) ?_ ?_);rfl))|(((with_reducible refine aC (d:=some 42) (hl:=aL hB3) ?_ ?_);rfl))|(((with_reducible refine aC (d:=some 15) (hl:=bU hB4) ?_ ?_);rfl))|(((with_reducible refine aC (d:=some 21) (hl:=bU hB4) ?_ ?_);rfl))|(((with_reducible refine aC (d:=some 36) (hl:=bU hB4) ?_ ?_);rfl))|(((with_reducible refine aC (d:=some 43) (hl:=bU hB4) ?_ ?_);rfl))|(go_at_call 25;((with_reducible refine(HP.out _ _ _ (by exact hT0) (by exact hK)).mono ?_);rintro e WcP ⟨v7,rfl,hO7,hEcP⟩;(try replace hE:=hE.trans hEcP);(try replace hT0:=hT0.ext hEcP);(try replace hK:=hK.ext hEcP);(try replace hr:=hr.ext hEcP);(try replace hB3:=hB3.ext hEcP);(try replace hB4:=hB4.ext hEcP);have hV7:=hO7.rows))|(go_at_call 26;((with_reducible refine(HR.out _ _ _ (by exact hT0) (by exact hK)).mono ?_);rintro e WcR ⟨v9,rfl,hO9,hEcR⟩;(try replace hE:=hE.trans hEcR);(try replace hT0:=hT0.ext hEcR);(try replace hK:=hK.ext hEcR);(try replace hr:=hr.ext hEcR);(try replace hV7:=hV7.ext hEcR);(try replace hB3:=hB3.ext hEcR);(try replace hB4:=hB4.ext hEcR);have hV9:=hO9.rows))|(go_at_call 27;((with_reducible refine(HT.out _ _ _ (by exact hV7) (by exact hV9)).mono ?_);rintro e WcQ ⟨rfl,hEcQ⟩;(try replace hE:=hE.trans hEcQ);(try replace hT0:=hT0.ext hEcQ);(try replace hK:=hK.ext hEcQ);(try replace hr:=hr.ext hEcQ);(try replace hB3:=hB3.ext hEcQ);(try replace hB4:=hB4.ext hEcQ)))|(go_at_call 28;((with_reducible refine(HQ.out _ _ _ _ (by exact hT0) (by exact hK) (by exact hr)).mono ?_);rintro e WcV ⟨rfl,hEcV⟩;(try replace hE:=hE.trans hEcV);(try replace hT0:=hT0.ext hEcV);(try replace hK:=hK.ext hEcV);(try replace hr:=hr.ext hEcV);(try replace hB3:=hB3.ext hEcV);(try replace hB4:=hB4.ext hEcV)))|(go_at_call 29;((with_reducible refine(HS.out _ _ _ _ (by exact hT0) (by exact hK) (by exact hr)).mono ?_);rintro e WcU ⟨rfl,hEcU⟩;(try replace hE:=hE.trans hEcU)))|(go_at_call 19;((with_reducible refine(dS _ (by exact hv.ext hE)).mono ?_);rintro e WcK ⟨rfl,hEcK⟩;(try replace hE:=hE.trans hEcK)))|((with_reducible refine aF (d:=some 3) ?_);intro W3 g3 hE3 hB3 hg3;simp[Act.eval,Act.put,Value.cells] at hB3;(try replace hE:=hE.trans hE3);(try replace hT0:=hT0.ext hE3);(try replace hK:=hK.ext hE3);(try replace hr:=hr.ext hE3);clear hE3)|((with_reducible refine aF (d:=some 4) ?_);intro W4 g4 hE4 hB4 hg4;simp[Act.eval,Act.put,Value.cells] at hB4;(try replace hE:=hE.trans hE4);(try replace hT0:=hT0.ext hE4);(try replace hK:=hK.ext hE4);(try replace hr:=hr.ext hE4);(try replace hB3:=hB3.ext hE4);clear hE4))
 go_ret
 exact⟨rfl,hE⟩
end Go.St
end
section
namespace Go.Proofs.YtfjnacajjpaeiaaGreatDoor
open Go Go.Bp Go.St Go.RowKit Go.Proofs Go.ChangeShapes Go.WideShapes Go.ChangeAt
theorem ip6:(Rows.streetTablesRow.inPlace==Tryz.pinned.checked.prog.inPlace 6)=true:=by kernel_rfl
theorem uf6:(Rows.streetTablesRow.unfollowed==Tryz.pinned.checked.prog.unfollowed 6)=true:=by kernel_rfl
theorem rc6:(Rows.streetTablesRow.recurses==Tryz.pinned.checked.prog.recurses 6)=true:=by kernel_rfl
theorem nm6:(Rows.streetTablesRow.named==Tryz.pinned.checked.prog.varsNamed 6)=true:=by kernel_rfl
theorem Ns:joinedFacts Tryz.pinned.checked.prog 6 Tryz.f6 Rows.streetTablesSpec Rows.streetTablesRow=true:=by
 unfold joinedFacts;rw[ip6,uf6,rc6,nm6];kernel_rfl
end Go.Proofs.YtfjnacajjpaeiaaGreatDoor
end
