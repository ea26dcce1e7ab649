/- Chapter 03: contracts of functions of the program and of the reference, and plain laws (out of StD KProof StV LS4). No condition of its own. -/
import Derived.Test.YtfjnacajjpaeiaaGreatDoorQB01
set_option maxRecDepth 100000
set_option linter.all false
section
namespace Go.St
section
variable{arcs:List Arc}{to:Int}
theorem vR{D:Int→Prop}(hm:∀a∈arcs,1≤a.m){T:Tab}(hS:fJ aE arcs to T)(hT:eY aE arcs to D T):dT T to 0=0∧
 ∀a∈arcs,∀s,D s→0≤dT T a.q (aE s a.sh)→0≤dT T a.p s∧dT T a.p s≤dT T a.q (aE s a.sh)+a.m:=by
 refine⟨by unfold dT;rw[hT.1],fun a ha s hs h=> ?_⟩
 cases e:T a.q (aE s a.sh) with
 |none=>unfold dT at h;rw[e] at h;simp at h
 |some c=>
  obtain⟨d,h1,h2⟩:=hT.2 a ha s hs c e;have h3:=Way.nonneg aE arcs to hm (hS _ _ _ h1);unfold dT;rw[h1,e];unfold le2 at h2;simp only at h2⊢;omega
end
end Go.St
end
section
namespace Go.Proofs.YtfjnacajjpaeiaaGreatDoor
open Go Go.Bp Go.St Go.RowKit Go.Proofs Go.ChangeShapes Go.WideShapes Go.ChangeAt
theorem Sx:(Rows.streetProofRow.inPlace==Tryz.pinned.checked.prog.inPlace 10)=true:=by kernel_rfl
theorem Sm:(Rows.streetProofRow.unfollowed==Tryz.pinned.checked.prog.unfollowed 10)=true:=by kernel_rfl
theorem Sr:(Rows.streetProofRow.recurses==Tryz.pinned.checked.prog.recurses 10)=true:=by kernel_rfl
theorem Su:(Rows.streetProofRow.named==Tryz.pinned.checked.prog.varsNamed 10)=true:=by kernel_rfl
theorem La:joinedFacts Tryz.pinned.checked.prog 10 Tryz.f10 Rows.streetProofSpec Rows.streetProofRow=true:=by
 unfold joinedFacts;rw[Sx,Sm,Sr,Su];kernel_rfl
end Go.Proofs.YtfjnacajjpaeiaaGreatDoor
end
section
namespace Go.St
open Go.Bp
namespace Town
variable{t:Town}{k:Task}
/-! ### Table proves -/
theorem tC{p s:Int}(hp:inB p 0 (t.places.length-1)=true)(h0:0≤s)(hs:s<t.sets):eP (t.tabTo k t.places.length) p s=dT (t.cost k) p s:=by
 have hp2:=aV.1 hp;have hsets:t.sets=((2^t.shows.length:Nat):Int):=by unfold sets;simp
 obtain⟨p,rfl⟩:∃n:Nat,p=n:=⟨p.toNat,by omega⟩
 obtain⟨s,rfl⟩:∃n:Nat,s=n:=⟨s.toNat,by omega⟩
 have h1:p<(t.tabTo k t.places.length).length:=by rw[tabTo_len];omega
 have e1:(t.tabTo k t.places.length)[p]=t.rowTo k p (2^t.shows.length):=by simp[tabTo]
 have h2:s<(t.tabTo k t.places.length)[p].length:=by rw[e1,rowTo_len];omega
 rw[gJ h1 h2,sI];simp[e1,rowTo]
theorem Ml{n:Int}(h:TaskOk t k)(h0:0≤n)(hn:n≤k.show_)(hl:aE n k.show_=0):PartOf t k n:=by
 have hsh:=aV.1 h.sh;have hsets:t.sets=2^t.shows.length:=rfl;exact⟨h0,by rw[←hsets];omega,hl⟩
theorem Ex{x:Step}(hx:x∈t.stepsAll k):t.arcOf k x∈t.arcs k:=by rw[arcs_map];exact List.mem_map_of_mem hx
theorem Fx(h:TaskOk t k)(p s:Int): -1≤(cv (t.cost k p s)).1∧(cv (t.cost k p s)).1≤20000000:=by
 cases e:t.cost k p s with
 |none=>rw[Er];decide
 |some c=>
  have:=cost_bd h e;rw[iQ];omega
theorem proves_table(h:TaskOk t k)(he:t.taskErr k=0):t.provesAns k (t.tableAns k).1=(true,0):=by
 rw[tableAns_0 he];refine provesAns_0 he (t.tabTo_len k _) ?_ ?_ ?_
 ·intro r hr;unfold tabTo at hr;obtain⟨p,_,rfl⟩:=List.mem_map.1 hr;exact t.rowTo_len k _ _
 ·intro r hr n hn;unfold tabTo at hr;obtain⟨p,_,rfl⟩:=List.mem_map.1 hr;unfold rowTo at hn;obtain⟨s,_,rfl⟩:=List.mem_map.1 hn;exact aV.2 (Fx h _ _)
 ·simp only[true_iff];have hset:t.sets=2^t.shows.length:=rfl;have hsets:=sets_bd h.ok.sh;have hmc:=vR (nI h) cost_sound (eJ h);refine⟨?_,fun x hx n hn hz hq=> ?_⟩
  ·rw[tC h.b (Int.le_refl _) (by rw[hset];omega)]
   exact hmc.1
  ·have ha:=mH h _ (Ex hx);have hp:=Ml h (by omega) hn hz
   have hp2:PartOf t k (aE n (t.shownAt k.time x)):=gM _ _ hp;have hb1:((n:Int))<t.sets:=hp.2.1;have hb2:aE n (t.shownAt k.time x)<t.sets:=hp2.2.1;have q1:inB (t.ends x).1 0 (t.places.length-1)=true:=ha.p;have q2:inB (t.ends x).2 0 (t.places.length-1)=true:=ha.q;rw[tC q2 hp2.1 hb2] at hq⊢;rw[tC q1 (by omega) hb1]
   exact hmc.2 _ (Ex hx) _ hp hq
theorem Ir(h:TaskOk t k)(he:t.taskErr k=0):eP (t.tableAns k).1 k.a k.show_=dT (t.cost k) k.a k.show_:=by
 rw[tableAns_0 he];have hsh:=aV.1 h.sh;exact tC h.a hsh.1 (by omega)
theorem table_find(he:t.taskErr k=0):((t.findAns k).2=9∧eP (t.tableAns k).1 k.a k.show_= -1)∨((t.findAns k).2=0∧eP (t.tableAns k).1 k.a k.show_=(t.findAns k).1.metres):=by
 have h:=taskOk_of he;have hc0:=check_of he;rw[Ir h he]
 cases e:t.cost k k.a k.show_ with
 |none=>exact .inl ⟨by rw[find_none h hc0 e],by unfold dT;rw[e]⟩
 |some c=>
  have hb:=best_t h hc0 e;exact .inr ⟨by rw[hb.find],by rw[hb.find];unfold dT;rw[e];exact hb.metres.symm⟩
/-! ### No tour is shorter -/
/-! ### By way of another place -/
end Town
end Go.St
end
section
namespace Go.St
open Go Go.Bp Go.RowKit Go.Proofs
theorem Town.tableAns_ne{t:Town}{k:Task}(h:t.taskErr k≠0):t.tableAns k=([],t.taskErr k):=by unfold Town.tableAns;rw[if_pos h]
theorem Town.table_row{t:Town}{k:Task}(he:t.taskErr k=0){an sn:Nat}(ha:k.a=an)(hs:k.show_=sn):(t.tableAns k).2=0∧(t.tableAns k).1.length=t.places.length∧an<(t.tableAns k).1.length∧an<t.places.length∧
 ∀hlt:an<(t.tableAns k).1.length,sn<(t.tableAns k).1[an].length∧∀h2:sn<(t.tableAns k).1[an].length,eP (t.tableAns k).1 k.a k.show_=(t.tableAns k).1[an][sn]:=by
 have h:=Town.taskOk_of he;have hai:=aV.1 h.a;have hsi:=aV.1 h.sh;have hset:t.sets=((2^t.shows.length:Nat):Int):=by unfold Town.sets;simp
 have e0:=Town.tableAns_0 he;have hl:(t.tableAns k).1.length=t.places.length:=by rw[e0];exact t.tabTo_len k _
 refine⟨by rw[e0],hl,by omega,by omega,fun hlt=> ?_⟩
 have e1:(t.tableAns k).1[an].length=2^t.shows.length:=by
  have:(t.tableAns k).1[an]∈(t.tabTo k t.places.length):=by rw[←show(t.tableAns k).1=t.tabTo k t.places.length by rw[e0]];exact List.getElem_mem hlt
  unfold Town.tabTo at this;obtain⟨p,_,e⟩:=List.mem_map.1 this;rw[←e];exact t.rowTo_len k _ _
 refine⟨by omega,fun h2=> ?_⟩
 rw[ha,hs];exact gJ hlt h2
set_option maxHeartbeats 8000000 in
theorem Qq(tv kv:Value)(t:Town)(k:Task)(w:World)(h:aM w tv t)(hk:bA w kv k)(hv:Env w):Calls Tryz.prog 10 #[tv,kv] w (dB w true):=by
 have hT0:=h;obtain⟨pv,sv,tmv,xv,rfl,hT⟩:=h;obtain⟨A1,cp1,rfl,_,hc1,_,_⟩:=hT.places;obtain⟨A2,cp2,rfl,_,_,_,_⟩:=hT.shows;obtain⟨A3,cp3,rfl,_,_,_,_⟩:=hT.times;obtain⟨A4,cp4,rfl,_,_,_⟩:=hT.streets;unfold maxLen at hc1;clear hT;have hE:=Ext.refl w;obtain⟨cv,rfl,hC⟩:=hk;obtain⟨A5,cp5,rfl,_,_,_,_⟩:=id hC;have hK:=bA.of hC;by_cases he:t.taskErr k=0
 ·have htf:=Town.table_find he;have hpr:=Town.proves_table (Town.taskOk_of he) he;have hai:=aV.1 (Town.taskOk_of he).a;have hsi:=aV.1 (Town.taskOk_of he).sh;obtain⟨an,han⟩:∃n:Nat,k.a=n:=⟨k.a.toNat,by omega⟩
  obtain⟨sn,hsn⟩:∃n:Nat,k.show_=n:=⟨k.show_.toNat,by omega⟩
  obtain⟨hz0,hl1,hl2,hl3,hrow⟩:=Town.table_row he han hsn;obtain⟨hr1,hr2⟩:=hrow hl2;have hr3:=hr2 hr1;obtain⟨⟨rows,z⟩,hr⟩:∃r,t.tableAns k=r:=⟨_,rfl⟩;obtain⟨⟨x,e⟩,hf⟩:∃r,t.findAns k=r:=⟨_,rfl⟩;have HP:=Lib.hid (fun W v u(h:aM W v t)(h2:bA W u k)=>by have:=mL v u t k W h h2;rw[hr] at this;exact this)
  have HF:=Lib.hid (fun W v u(h:aM W v t)(h2:bA W u k)=>by have:=gQ v u t k W h h2;rw[hf] at this;exact this)
  have HT:=Lib.hid (fun W v u(h:aM W v t)(h2:bA W u k)=>by have:=fN v u t k W h h2;rw[he] at this;exact this)
  simp only[hr] at hz0 hl1 hl2 hl3 hr1 hr3 hpr htf;simp only[hf] at htf;subst hz0;have HQ:=Lib.hid (fun W v u r(h:aM W v t)(h2:bA W u k)(h3:Rows W r rows)=>by have:=nL v u r t k rows W h h2 h3;rw[hpr] at this;exact this)
  obtain⟨N,hN⟩:∃n,rows[an][sn]=n:=⟨_,rfl⟩;rw[hr3,hN] at htf;have Htf:=Lib.hid htf;have gl:an<rows.length:=hl2;have g1:sn<rows[an].length:=hr1;have gN:rows[an][sn]=N:=hN;have m2:¬((rows[an].length:Int)≤(sn:Int)):=by omega
  clear hN hr3 hr1 hr2 hl2 hrow;rw[han,hsn] at hK⊢;have m1:((rows.length:Int) !=(t.places.length:Int))=false:=by simp[hl1]
  have hL63:(rows.length:Int)<9223372036854775808:=by omega
  clear hl1 han hsn hai hsi hpr htf hr hf he;go_enter Tryz.func10,Tryz.ntmps10
  go_wp2_with (first|(((with_reducible refine aC (d:=some 14) (hl:=aL hB2) ?_ ?_);rfl))|(((with_reducible refine aC (d:=some 15) (hl:=bU hB3) ?_ ?_);rfl))|(((with_reducible refine aC (d:=some 19) (hl:=aL hB2) ?_ ?_);rfl))|(((with_reducible refine aC (d:=some 20) (hl:=bU hB3) ?_ ?_);rfl))|(go_at_call 25;((with_reducible refine(HP.out _ _ _ (by exact hT0) (by exact hK)).mono ?_);rintro e WcP ⟨v7,rfl,hO7,hEcP⟩;(try replace hEcP:=Ext.undrew hEcP);(try replace hE:=hE.trans hEcP);(try replace hT0:=hT0.ext hEcP);(try replace hK:=hK.ext hEcP);(try replace hV7:=hV7.ext hEcP);(try replace hB2:=hB2.ext hEcP);(try replace hB3:=hB3.ext hEcP);(try replace hB10:=hB10.ext hEcP);(try replace hb2_0:=hEcP.c hb2_0);(try replace hb3_0:=hEcP.c hb3_0);(try replace hb3_2:=hEcP.c hb3_2);(try replace hb2_1:=hEcP.c hb2_1);(try replace hb2_2:=hEcP.c hb2_2);(try replace hb2_3:=hEcP.c hb2_3);(try replace hb3_1:=hEcP.c hb3_1);(try replace hb3_3:=hEcP.c hb3_3);(try replace hb3_4:=hEcP.c hb3_4);have hV7:=hO7.rows;obtain⟨A7,c7,e7,_⟩:=lY hV7;subst e7))|(go_at_call 38;((with_reducible refine(HT.out _ _ _ (by exact hT0) (by exact hK)).mono ?_);rintro e WcT ⟨rfl,hEcT⟩;(try replace hEcT:=Ext.undrew hEcT);(try replace hE:=hE.trans hEcT);(try replace hT0:=hT0.ext hEcT);(try replace hK:=hK.ext hEcT);(try replace hV7:=hV7.ext hEcT);(try replace hB2:=hB2.ext hEcT);(try replace hB3:=hB3.ext hEcT);(try replace hB10:=hB10.ext hEcT);(try replace hb2_0:=hEcT.c hb2_0);(try replace hb3_0:=hEcT.c hb3_0);(try replace hb3_2:=hEcT.c hb3_2);(try replace hb2_1:=hEcT.c hb2_1);(try replace hb2_2:=hEcT.c hb2_2);(try replace hb2_3:=hEcT.c hb2_3);(try replace hb3_1:=hEcT.c hb3_1);(try replace hb3_3:=hEcT.c hb3_3);(try replace hb3_4:=hEcT.c hb3_4)))|((with_reducible refine aF (d:=some 2) ?_);intro W2 g2 hE2 hB2 hg2;simp[Act.eval,Act.put,Value.cells] at hB2;(try replace hE:=hE.trans hE2);(try replace hT0:=hT0.ext hE2);(try replace hK:=hK.ext hE2);(try replace hV7:=hV7.ext hE2);(try replace hB2:=hB2.ext hE2);(try replace hB3:=hB3.ext hE2);(try replace hB10:=hB10.ext hE2);(try replace hb2_0:=hE2.c hb2_0);(try replace hb3_0:=hE2.c hb3_0);(try replace hb3_2:=hE2.c hb3_2);(try replace hb2_1:=hE2.c hb2_1);(try replace hb2_2:=hE2.c hb2_2);(try replace hb2_3:=hE2.c hb2_3);(try replace hb3_1:=hE2.c hb3_1);(try replace hb3_3:=hE2.c hb3_3);(try replace hb3_4:=hE2.c hb3_4);have hb2_0:=hB2.cell 0;have hb2_1:=hB2.cell 1;have hb2_2:=hB2.cell 2;have hb2_3:=hB2.cell 3;simp at hb2_0 hb2_1 hb2_2 hb2_3;clear hE2)|((with_reducible refine aF (d:=some 3) ?_);intro W3 g3 hE3 hB3 hg3;simp[Act.eval,Act.put,Value.cells] at hB3;(try replace hE:=hE.trans hE3);(try replace hT0:=hT0.ext hE3);(try replace hK:=hK.ext hE3);(try replace hV7:=hV7.ext hE3);(try replace hB2:=hB2.ext hE3);(try replace hB3:=hB3.ext hE3);(try replace hB10:=hB10.ext hE3);(try replace hb2_0:=hE3.c hb2_0);(try replace hb3_0:=hE3.c hb3_0);(try replace hb3_2:=hE3.c hb3_2);(try replace hb2_1:=hE3.c hb2_1);(try replace hb2_2:=hE3.c hb2_2);(try replace hb2_3:=hE3.c hb2_3);(try replace hb3_1:=hE3.c hb3_1);(try replace hb3_3:=hE3.c hb3_3);(try replace hb3_4:=hE3.c hb3_4);have hb3_0:=hB3.cell 0;have hb3_1:=hB3.cell 1;have hb3_2:=hB3.cell 2;have hb3_3:=hB3.cell 3;have hb3_4:=hB3.cell 4;simp at hb3_0 hb3_1 hb3_2 hb3_3 hb3_4;clear hE3))
  obtain⟨A',c',e',h7a,h7b,hrr⟩:=lY hV7;injection e' with e1 _ e3
  subst e1 e3;obtain⟨ad,rfl,hat⟩:=hrr (by omega)
  obtain⟨B,cB,k1,k2,k3,k4⟩:=hat an gl;obtain⟨adB,rfl,hcB⟩:=k4 (by omega)
  have eN:=hcB.i g1;rw[gN] at eN;obtain⟨Lr,hLr⟩:∃n,rows[an].length=n:=⟨_,rfl⟩;rw[hLr] at k1 k2 m2 g1;unfold maxLen at h7b k3;have z1:(an:Int)<(rows.length:Int):=by omega
  have z2:(sn:Int)<(Lr:Int):=by omega
  have hX:=Ext.todrew (Ext.refl WcT);clear hrr hat k4 hcB hLr gN;refine aR (.take 0 (.take 1 (.take 2 (.take 3 (.take 4 (.take 5 (.take 6 (.take 7 (.take 8 (.take 9 (.take 10 (.take 11 (.take 12 (.take 13 (.take 14 (.take 15 (.take 16 (.take 17 (.take 18 (.take 19 (.take 20 .nil))))))))))))))))))))) (fun w'=>Ext WcT w') ?_ (fun hHd=> ?_)
  ·assumption
  repeat' first|((with_reducible refine aB ?_);(first|((with_reducible refine aB (i:=6) ?_);refine tw (v:=.slice A1 t.places.length cp1) ?_ hHd ?_;(·exact aA (by rfl) (rl Tryz.underlying22 hb2_0)))|((with_reducible refine aB (i:=8) ?_);refine tw (v:=.bool false) ?_ hHd ?_;(·(intro wq hSw;go_simp;first|done|exact m1|simp[m1])))|((with_reducible refine aB (i:=13) ?_);refine tw (v:=.int .i64 an) ?_ hHd ?_;(·exact aA (by rfl) (rl Tryz.underlying3 hb3_0)))|((with_reducible refine aB (i:=15) ?_);refine tw (v:=.slice (some adB) Lr cB) ?_ hHd ?_;(·exact aA (by rfl) (rl Tryz.underlying41 k1)))|((with_reducible refine aB (i:=18) ?_);refine tw (v:=.int .i64 sn) ?_ hHd ?_;(·exact aA (by rfl) (rl Tryz.underlying3 hb3_2)))|((with_reducible refine aB (i:=19) ?_);refine tw (v:=.bool false) ?_ hHd ?_;(·(intro wq hSw;go_simp;first|done|omega|(simp;omega))))|(refine tk (v:= ?_) ?_ hHd ?_;rotate_left;(·(intro wq hSw;(try dsimp only at hSw);go_simp;(try with_reducible rfl))))|(refine tw (v:= ?_) ?_ hHd ?_;rotate_left;(·(intro wq hSw;(try dsimp only at hSw);go_simp;(try with_reducible rfl)))));(try simp only[pS]))|(with_reducible refine aG ?_)
  replace hE:=hE.trans hX;replace hT0:=hT0.ext hX;replace hK:=hK.ext hX;replace hV7:=hV7.ext hX;replace hB2:=hB2.ext hX;replace hB3:=hB3.ext hX;replace k1:=Ext.cell_some hX k1;replace eN:=Ext.cell_some hX eN;generalize WcT.drew=Wd at hE hT0 hK hV7 hB2 hB3 k1 eN⊢;clear hX hb2_0 hb2_1 hb2_2 hb2_3 hb3_0 hb3_1 hb3_2 hb3_3 hb3_4;have hR:=Ext.refl Wd;have r3:=hB3;go_wp2_with (first|(((with_reducible refine aC (d:=some 57) (hl:=aL hB2) ?_ ?_);rfl))|(((with_reducible refine aC (d:=some 58) (hl:=bU hB3) ?_ ?_);rfl))|(((with_reducible refine aC (d:=some 64) (hl:=aL hB2) ?_ ?_);rfl))|(((with_reducible refine aC (d:=some 65) (hl:=bU hB3) ?_ ?_);rfl))|(go_at_call 28;((with_reducible refine(HQ.out _ _ _ _ (by exact hT0) (by exact hK) (by exact hV7)).mono ?_);rintro e WcQ ⟨rfl,hEcQ⟩;(try replace hEcQ:=Ext.undrew hEcQ);(try replace hE:=hE.trans hEcQ);(try replace hR:=hR.trans hEcQ);(try replace hT0:=hT0.ext hEcQ);(try replace hK:=hK.ext hEcQ);(try replace hV7:=hV7.ext hEcQ);(try replace hB2:=hB2.ext hEcQ);(try replace hB3:=hB3.ext hEcQ);(try replace hB10:=hB10.ext hEcQ);(try replace hb2_0:=hEcQ.c hb2_0);(try replace hb3_0:=hEcQ.c hb3_0);(try replace hb3_2:=hEcQ.c hb3_2);(try replace hb2_1:=hEcQ.c hb2_1);(try replace hb2_2:=hEcQ.c hb2_2);(try replace hb2_3:=hEcQ.c hb2_3);(try replace hb3_1:=hEcQ.c hb3_1);(try replace hb3_3:=hEcQ.c hb3_3);(try replace hb3_4:=hEcQ.c hb3_4)))|(go_at_call 23;((with_reducible refine(HF.out _ _ _ (by exact hT0) (by exact hK)).mono ?_);rintro e WcF ⟨v10,rfl,hO10,hEcF⟩;(try replace hEcF:=Ext.undrew hEcF);(try replace hE:=hE.trans hEcF);(try replace hR:=hR.trans hEcF);(try replace hT0:=hT0.ext hEcF);(try replace hK:=hK.ext hEcF);(try replace hV7:=hV7.ext hEcF);(try replace hB2:=hB2.ext hEcF);(try replace hB3:=hB3.ext hEcF);(try replace hB10:=hB10.ext hEcF);(try replace hb2_0:=hEcF.c hb2_0);(try replace hb3_0:=hEcF.c hb3_0);(try replace hb3_2:=hEcF.c hb3_2);(try replace hb2_1:=hEcF.c hb2_1);(try replace hb2_2:=hEcF.c hb2_2);(try replace hb2_3:=hEcF.c hb2_3);(try replace hb3_1:=hEcF.c hb3_1);(try replace hb3_3:=hEcF.c hb3_3);(try replace hb3_4:=hEcF.c hb3_4);have hRs:=hR.size;obtain⟨s10,rfl,hOs10⟩:=hO10;obtain⟨A10,c10,e10,_⟩:=hOs10.steps;subst e10))|((with_reducible refine aS (d:=some 10) fW ?_);intro W10 g10 hE10 hB10 hg10;have hg100:=Nat.le_trans hE.size hg10;simp[Value.cells] at hB10;(try replace hE:=hE.trans hE10);(try replace hR:=hR.trans hE10);(try replace hT0:=hT0.ext hE10);(try replace hK:=hK.ext hE10);(try replace hV7:=hV7.ext hE10);(try replace hB2:=hB2.ext hE10);(try replace hB3:=hB3.ext hE10);(try replace hB10:=hB10.ext hE10);(try replace hb2_0:=hE10.c hb2_0);(try replace hb3_0:=hE10.c hb3_0);(try replace hb3_2:=hE10.c hb3_2);(try replace hb2_1:=hE10.c hb2_1);(try replace hb2_2:=hE10.c hb2_2);(try replace hb2_3:=hE10.c hb2_3);(try replace hb3_1:=hE10.c hb3_1);(try replace hb3_3:=hE10.c hb3_3);(try replace hb3_4:=hE10.c hb3_4))|(((with_reducible refine aK (t:=36) (e:=36) (g:=g10) (off:=0) (n:=5) (v:=.agg #[.slice A10 x.steps.length c10,.int .i64 x.metres,.int .i64 x.lo,.int .i64 x.hi,.int .i64 x.shown]) ?_ ?_ hB10 cW ?_ ?_ ?_ ?_);rfl;rfl;rfl;(simp[Value.cells]);(exact mB rfl);intro Ws hBs hgrs;simp[aI,Value.cells] at hBs;replace hE:=aD hE hgrs hg100;replace hR:=aD hR hgrs (Nat.le_trans hRs hg10)))|((with_reducible refine aF (d:=some 2) ?_);intro W2 g2 hE2 hB2 hg2;simp[Act.eval,Act.put,Value.cells] at hB2;(try replace hE:=hE.trans hE2);(try replace hR:=hR.trans hE2);(try replace hT0:=hT0.ext hE2);(try replace hK:=hK.ext hE2);(try replace hV7:=hV7.ext hE2);(try replace hB2:=hB2.ext hE2);(try replace hB3:=hB3.ext hE2);(try replace hB10:=hB10.ext hE2);(try replace hb2_0:=hE2.c hb2_0);(try replace hb3_0:=hE2.c hb3_0);(try replace hb3_2:=hE2.c hb3_2);(try replace hb2_1:=hE2.c hb2_1);(try replace hb2_2:=hE2.c hb2_2);(try replace hb2_3:=hE2.c hb2_3);(try replace hb3_1:=hE2.c hb3_1);(try replace hb3_3:=hE2.c hb3_3);(try replace hb3_4:=hE2.c hb3_4);have hb2_0:=hB2.cell 0;have hb2_1:=hB2.cell 1;have hb2_2:=hB2.cell 2;have hb2_3:=hB2.cell 3;simp at hb2_0 hb2_1 hb2_2 hb2_3;clear hE2)|((with_reducible refine aF (d:=some 3) ?_);intro W3 g3 hE3 hB3 hg3;simp[Act.eval,Act.put,Value.cells] at hB3;(try replace hE:=hE.trans hE3);(try replace hR:=hR.trans hE3);(try replace hT0:=hT0.ext hE3);(try replace hK:=hK.ext hE3);(try replace hV7:=hV7.ext hE3);(try replace hB2:=hB2.ext hE3);(try replace hB3:=hB3.ext hE3);(try replace hB10:=hB10.ext hE3);(try replace hb2_0:=hE3.c hb2_0);(try replace hb3_0:=hE3.c hb3_0);(try replace hb3_2:=hE3.c hb3_2);(try replace hb2_1:=hE3.c hb2_1);(try replace hb2_2:=hE3.c hb2_2);(try replace hb2_3:=hE3.c hb2_3);(try replace hb3_1:=hE3.c hb3_1);(try replace hb3_3:=hE3.c hb3_3);(try replace hb3_4:=hE3.c hb3_4);have hb3_0:=hB3.cell 0;have hb3_1:=hB3.cell 1;have hb3_2:=hB3.cell 2;have hb3_3:=hB3.cell 3;have hb3_4:=hB3.cell 4;simp at hb3_0 hb3_1 hb3_2 hb3_3 hb3_4;clear hE3))
  have b3:=r3.ext hR;have c30:=b3.cell 0;have c32:=b3.cell 2;simp at c30 c32;have kr:=Ext.cell_some hR k1;have kn:=Ext.cell_some hR eN;have hX:=Ext.todrew (Ext.refl Ws);refine aR (.take 0 (.take 1 (.take 2 (.take 3 (.take 4 (.take 5 (.take 6 (.take 7 (.take 8 (.take 9 .nil)))))))))) (fun w'=>Ext Ws w') ?_ (fun hHd=> ?_)
  ·assumption
  repeat' first|((with_reducible refine aB ?_);(first|((with_reducible refine aB (i:=2) ?_);refine tk (v:=.int .i64 an) ?_ hHd ?_;(·exact aA (by rfl) (rl Tryz.underlying3 c30)))|((with_reducible refine aB (i:=4) ?_);refine tk (v:=.slice (some adB) Lr cB) ?_ hHd ?_;(·exact aA (by rfl) (rl Tryz.underlying41 kr)))|((with_reducible refine aB (i:=6) ?_);refine tk (v:=.int .i64 sn) ?_ hHd ?_;(·exact aA (by rfl) (rl Tryz.underlying3 c32)))|((with_reducible refine aB (i:=8) ?_);refine tk (v:=.int .i64 N) ?_ hHd ?_;(·exact aA (by rfl) (rl Tryz.underlying3 kn)))|(refine tk (v:= ?_) ?_ hHd ?_;rotate_left;(·(intro wq hSw;(try dsimp only at hSw);go_simp;(try with_reducible rfl)))));(try simp only[pS]))|(with_reducible refine aG ?_)
  have bs:=hBs.ext hX;replace hE:=hE.trans hX;generalize Ws.drew=We at bs hE⊢;have c101:=bs.cell 1;simp at c101;clear hX hBs hB2 hB3 hT0 hK hV7 r3 b3 hR;rcases Htf.out with ⟨e9,n1⟩|⟨e0,n1⟩
  ·subst e9 n1;go_wp2_with (first|(go_at_call 19;refine(dS _ (hv.ext hE)).mono ?_;rintro e Wk ⟨rfl,hEk⟩))
   go_ret
   exact⟨rfl,hE.trans hEk⟩
  ·subst e0 n1;go_wp2_with (first|(go_at_call 19;refine(dS _ (hv.ext hE)).mono ?_;rintro e Wk ⟨rfl,hEk⟩))
   go_ret
   exact⟨rfl,hE.trans hEk⟩
 ·have hne:=Town.tableAns_ne he;have HP:=Lib.hid (fun W v u(h:aM W v t)(h2:bA W u k)=>by have:=mL v u t k W h h2;rw[hne] at this;exact this)
  obtain⟨e,hee⟩:∃e,t.taskErr k=e:=⟨_,rfl⟩;rw[hee] at HP he;have HT:=Lib.hid (fun W v u(h:aM W v t)(h2:bA W u k)=>by have:=fN v u t k W h h2;rw[hee] at this;exact this)
  have q1:(e !=0)=true:=by simpa using he
  clear hne hee he;go_enter Tryz.func10,Tryz.ntmps10
  go_wp2_with (first|(((with_reducible refine aC (d:=some 14) (hl:=aL hB2) ?_ ?_);rfl))|(((with_reducible refine aC (d:=some 15) (hl:=bU hB3) ?_ ?_);rfl))|(((with_reducible refine aC (d:=some 19) (hl:=aL hB2) ?_ ?_);rfl))|(((with_reducible refine aC (d:=some 20) (hl:=bU hB3) ?_ ?_);rfl))|(go_at_call 25;((with_reducible refine(HP.out _ _ _ (by exact hT0) (by exact hK)).mono ?_);rintro e WcP ⟨v7,rfl,hO7,hEcP⟩;(try replace hEcP:=Ext.undrew hEcP);(try replace hE:=hE.trans hEcP);(try replace hR:=hR.trans hEcP);(try replace hT0:=hT0.ext hEcP);(try replace hK:=hK.ext hEcP);(try replace hV7:=hV7.ext hEcP);(try replace hB2:=hB2.ext hEcP);(try replace hB3:=hB3.ext hEcP);(try replace hB10:=hB10.ext hEcP);(try replace hb2_0:=hEcP.c hb2_0);(try replace hb3_0:=hEcP.c hb3_0);(try replace hb3_2:=hEcP.c hb3_2);(try replace hb2_1:=hEcP.c hb2_1);(try replace hb2_2:=hEcP.c hb2_2);(try replace hb2_3:=hEcP.c hb2_3);(try replace hb3_1:=hEcP.c hb3_1);(try replace hb3_3:=hEcP.c hb3_3);(try replace hb3_4:=hEcP.c hb3_4);have hV7:=hO7.rows;obtain⟨A7,c7,e7,_⟩:=lY hV7;subst e7))|(go_at_call 38;((with_reducible refine(HT.out _ _ _ (by exact hT0) (by exact hK)).mono ?_);rintro e WcT ⟨rfl,hEcT⟩;(try replace hEcT:=Ext.undrew hEcT);(try replace hE:=hE.trans hEcT);(try replace hR:=hR.trans hEcT);(try replace hT0:=hT0.ext hEcT);(try replace hK:=hK.ext hEcT);(try replace hV7:=hV7.ext hEcT);(try replace hB2:=hB2.ext hEcT);(try replace hB3:=hB3.ext hEcT);(try replace hB10:=hB10.ext hEcT);(try replace hb2_0:=hEcT.c hb2_0);(try replace hb3_0:=hEcT.c hb3_0);(try replace hb3_2:=hEcT.c hb3_2);(try replace hb2_1:=hEcT.c hb2_1);(try replace hb2_2:=hEcT.c hb2_2);(try replace hb2_3:=hEcT.c hb2_3);(try replace hb3_1:=hEcT.c hb3_1);(try replace hb3_3:=hEcT.c hb3_3);(try replace hb3_4:=hEcT.c hb3_4)))|(go_at_call 19;((with_reducible refine(dS _ (by exact hv.ext hE)).mono ?_);rintro e WcK ⟨rfl,hEcK⟩;(try replace hEcK:=Ext.undrew hEcK);(try replace hE:=hE.trans hEcK);(try replace hR:=hR.trans hEcK);(try replace hT0:=hT0.ext hEcK);(try replace hK:=hK.ext hEcK);(try replace hV7:=hV7.ext hEcK);(try replace hB2:=hB2.ext hEcK);(try replace hB3:=hB3.ext hEcK);(try replace hB10:=hB10.ext hEcK);(try replace hb2_0:=hEcK.c hb2_0);(try replace hb3_0:=hEcK.c hb3_0);(try replace hb3_2:=hEcK.c hb3_2);(try replace hb2_1:=hEcK.c hb2_1);(try replace hb2_2:=hEcK.c hb2_2);(try replace hb2_3:=hEcK.c hb2_3);(try replace hb3_1:=hEcK.c hb3_1);(try replace hb3_3:=hEcK.c hb3_3);(try replace hb3_4:=hEcK.c hb3_4)))|((with_reducible refine aF (d:=some 2) ?_);intro W2 g2 hE2 hB2 hg2;simp[Act.eval,Act.put,Value.cells] at hB2;(try replace hE:=hE.trans hE2);(try replace hR:=hR.trans hE2);(try replace hT0:=hT0.ext hE2);(try replace hK:=hK.ext hE2);(try replace hV7:=hV7.ext hE2);(try replace hB2:=hB2.ext hE2);(try replace hB3:=hB3.ext hE2);(try replace hB10:=hB10.ext hE2);(try replace hb2_0:=hE2.c hb2_0);(try replace hb3_0:=hE2.c hb3_0);(try replace hb3_2:=hE2.c hb3_2);(try replace hb2_1:=hE2.c hb2_1);(try replace hb2_2:=hE2.c hb2_2);(try replace hb2_3:=hE2.c hb2_3);(try replace hb3_1:=hE2.c hb3_1);(try replace hb3_3:=hE2.c hb3_3);(try replace hb3_4:=hE2.c hb3_4);have hb2_0:=hB2.cell 0;have hb2_1:=hB2.cell 1;have hb2_2:=hB2.cell 2;have hb2_3:=hB2.cell 3;simp at hb2_0 hb2_1 hb2_2 hb2_3;clear hE2)|((with_reducible refine aF (d:=some 3) ?_);intro W3 g3 hE3 hB3 hg3;simp[Act.eval,Act.put,Value.cells] at hB3;(try replace hE:=hE.trans hE3);(try replace hR:=hR.trans hE3);(try replace hT0:=hT0.ext hE3);(try replace hK:=hK.ext hE3);(try replace hV7:=hV7.ext hE3);(try replace hB2:=hB2.ext hE3);(try replace hB3:=hB3.ext hE3);(try replace hB10:=hB10.ext hE3);(try replace hb2_0:=hE3.c hb2_0);(try replace hb3_0:=hE3.c hb3_0);(try replace hb3_2:=hE3.c hb3_2);(try replace hb2_1:=hE3.c hb2_1);(try replace hb2_2:=hE3.c hb2_2);(try replace hb2_3:=hE3.c hb2_3);(try replace hb3_1:=hE3.c hb3_1);(try replace hb3_3:=hE3.c hb3_3);(try replace hb3_4:=hE3.c hb3_4);have hb3_0:=hB3.cell 0;have hb3_1:=hB3.cell 1;have hb3_2:=hB3.cell 2;have hb3_3:=hB3.cell 3;have hb3_4:=hB3.cell 4;simp at hb3_0 hb3_1 hb3_2 hb3_3 hb3_4;clear hE3))
  go_ret
  exact⟨rfl,hE⟩
end Go.St
end
