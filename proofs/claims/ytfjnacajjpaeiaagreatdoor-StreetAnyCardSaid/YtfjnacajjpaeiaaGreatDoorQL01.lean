/- Chapter 03: contracts of functions of the program and of the reference, and plain laws (out of StZ KAny SOR NSH NSL6). No condition of its own. -/
import Derived.Test.YtfjnacajjpaeiaaGreatDoorQE02
import Derived.Test.YtfjnacajjpaeiaaGreatDoorQM01
import Derived.Test.YtfjnacajjpaeiaaGreatDoorQPM01
import Derived.Test.YtfjnacajjpaeiaaGreatDoorQU01
set_option maxRecDepth 100000
set_option linter.all false
section
namespace Go.St
open Go.Bp
namespace Town
variable{t:Town}{k:Task}
theorem any_pack(he:t.taskErr k=0){rows:List (List Int)}(h1:rows.length=t.places.length)(h2:∀r∈rows,r.length=2^t.shows.length)(h3:∀r∈rows,∀n∈r,-1≤n∧n≤20000000){m n:Int}(w:Way aE (t.arcs k) k.b k.a k.show_ m n):
 ∃b:Bool,t.provesAns k rows=(b,0)∧(b=true→0≤eP rows k.a k.show_∧eP rows k.a k.show_≤m):=by
 open Classical in
 have hp:=provesAns_0 (b:=decide (t.ProvesP k rows)) he h1 h2 (fun r hr n hn=>aV.2 (h3 r hr n hn)) (by simp)
 exact⟨_,hp,fun hb=>Pt he hp hb w⟩
def putAtT(rows:List (List Int))(p s:Nat)(v:Int):List (List Int):=rows.set p ((rows.getD p []).set s v)
def newOf(n b:Int):Int:=max (-1) (min 20000000 (n+b))
def changeTo(rows:List (List Int))(P S B:List Int)(a b:Nat):Nat→List (List Int)
 |0=>rows
 |i+1=>let r:=changeTo rows P S B a b i
  let p:=((P.getD i 0)%a).toNat
  let s:=((S.getD i 0)%b).toNat
  putAtT r p s (newOf ((r.getD p []).getD s 0) (B.getD i 0))
def Tbl(rows:List (List Int))(a b:Nat):Prop:=rows.length=a∧(∀r∈rows,r.length=b)∧∀r∈rows,∀n∈r,-1≤n∧n≤20000000
theorem Tbl.putT{rows:List (List Int)}{a b p s:Nat}(h:Tbl rows a b)(hp:p<a){v:Int}(hv: -1≤v∧v≤20000000):Tbl (putAtT rows p s v) a b:=by
 obtain⟨h1,h2,h3⟩:=h;have hp':p<rows.length:=by omega
 have e:rows.getD p []=rows[p]:=by simp[List.getD,hp']
 have hm:rows[p]∈rows:=List.getElem_mem hp';unfold putAtT;rw[e];refine⟨by simpa using h1,fun r hr=> ?_,fun r hr n hn=> ?_⟩
 ·rcases List.mem_or_eq_of_mem_set hr with hr|rfl
  ·exact h2 r hr
  ·rw[List.length_set];exact h2 _ hm
 ·rcases List.mem_or_eq_of_mem_set hr with hr|rfl
  ·exact h3 r hr n hn
  ·rcases List.mem_or_eq_of_mem_set hn with hn|rfl
   ·exact h3 _ hm n hn
   ·exact hv
theorem Yw(n b:Int): -1≤newOf n b∧newOf n b≤20000000:=by unfold newOf;omega
theorem changeTo_tbl{rows:List (List Int)}{P S B:List Int}{a b:Nat}(ha:0<a)(h:Tbl rows a b):∀i,Tbl (changeTo rows P S B a b i) a b
 |0=>h
 |i+1=>by
  unfold changeTo;refine(changeTo_tbl ha h i).putT ?_ (Yw _ _);have:=Int.emod_lt_of_pos (P.getD i 0) (show 0<(a:Int) by omega)
  have:=Int.emod_nonneg (P.getD i 0) (show(a:Int)≠0 by omega)
  omega
theorem table_tbl(he:t.taskErr k=0):Tbl (t.tabTo k t.places.length) t.places.length (2^t.shows.length):=by
 have h:=taskOk_of he;refine⟨tabTo_len _ _ _,fun r hr=> ?_,fun r hr n hn=> ?_⟩
 ·unfold tabTo at hr;obtain⟨p,_,rfl⟩:=List.mem_map.1 hr;exact rowTo_len _ _ _ _
 ·unfold tabTo at hr;obtain⟨p,_,rfl⟩:=List.mem_map.1 hr;unfold rowTo at hn;obtain⟨s,_,rfl⟩:=List.mem_map.1 hn;exact Fx h _ _
end Town
end Go.St
end
section
namespace Go.Proofs.YtfjnacajjpaeiaaGreatDoor
open Go Go.Bp Go.St Go.RowKit Go.Proofs Go.ChangeShapes Go.WideShapes Go.ChangeAt
theorem Zk:(Rows.streetAnyRow.inPlace==Tryz.pinned.checked.prog.inPlace 11)=true:=by kernel_rfl
theorem Zh:(Rows.streetAnyRow.unfollowed==Tryz.pinned.checked.prog.unfollowed 11)=true:=by kernel_rfl
theorem Zi:(Rows.streetAnyRow.recurses==Tryz.pinned.checked.prog.recurses 11)=true:=by kernel_rfl
theorem Zj:(Rows.streetAnyRow.named==Tryz.pinned.checked.prog.varsNamed 11)=true:=by kernel_rfl
theorem Yz:joinedFacts Tryz.pinned.checked.prog 11 Tryz.f11 Rows.streetAnySpec Rows.streetAnyRow=true:=by
 unfold joinedFacts;rw[Zk,Zh,Zi,Zj];kernel_rfl
end Go.Proofs.YtfjnacajjpaeiaaGreatDoor
end
section
namespace Go.St
open Go Go.Bp Go.RowKit Go.Proofs Go.ChangeShapes Go.WideShapes Go.ChangeAt
def Yr(w:World)(v:Value)(x P S:List Nat)(B:List Int):Prop:=∃a b c d,v=.agg #[a,b,c,d]∧Ts w a x∧Ts w b P∧Ts w c S∧Yn w d B
section
variable{H:Type}{enc:TypeId×Value→H}{w:World}{b0:Nat}
theorem Yt:Tryz.prog.cellsOf 78=1:=by kernel_rfl
theorem Yv:Tryz.prog.cellsOf 72=1:=by kernel_rfl
theorem Yk:Tryz.prog.cellsOf 65=1:=by kernel_rfl
theorem Yj:Tryz.prog.cellsOf 74=3:=by kernel_rfl
theorem Yu:Tryz.prog.cellsOf 76=4:=by kernel_rfl
theorem Ze{n:Int}(h:(Lit.int .i16 n).wf=true): -32768≤n∧n≤32767:=by
 simp[Lit.wf,IntKind.min,IntKind.max,IntKind.signed,IntKind.bits] at h;omega
theorem Za{n:Nat}{cs:List Value}{x:DataW H×List MemPlace}(h:DataW.trod enc Tryz.prog w 0 (fun _=>true) true n 72 cs=some x):∃v xs,cs=[v]∧Yn w v xs:=by
 obtain⟨v,xs,h1,h2,h3⟩:=rG (fun n:Int=>[Value.int .i16 n]) (fun a=> -32768≤a∧a≤32767) (fun _=>rfl) Tryz.underlying72 Yt (fun n c1 y hy=>by
  obtain⟨k,h1,_,h2⟩:=DataW.trod_int Tryz.underlying78 hy;exact⟨k,h1,Ze h2⟩) h
 have e:xs.flatMap (fun n:Int=>[Value.int .i16 n])=Zc xs:=Fy (fun n:Int=>Value.int .i16 n) xs
 rw[e] at h2;exact⟨v,xs,h1,h2,h3⟩
theorem Zf{c0 c1 c2:Value}{cs:List Value}(hl:cs.length=3)(h0:(cs.drop 0).take 1=[c0])(h1:(cs.drop 1).take 1=[c1])(h2:(cs.drop 2).take 1=[c2]):cs=[c0,c1,c2]:=by
 match cs,hl with
 | [x0,x1,x2],_=>simp at h0 h1 h2;simp[h0,h1,h2]
theorem Yp{v:Value}{d:DataW H}{p:List MemPlace}(hv:Value.okWide Tryz.prog w .any b0 76 v)(h:DataW.Trod enc Tryz.prog w 0 (fun _=>true) true 76 v d p):∃x P S B,Yr w v x P S B:=by
 obtain⟨cs,rfl,hcs⟩:=okWide_struct Tryz.underlying76 hv;obtain⟨fuel,hf⟩:=h;obtain⟨xs,m,_,_,hl,hx,hE⟩:=DataW.trod_struct Tryz.underlying76 hf;rw[Yu] at hl;have hx3:xs.length=2:=hx;have e0:DataW.trod enc Tryz.prog w 0 (fun _=>true) true m 65 (((Value.agg cs).cells.toList.drop 0).take (Tryz.prog.cellsOf 65))=xs[0]? :=hE 0 _ rfl
 have e1:DataW.trod enc Tryz.prog w 0 (fun _=>true) true m 74 (((Value.agg cs).cells.toList.drop 1).take (Tryz.prog.cellsOf 74))=xs[1]? :=hE 1 _ rfl
 rw[Yk] at e0;rw[Yj] at e1;rw[List.getElem?_eq_getElem (by omega)] at e0 e1
 obtain⟨a,xa,h0,ha⟩:=Ur e0;obtain⟨ys,m2,_,_,hl2,hx2,hE2⟩:=DataW.trod_struct Tryz.underlying74 e1;rw[Yj] at hl2;have hx4:ys.length=3:=hx2;have f0:DataW.trod enc Tryz.prog w 0 (fun _=>true) true m2 65 (((((Value.agg cs).cells.toList.drop 1).take 3).drop 0).take (Tryz.prog.cellsOf 65))=ys[0]? :=hE2 0 _ rfl
 have f1:DataW.trod enc Tryz.prog w 0 (fun _=>true) true m2 65 (((((Value.agg cs).cells.toList.drop 1).take 3).drop 1).take (Tryz.prog.cellsOf 65))=ys[1]? :=hE2 1 _ rfl
 have f2:DataW.trod enc Tryz.prog w 0 (fun _=>true) true m2 72 (((((Value.agg cs).cells.toList.drop 1).take 3).drop 2).take (Tryz.prog.cellsOf 72))=ys[2]? :=hE2 2 _ rfl
 rw[Yk] at f0 f1;rw[Yv] at f2;rw[List.getElem?_eq_getElem (by omega)] at f0 f1 f2
 obtain⟨b,xb,g0,hb⟩:=Ur f0;obtain⟨c,xc,g1,hc⟩:=Ur f1;obtain⟨d,xd,g2,hd⟩:=Za f2;have e3:=Zf hl2 g0 g1 g2;refine⟨xa,xb,xc,xd,a,b,c,d,?_,ha,hb,hc,hd⟩;have:cs=#[a,b,c,d]:=by
  apply Array.ext';have hcs:(Value.agg cs).cells.toList=cs.toList:=by simp[Value.cells]
  rw[hcs] at hl h0 e3;match hq:cs.toList,hl with
  | [x0,x1,x2,x3],_=>
   rw[hq] at h0 e3;simp at h0 e3;simp[h0,e3]
 rw[this]
end
end Go.St
end
section
namespace Go.Walk
open Go Go.Bp Go.St Go.RowKit Go.Proofs
instance:ScalT Tryz.prog 65:=⟨_,Tryz.underlying65,rfl⟩
instance:ScalT Tryz.prog 72:=⟨_,Tryz.underlying72,rfl⟩
instance:ScalT Tryz.prog 78:=⟨_,Tryz.underlying78,rfl⟩
instance:ScalT Tryz.prog 47:=⟨_,Tryz.underlying47,rfl⟩
instance:ZeroT Tryz.prog 76 [.slice none 0 0,.slice none 0 0,.slice none 0 0,.slice none 0 0]:=⟨.agg #[.slice none 0 0,.slice none 0 0,.slice none 0 0,.slice none 0 0],96,by kernel_rfl,by simp[Value.cells],by decide⟩
instance(priority:=2000){W:World}{v cv z:Value}{t:Town}{k k2:Task}{l:List Step}{m ka kb ks km:Int}[p:TownC W v t][q:TaskC W (.agg #[.int .i64 ka,.int .i64 kb,.int .i64 ks,.int .i64 km,cv]) k][r:StepsC W z l][i:AimE t k l k2 m]:
 FunC Tryz.prog 41 #[v,.agg #[.int .i64 ka,.int .i64 kb,.int .i64 ks,.int .i64 km,cv],z] W (fun e W'=>e=.returned (.tuple #[.agg #[.int .i64 k2.a,.int .i64 k2.b,.int .i64 k2.show_,.int .i64 k2.time,cv],.int .i64 m])∧StepC W W'):=
 ⟨(Yg _ _ _ _ _ _ _ p.h q.h r.h i.h.2.1 i.h.2.2).mono fun e W' ⟨cv',h1,h2,hE⟩=>by
  rw[i.h.1] at h2;injection h1 with h1
  injection h1 with h1
  injection h1 with _ h1
  injection h1 with _ h1
  injection h1 with _ h1
  injection h1 with _ h1
  injection h1 with h1 _
  subst h1;exact⟨h2,⟨hE⟩⟩⟩
class RowsC (W:World) (v:Value) (r:outParam (List (List Int))):Prop where h:Go.St.Rows W v r
class RowsOC (W:World) (v:Value) (B:outParam World) (r:outParam (List (List Int))):Prop where h:fY B.heap.size W v r
class TableE (t:Town) (k:Task) (r:outParam (List (List Int))) (e:outParam Int):Prop where h:t.tableAns k=(r,e)
class ProvesE (t:Town) (k:Task) (r:List (List Int)) (b:outParam Bool) (e:outParam Int):Prop where h:t.provesAns k r=(b,e)
instance{W B:World}{v:Value}{r:List (List Int)}[p:RowsOC W v B r]:RowsC W v r:=⟨p.h.rows⟩
instance{a b:World}{v:Value}{B:World}{r:List (List Int)}[s:StepC a b][p:RowsOC a v B r]:RowsOC b v B r:=⟨p.h.ext s.h⟩
instance{W:World}{v u:Value}{t:Town}{k:Task}{r:List (List Int)}{n:Int}[p:TownC W v t][q:TaskC W u k][i:TableE t k r n]:FunC Tryz.prog 26 #[v,u] W (fun e W'=>∃A c,e=.returned (.tuple #[.slice A r.length c,.int .i64 n])∧RowsOC W' (.slice A r.length c) W r∧StepC W W'):=
 ⟨(Ds _ _ _ _ _ p.h q.h).mono fun e W' h=>by
  rw[i.h] at h;obtain⟨v,rfl,hO,hE⟩:=h;obtain⟨vs,h1,h2,_,_⟩:=id hO;obtain⟨A,c,rfl,_⟩:=Sl.of_own h2;exact⟨A,c,rfl,⟨hO⟩,⟨hE⟩⟩⟩
instance{W:World}{v u z:Value}{t:Town}{k:Task}{r:List (List Int)}{b:Bool}{n:Int}[p:TownC W v t][q:TaskC W u k][s:RowsC W z r][i:ProvesE t k r b n]:FunC Tryz.prog 28 #[v,u,z] W (fun e W'=>e=.returned (.tuple #[.bool b,.int .i64 n])∧StepC W W'):=
 ⟨(nL _ _ _ _ _ _ _ p.h q.h s.h).mono fun e W' ⟨h,hE⟩=>⟨by rw[i.h] at h;exact h,⟨hE⟩⟩⟩
section
variable{W Bv9:World}{n c p:Nat}{A0:Option Addr}{rows:List (List Int)}
theorem Yh(h:fY Bv9.heap.size W (.slice A0 n c) rows)(hp:p<rows.length)(hn:0<rows[p].length):∃ad g cr,A0=some ad∧cS W (ad.add p) [.slice (some ⟨g,0,none⟩) rows[p].length cr]∧
 RowC W (.slice (some ⟨g,0,none⟩) rows[p].length cr) Bv9 3 1 rows[p].length (gA rows[p])∧ad.block≠g∧
 ∀(W':World)(r':List Int),r'.length=rows[p].length→RowC W' (.slice (some ⟨g,0,none⟩) rows[p].length cr) Bv9 3 1 rows[p].length (gA r')→W.grownBy W' (some g)→fY Bv9.heap.size W' (.slice A0 n c) (rows.set p r'):=by
 obtain⟨vs,h1,h2,h3,h4⟩:=h;have hpv:p<vs.length:=by omega
 have hr:=h3 p hpv hp;rcases hr.2 with ⟨_,e0⟩|⟨g,cap,cur,e0,hb,hg,hnc,hcm,hcs,htake⟩
 ·omega
 ·have hne0:(Value.slice A0 n c).ownBlock≠some g:=by
   intro e;rcases h2.2 with ⟨e2,_⟩|⟨g2,cap2,cur2,e2,_,hg2,_⟩
   ·rw[e2] at e;cases e
   ·rw[e2] at e;have e3:g2=g:=Option.some.inj e;subst e3;rw[hg] at hg2;injection hg2 with hg2;injection hg2 with _ hg2
    exact absurd hg2 (by decide)
  have hsl:=Sl.of_own h2;obtain⟨A1,c1,e1,_,_,_,hc4⟩:=hsl;injection e1 with e11 e12 e13
  obtain⟨ad,had,hc⟩:=hc4 (by omega)
  subst e11;refine⟨ad,g,cap,had,?_,⟨by rw[←e0];exact hr⟩,fun e=>hne0 (by rw[had];simp[Value.ownBlock,e]),?_⟩
  ·intro j u hu
   cases j with
   |zero=>
    simp at hu;rw[rN,←hu,←e0];exact hc p _ (by simp[hpv])
   |succ j=>simp at hu
  ·intro W' r' hl hrow hgr;refine⟨vs,by simpa using h1,?_,?_,h4⟩
   ·have:=fM h2 hgr hne0;simpa using this
   ·intro i hi hi';by_cases e:i=p
    ·subst e;have hx:=hrow.h;rw[←e0] at hx;simp only[List.getElem_set_self];unfold iA;rw[hl];exact hx
    ·rw[List.getElem_set_ne (by omega)]
     have hne:vs[i].ownBlock≠some g:=by
      intro e2;have e3:vs[p].ownBlock=some g:=by rw[e0];rfl
      have hpw:=List.pairwise_iff_getElem.1 h4;rcases Nat.lt_or_gt_of_ne e with hlt|hlt
      ·exact hpw i p hi hpv hlt (e2.trans e3.symm)
      ·exact hpw p i hpv hi hlt (e3.trans e2.symm)
     exact fM (h3 i hi (by simpa using hi')) hgr hne
theorem Yy(l:List Int)(s:Nat)(x:Int):(gA l).set s (.int .i64 x)=gA (l.set s x):=by simp[gA,List.map_set]
theorem Yq{W b:World}{g c m:Nat}{l:List Int}(h:RowC W (.slice (some ⟨g,0,none⟩) m c) b 3 1 m (gA l)){s:Nat}(hs:s<l.length):cS W ((⟨g,0,none⟩:Addr).add s) [.int .i64 l[s]]:=by
 obtain⟨A1,c1,e1,_,_,h3,hc4⟩:=Sl.of_own h.h;injection e1 with e11 e12 e13
 obtain⟨ad,had,hc⟩:=hc4 (by rw[Xs] at h3;omega)
 rw[←e11] at had;injection had with had
 subst had;intro j u hu
 cases j with
 |zero=>simp at hu;rw[rN,←hu];exact hc s _ (by simp[gA,hs])
 |succ j=>simp at hu
theorem Yo{W W':World}{ad:Addr}{g:Nat}{v:Value}(h:cS W ad [v])(hg:W.grownBy W' (some g))(hne:ad.block≠g):cS W' ad [v]:=by
 intro j u hu
 cases j with
 |zero=>
  simp at hu;subst hu;have:=h 0 v rfl;rw[rN] at this⊢;exact hg.cell this (fun e=>hne (Option.some.inj e))
 |succ j=>simp at hu
theorem Yl{rows:List (List Int)}{P S B:List Int}{N M i pp ss:Nat}{y1 y2 y3:Int}(h1:P.getD i 0=y1)(h2:S.getD i 0=y2)(h3:B.getD i 0=y3)(e1:y1%N=pp)(e2:y2%M=ss)
 (hp:pp<(Town.changeTo rows P S B N M i).length)(hs:ss<(Town.changeTo rows P S B N M i)[pp].length):
 Town.changeTo rows P S B N M (i+1)=(Town.changeTo rows P S B N M i).set pp ((Town.changeTo rows P S B N M i)[pp].set ss (Town.newOf (Town.changeTo rows P S B N M i)[pp][ss] y3)):=by
 rw[Town.changeTo];simp only[h1,h2,h3,e1,e2,Int.toNat_natCast,Town.putAtT];have e:(Town.changeTo rows P S B N M i).getD pp []=(Town.changeTo rows P S B N M i)[pp]:=by simp[List.getD,hp]
 rw[e];congr 3
 simp[List.getD,hs]
theorem Zg{a v0:World}{g:Nat}[q:AtC v0 g][y:ExtC a v0]:AtC a g:=⟨Nat.le_trans y.h.size q.h⟩
theorem Ym{w:World}{ad:Addr}{xs:List Int}(h:cS w ad (Zc xs)){k:Nat}(hk:k<xs.length):CellsB w (ad.add k) [.int .i16 xs[k]]:=⟨by
 intro j u hu
 cases j with
 |zero=>simp at hu;rw[rN,←hu];exact h k _ (by simp[Zc,hk])
 |succ j=>simp at hu⟩
theorem Yi{w:World}{ad:Addr}{xs:List Nat}(h:cS w ad (Uo xs)){k:Nat}(hk:k<xs.length):CellsB w (ad.add k) [.int .u8 ((xs[k]:Nat):Int)]:=⟨by
 intro j u hu
 cases j with
 |zero=>simp at hu;rw[rN,←hu];exact cS.n8 (h:=h) hk
 |succ j=>simp at hu⟩
theorem Zd{g s:Nat}:(⟨g,0,none⟩:Addr).add s=⟨g,s,none⟩:=by unfold Addr.add;split<;>simp_all
theorem Ys{A B C:World}{row:Option Nat}(hE:Ext A B)(hg:B.grownBy C row):A.grownBy C row:=
 ⟨hg.os.trans hE.os,hg.tape.trans hE.tape,hg.output.trans hE.output,Nat.le_trans hE.size hg.size,fun j hj hn=>(hg.block j (Nat.lt_of_lt_of_le hj hE.size) hn).trans (hE.block j hj)⟩
end
end Go.Walk
end
section
namespace Go.Walk
open Go Go.Bp Go.St Go.RowKit Go.Proofs
theorem Town.taken_open2{t:Town}{k:Task}(he:t.taskErr k=0)(x:List Nat):∀s∈t.taken k x,s.st∉k.closed:=fun s hs=>
 (Town.mem_stepsAll.1 ((Town.tO (Town.taskOk_of he) (x.take 200) k.a (Town.taskOk_of he).a).1 s hs)).2.1
set_option synthInstance.maxSize 2000
set_option synthInstance.maxHeartbeats 400000
set_option maxHeartbeats 8000000
theorem LAny(tv kv uv:Value)(t:Town)(k:Task)(x P S:List Nat)(B:List Int)(w:World)(h:aM w tv t)(hk:bA w kv k)(hu:Yr w uv x P S B)(hv:Env w):
 Calls Tryz.prog 11 #[tv,kv,uv] w (dB w true):=by
 obtain⟨pv,sv,tmv,xv,rfl,hT⟩:=id h;obtain⟨A1,cp1,rfl,_,hc1,_,_⟩:=hT.places;obtain⟨A2,cp2,rfl,_,hc2,_,_⟩:=hT.shows;obtain⟨A3,cp3,rfl,_,_,_,_⟩:=hT.times;obtain⟨A4,cp4,rfl,_,hc4,_⟩:=id hT.streets;obtain⟨ka,kb,ks,km,kl⟩:=k;obtain⟨cv,rfl,hC⟩:=hk;obtain⟨A5,cp5,rfl,_⟩:=id hC;have i1:=TownB.mk h;have i2:=IntsB.mk hC;have hST:=hT.streets;clear hT;have i3:=EnvB.mk hv;obtain⟨_,_,_,_,rfl,hx,hP,hS,hB⟩:=hu;obtain⟨Ax,cx9,rfl,_⟩:=id hx.1;obtain⟨AP,cP9,rfl,uP1,uP2,_,uP4⟩:=id hP.1;obtain⟨AS,cS9,rfl,uS1,uS2,_,uS4⟩:=id hS.1;obtain⟨AB,cB9,rfl,uB1,uB2,_,uB4⟩:=id hB.1;unfold maxLen at uP2;have i4:=NumsB.mk hx;by_cases he:t.taskErr ⟨ka,kb,ks,km,kl⟩=0
 ·have f4:=TaskE.mk he;obtain⟨⟨qa,qb,qs,qm,ql⟩,m,hA,he2,h0,hd,hm,_,hw⟩:=Town.Qm he x;obtain⟨l,hl0⟩:∃l,t.taken ⟨ka,kb,ks,km,kl⟩ x=l:=⟨_,rfl⟩;have f5:TakenE t ⟨ka,kb,ks,km,kl⟩ x l:=⟨hl0,he⟩;rw[hl0] at hA hw;have f6:AimE t ⟨ka,kb,ks,km,kl⟩ l ⟨qa,qb,qs,qm,ql⟩ m:=⟨hA,he,by rw[←hl0];exact Town.taken_open2 he x⟩
  have hq:ql=kl:=by have:=congrArg (fun r:Task×Int=>r.1.closed) hA;simp only at this;rw[←this];unfold Town.aimed;split<;>rfl
  subst hq;have hok2:=Town.taskOk_of he2;have ha:=hok2.a;have hsh:=aV.1 hok2.sh;have hn6:=hok2.ok.sh;simp only at ha hsh;obtain⟨p,rfl,hp⟩:∃p:Nat,qa=(p:Int)∧p<t.places.length:=by have:=aV.1 ha;exact⟨qa.toNat,by omega,by omega⟩
  obtain⟨M,hM⟩:∃M:Nat,2^t.shows.length=M:=⟨_,rfl⟩;have hM2:(2:Int)^t.shows.length=(M:Int):=by rw[←hM];push_cast;rfl
  have hset:t.sets=(M:Int):=hM2;rw[hset] at hsh;obtain⟨s,rfl⟩:∃s:Nat,qs=(s:Int):=⟨qs.toNat,by omega⟩
  have hs:s<M:=by omega
  have hMl:1≤M∧M≤64:=by have:=Town.sets_bd hn6;rw[hset] at this;omega
  have htb:=Town.table_tbl he2;have hta:=Town.tableAns_0 he2;obtain⟨rows,hrows⟩:∃r,t.tabTo ⟨p,qb,s,qm,ql⟩ t.places.length=r:=⟨_,rfl⟩;rw[hrows] at htb hta;rw[hM] at htb;have f7:=TableE.mk hta;obtain⟨N,hN⟩:∃n,rows.length=n:=⟨_,rfl⟩;have hNp:t.places.length=N:=by rw[←hN];exact htb.1.symm
  rw[hNp] at htb;have hTb:=Lib.hid (fun i=>Town.changeTo_tbl (P:=P.map fun n:Nat=>(n:Int)) (S:=S.map fun n:Nat=>(n:Int)) (B:=B) (by omega:0<N) htb i)
  have hAp:=Lib.hid (fun(r:List (List Int))(hr:Town.Tbl r N M)=>Town.any_pack he2 (rows:=r) (by rw[hNp];exact hr.1) (by rw[hM];exact hr.2.1) hr.2.2 hw)
  have HN:=Lib.hid hN;have HNp:=Lib.hid hNp;have f8:SetsE t.shows.length M:=⟨_,rfl,by omega,hM2⟩
  clear hA hl0 hd hm h0 hok2 ha hrows hta htb hw he he2 hM hM2 hset hn6 hN hNp;go_enter Tryz.func11,Tryz.ntmps11
  go_wp2_with (first|go_skip|(with_reducible refine pZ ?_)|(with_reducible refine pY ?_)|(with_reducible refine qA ?_;first|rintro _ W ⟨rfl,_⟩|rintro _ W ⟨_,_,rfl,_,_⟩)|(with_reducible refine oQ ?_;intro W g _ _ _)|(with_reducible refine pX ?_;intro W _ _)|(with_reducible refine Tq ?_;intro W g _ _ _)|(with_reducible refine oR ?_;intro W g _ _ _)|(with_reducible refine oS ?_;intro _ _ W hR _))
  apply eF [22,23,24,25,26,27,28,29,21,30,31,7,8] (fun x w'=>∃g:Nat,x 7=.pointer (some ⟨g,0,none⟩)∧x 8=.int .i64 m∧StepC W w'∧AtC W g∧BlkC w' g 43 [.int .i64 p,.int .i64 qb,.int .i64 s,.int .i64 qm,.slice A5 ql.length cp5])
  case h=>
   refine aR (.take 0 (.take 1 (.take 2 (.take 3 (.take 4 (.take 5 (.two 6 (.two 7 (.take 8 (.take 9 (.take 10 (.one 11 (.one 12 (.take 13 .nil)))))) 11 (.one 7 (.take 8 (.take 9 (.take 10 (.one 12 (.take 13 .nil))))))) 11 (.one 6 (.one 7 (.take 8 (.take 9 (.take 10 (.one 12 (.take 13 .nil)))))))))))))) (fun w'=>Ext W w') ?_ (fun hHd=> ?_) (hQ:=by intro _ _ _ _ _ h;exact absurd h.1 (fun e=>by cases e))
   ·exact ExtC.h
   repeat' first|((with_reducible refine aB ?_);(first|(refine tk (v:= ?_) ?_ hHd ?_;rotate_left;(·(intro W' h;have:=StepC.mk h;with_reducible exact Ue)))|(refine tk (v:= ?_) ?_ hHd ?_;rotate_left;(·(intro wq hSw;go_simp;(try with_reducible rfl)))));(try simp only[pS]))|((with_reducible refine bC ?_);refine aQ (by simp only[gS];rfl) ?_)|((with_reducible refine fQ ?_);refine dI (by simp only[gS];rfl) (by simp only[gS];rfl) ?_ ?_)|(with_reducible refine Ua ?_;intro V g _ _ _)|(with_reducible refine pX ?_;intro V _ _)|((with_reducible refine Tx ?_);first|(rintro _ V ⟨rfl,_⟩;refine⟨_,rfl,?_⟩)|(rintro _ V ⟨_,_,rfl,_,_⟩;refine⟨_,rfl,?_⟩))|((with_reducible refine bB ?_);clear hHd;refine aJ ExtC.h (fun hHd=> ?_);(try simp only[pS]))|(with_reducible refine aG ?_)
   all_goals
    refine⟨rfl,?_⟩;refine bL ?_ ?_
    ·simp only[Act.sets,Act.put,List.foldl_cons,List.foldl_nil,List.setIfInBounds_toArray,List.set_cons_zero,List.set_cons_succ,Act.get];rfl
    exact⟨_,rfl,rfl,⟨ExtC.h⟩,Zg,by infer_instance⟩
  rintro x7 W9 ⟨g7,hx7,hx8,_,hA7,hB7⟩;simp only[Act.sets,Act.put,List.foldl_cons,List.foldl_nil,List.setIfInBounds_toArray,List.set_cons_zero,List.set_cons_succ,hx7,hx8];go_wp2_with (first|(go_at_call 26;with_reducible refine qA ?_;rintro _ W10 ⟨A9,c9,rfl,hO9,_⟩)|(first|go_skip|(with_reducible refine pZ ?_)|(with_reducible refine pY ?_)|(with_reducible refine qA ?_;first|rintro _ V ⟨rfl,_⟩|rintro _ V ⟨_,_,rfl,_,_⟩)|(with_reducible refine oQ ?_;intro V g _ _ _)|(with_reducible refine pX ?_;intro V _ _)|(with_reducible refine Tq ?_;intro V g _ _ _)|(with_reducible refine oR ?_;intro V g _ _ _)|(with_reducible refine oS ?_;intro _ _ V hR _)))
  go_loopw [11,12,13] (fun iv _ _ wr=>StepC W9 wr∧∃i:Nat,i≤P.length∧i≤S.length∧i≤B.length∧iv=.int .i64 i∧RowsOC wr (.slice A9 rows.length c9) W9 (Town.changeTo rows (P.map fun n:Nat=>(n:Int)) (S.map fun n:Nat=>(n:Int)) B N M i)) (fun iv _ _ _=>P.length-(intOf iv).toNat)
  case atStart=>exact⟨⟨ExtC.h⟩,0,by omega,by omega,by omega,rfl,hO9⟩
  case round=>
   obtain⟨_,i,hi1,hi2,hi3,rfl,hO⟩:=hrel;obtain⟨r,hr⟩:∃r,Town.changeTo rows (P.map fun n:Nat=>(n:Int)) (S.map fun n:Nat=>(n:Int)) B N M i=r:=⟨_,rfl⟩
   have htb:=hTb.out i;rw[hr] at hO htb;obtain⟨tb1,tb2,tb3⟩:=htb;have Htb:=Lib.hid (show Town.Tbl r N M from⟨tb1,tb2,tb3⟩)
   by_cases hall:i<P.length∧i<S.length∧i<B.length
   ·obtain⟨j1,j2,j3⟩:=hall;obtain⟨adP,rfl,cP⟩:=uP4 (by omega)
    obtain⟨adS,rfl,cSs⟩:=uS4 (by omega)
    obtain⟨adB,rfl,cB⟩:=uB4 (by omega)
    have i31:=Yi cP j1;have i32:=Yi cSs j2;have i33:=Ym cB j3;have b1:=hP.2 _ (List.getElem_mem j1);have b2:=hS.2 _ (List.getElem_mem j2);have b3:=hB.2 _ (List.getElem_mem j3);obtain⟨y1,hy1⟩:∃y,P[i]=y:=⟨_,rfl⟩;obtain⟨y2,hy2⟩:∃y,S[i]=y:=⟨_,rfl⟩;obtain⟨y3,hy3⟩:∃y,B[i]=y:=⟨_,rfl⟩;rw[hy1] at i31 b1;rw[hy2] at i32 b2;rw[hy3] at i33 b3;obtain⟨pp,hpp⟩:∃n,y1%N=n:=⟨_,rfl⟩;obtain⟨ss,hss⟩:∃n,y2%M=n:=⟨_,rfl⟩;have hNpos:0<N:=by rw[←HNp.out];omega
    have hpl:pp<r.length:=by rw[tb1,←hpp];exact Nat.mod_lt _ hNpos
    have hsl:ss<r[pp].length:=by rw[tb2 _ (List.getElem_mem hpl),←hss];exact Nat.mod_lt _ (by omega)
    have hxb:=tb3 _ (List.getElem_mem hpl) _ (List.getElem_mem hsl);obtain⟨ad,g,cr,rfl,cA,hRw,hne,hput⟩:=Yh hO.h hpl (by omega)
    have cXx:=Yq hRw hsl;rw[Zd] at cXx;have Hnext:=Lib.hid (show Town.changeTo rows (P.map fun n:Nat=>(n:Int)) (S.map fun n:Nat=>(n:Int)) B N M (i+1)=r.set pp (r[pp].set ss (Town.newOf r[pp][ss] y3)) by
     have:=Yl (rows:=rows) (P:=P.map fun n:Nat=>(n:Int)) (S:=S.map fun n:Nat=>(n:Int)) (B:=B) (N:=N) (M:=M) (i:=i) (pp:=pp) (ss:=ss) (y1:=(y1:Int)) (y2:=(y2:Int)) (y3:=y3)
      (by simp[List.getD,j1,hy1]) (by simp[List.getD,j2,hy2]) (by simp[List.getD,j3,hy3]) (by rw[←hpp];push_cast;rfl) (by rw[←hss];push_cast;rfl)
     simp only[hr] at this;exact this hpl hsl)
    obtain⟨row,hrow⟩:∃l,r[pp]=l:=⟨_,rfl⟩;simp only[hrow] at hRw hput hsl cA cXx hxb Hnext;obtain⟨x0,hx0⟩:∃v,row[ss]=v:=⟨_,rfl⟩;simp only[hx0] at cXx hxb Hnext;obtain⟨L,hL⟩:∃n,row.length=n:=⟨_,rfl⟩;have hlt:ss<L:=by omega
    have hRw2:=hRw;rw[hL] at hRw cA;have i34:=CellsB.mk cA;have i35:=CellsB.mk cXx;have zp:(pp:Int)<(rows.length:Int):=by rw[HN.out,←tb1];omega
    have zs:(ss:Int)<(L:Int):=by omega
    have z1:(i:Int)<(P.length:Int):=by omega
    have z2:(i:Int)<(S.length:Int):=by omega
    have z3:(i:Int)<(B.length:Int):=by omega
    have w1:IntKind.i64.wrap (y1:Int)=y1:=Dy (by omega) (by omega)
    have w2:IntKind.i64.wrap (y2:Int)=y2:=Dy (by omega) (by omega)
    have w3:IntKind.i64.wrap y3=y3:=Dy (by omega) (by omega)
    have w4:IntKind.i64.wrap (x0+y3)=x0+y3:=Dy (by omega) (by omega)
    have m1:((y1:Nat):Int).tmod (rows.length:Int)=(pp:Int):=by rw[HN.out,←hpp];exact(Int.ofNat_tmod y1 N).symm
    have m2:((y2:Nat):Int).tmod (M:Int)=(ss:Int):=by rw[←hss];exact(Int.ofNat_tmod y2 M).symm
    have zn:¬(rows=[]):=by intro e;have:=HN.out;rw[e] at this;simp at this;omega
    have zm:¬(M=0):=by omega
    have HL:=Lib.hid hL;have Hrow:=Lib.hid hrow;have Hput:=Lib.hid hput;clear cP cSs cB uP4 uS4 uB4 hy1 hy2 hy3 hpp hss tb1 tb2 tb3 hr hrow hx0 hL hput;go_wp2_with (first|go_skip|(with_reducible refine pZ ?_)|(with_reducible refine pY ?_)|(with_reducible refine qA ?_;first|rintro _ V ⟨rfl,_⟩|rintro _ V ⟨_,_,rfl,_,_⟩)|(with_reducible refine oQ ?_;intro V g _ _ _)|(with_reducible refine pX ?_;intro V _ _)|(with_reducible refine Tq ?_;intro V g _ _ _)|(with_reducible refine oR ?_;intro V g _ _ _)|(with_reducible refine oS ?_;intro _ _ V hR _))
    refine aR (.take 0 (.take 1 (.take 2 (.take 3 (.take 4 (.take 5 (.take 6 (.take 7 (.take 8 (.take 9 (.take 10 (.take 11 (.take 12 (.take 13 (.take 14 (.take 15 (.take 16 (.take 17 (.take 18 (.take 19 (.one 20 (.take 21 (.take 22 (.take 23 .nil)))))))))))))))))))))))) (fun w'=>Ext wr w') ?_ (fun hHd=> ?_) (hQ:=by intro _ _ _ _ _ h;exact h)
    ·exact ExtC.h
    repeat' first|((with_reducible refine aB ?_);(first|(refine tk (v:= ?_) ?_ hHd ?_;rotate_left;(·(intro W' h;have:=StepC.mk h;with_reducible exact Ue)))|(refine tk (v:= ?_) ?_ hHd ?_;rotate_left;(·(intro wq hSw;go_simp;(try with_reducible rfl)))));(try simp only[pS]))|((with_reducible refine bC ?_);refine aQ (by simp only[gS];rfl) ?_)|((with_reducible refine fQ ?_);refine dI (by simp only[gS];rfl) (by simp only[gS];rfl) ?_ ?_)|(with_reducible refine Ua ?_;intro V g _ _ _)|(with_reducible refine pX ?_;intro V _ _)|((with_reducible refine Tx ?_);first|(rintro _ V ⟨rfl,_⟩;refine⟨_,rfl,?_⟩)|(rintro _ V ⟨_,_,rfl,_,_⟩;refine⟨_,rfl,?_⟩))|((with_reducible refine bB ?_);clear hHd;refine aJ ExtC.h (fun hHd=> ?_);(try simp only[pS]))|(with_reducible refine aG ?_)
    go_wp2_with (first|go_skip|(with_reducible refine pZ ?_)|(with_reducible refine pY ?_)|(with_reducible refine qA ?_;first|rintro _ V ⟨rfl,_⟩|rintro _ V ⟨_,_,rfl,_,_⟩)|(with_reducible refine oQ ?_;intro V g _ _ _)|(with_reducible refine pX ?_;intro V _ _)|(with_reducible refine Tq ?_;intro V g _ _ _)|(with_reducible refine oR ?_;intro V g _ _ _)|(with_reducible refine oS ?_;intro _ _ V hR _))
    have hne2:(ad.add pp).block≠g:=by unfold Addr.add;split<;>exact hne
    have hRv:RowC V.drew (.slice (some ⟨g,0,none⟩) L cr) W9 3 1 L (gA row):=inferInstance;have hcA:CellsC V.drew (ad.add pp) [.slice (some ⟨g,0,none⟩) L cr]:=inferInstance;refine aR (.take 0 (.take 1 (.take 2 (.take 3 (.take 4 (.take 5 (.take 6 (.take 7 (.take 8 (.take 9 (.take 10 (.take 12 (.take 13 (.take 14 (.take 15 (.take 16 (.take 17 (.take 18 (.one 11 (.take 19 (.take 20 (.take 21 (.take 22 (.one 23 .nil)))))))))))))))))))))))) (fun w'=>Ext W9 w'∧cS w' (ad.add pp) [.slice (some ⟨g,0,none⟩) L cr]) ?_ (fun hHd=> ?_) (hQ:=by intro _ _ _ _ _ h;exact h)
    ·exact⟨ExtC.h,CellsC.h⟩
    repeat' first|((with_reducible refine aB ?_);(first|(refine tk (v:= ?_) ?_ hHd ?_;rotate_left;(·(intro W' h;have:=StepC.mk h.1;have:=CellsB.mk h.2;with_reducible exact Ue)))|(refine tk (v:= ?_) ?_ hHd ?_;rotate_left;(·(intro wq hSw;go_simp;(try with_reducible rfl)))));(try simp only[pS]))|((with_reducible refine bC ?_);refine aQ (by simp only[gS];rfl) ?_)|(with_reducible refine pZ ?_)|((with_reducible refine Xk (t:=3) (off:=ss) (v:=.int .i64 (Town.newOf x0 y3)) hRv ?_);intro V2 hR2 hG)|((with_reducible refine bB ?_);clear hHd;(first|refine aJ ⟨ExtC.h,CellsC.h⟩ (fun hHd=> ?_)|refine aJ ⟨ExtC.h,Yo hcA.h hG.h hne2⟩ (fun hHd=> ?_));(try simp only[pS]))|(with_reducible refine aG ?_)
    go_wp2_with (first|go_skip|(with_reducible refine pZ ?_)|(with_reducible refine pY ?_)|(with_reducible refine qA ?_;first|rintro _ V ⟨rfl,_⟩|rintro _ V ⟨_,_,rfl,_,_⟩)|(with_reducible refine oQ ?_;intro V g _ _ _)|(with_reducible refine pX ?_;intro V _ _)|(with_reducible refine Tq ?_;intro V g _ _ _)|(with_reducible refine oR ?_;intro V g _ _ _)|(with_reducible refine oS ?_;intro _ _ V hR _))
    go_roundw
    case rel=>
     rw[Yy,←HL.out] at hR2;exact⟨⟨ExtC.h⟩,i+1,j1,j2,j3,by go_num,by rw[Hnext.out];exact⟨Hput.out V2 _ (by simp) hR2 (Ys (ExtC.h (a:=wr) (b:=V.drew)) hG.h)⟩⟩
    case measure=>simp[intOf];omega
   ·have hex:Hid ((¬((i:Int)<(P.length:Int)))∨((i:Int)<(P.length:Int)∧¬((i:Int)<(S.length:Int)))∨((i:Int)<(P.length:Int)∧(i:Int)<(S.length:Int)∧¬((i:Int)<(B.length:Int)))):=Lib.hid (by omega)
    obtain⟨b,hpr,hb⟩:=hAp.out r Htb.out;have f9:ProvesE t ⟨p,qb,s,qm,ql⟩ r b 0:=⟨hpr⟩;have hpl:p<r.length:=by rw[tb1,←HNp.out];exact hp
    have hsl:s<r[p].length:=by rw[tb2 _ (List.getElem_mem hpl)];exact hs
    have hval:eP r (p:Int) (s:Int)=r[p][s]:=gJ hpl hsl;obtain⟨ad,g,cr,rfl,cA,hRw,_,_⟩:=Yh hO.h hpl (by omega)
    have cXx:=Yq hRw hsl;obtain⟨x0,hx0⟩:∃v,r[p][s]=v:=⟨_,rfl⟩;obtain⟨L,hL⟩:∃n,r[p].length=n:=⟨_,rfl⟩;rw[hx0] at cXx hval;rw[hval] at hb;rw[hL] at cA hsl;rw[Zd] at cXx;have i20:=CellsB.mk cA;have i21:=CellsB.mk cXx;have zs:(s:Int)<(L:Int):=by omega
    have zp:(p:Int)<(rows.length:Int):=by rw[HN.out,←HNp.out];omega
    have Hb:=Lib.hid (show b=false∨(b=true∧0≤x0∧x0≤m) by cases b;exact .inl rfl;exact .inr ⟨rfl,hb rfl⟩)
    clear hb hpr hval hx0 hL cA cXx hRw tb1 tb2 tb3 hr hall;rcases hex.out with z1|⟨z1,z2⟩|⟨z1,z2,z3⟩
    all_goals
     go_wp2_with (first|go_skip|(with_reducible refine pZ ?_)|(with_reducible refine pY ?_)|(with_reducible refine qA ?_;first|rintro _ V ⟨rfl,_⟩|rintro _ V ⟨_,_,rfl,_,_⟩)|(with_reducible refine oQ ?_;intro V g _ _ _)|(with_reducible refine pX ?_;intro V _ _)|(with_reducible refine Tq ?_;intro V g _ _ _)|(with_reducible refine oR ?_;intro V g _ _ _)|(with_reducible refine oS ?_;intro _ _ V hR _))
     refine aR (.take 0 (.take 1 (.take 2 (.take 3 (.take 4 (.take 5 (.take 6 (.take 7 (.take 8 (.take 9 .nil)))))))))) (fun w'=>Ext V w') ?_ (fun hHd=> ?_) (hQ:=by intro _ _ _ _ _ h;exact h)
     ·exact ExtC.h
     repeat' first|((with_reducible refine aB ?_);(first|(refine tk (v:= ?_) ?_ hHd ?_;rotate_left;(·(intro W' h;have:=StepC.mk h;with_reducible exact Ue)))|(refine tk (v:= ?_) ?_ hHd ?_;rotate_left;(·(intro wq hSw;go_simp;(try with_reducible rfl)))));(try simp only[pS]))|((with_reducible refine bC ?_);refine aQ (by simp only[gS];rfl) ?_)|((with_reducible refine fQ ?_);refine dI (by simp only[gS];rfl) (by simp only[gS];rfl) ?_ ?_)|(with_reducible refine Ua ?_;intro U g _ _ _)|(with_reducible refine pX ?_;intro U _ _)|((with_reducible refine Tx ?_);first|(rintro _ U ⟨rfl,_⟩;refine⟨_,rfl,?_⟩)|(rintro _ U ⟨_,_,rfl,_,_⟩;refine⟨_,rfl,?_⟩))|((with_reducible refine bB ?_);clear hHd;refine aJ ExtC.h (fun hHd=> ?_);(try simp only[pS]))|(with_reducible refine aG ?_)
     rcases Hb.out with d1|⟨d1,d2,d3⟩
     all_goals
      subst d1;go_wp2_with (first|go_skip|(with_reducible refine pZ ?_)|(with_reducible refine pY ?_)|(with_reducible refine qA ?_;first|rintro _ V ⟨rfl,_⟩|rintro _ V ⟨_,_,rfl,_,_⟩)|(with_reducible refine oQ ?_;intro V g _ _ _)|(with_reducible refine pX ?_;intro V _ _)|(with_reducible refine Tq ?_;intro V g _ _ _)|(with_reducible refine oR ?_;intro V g _ _ _)|(with_reducible refine oS ?_;intro _ _ V hR _))
      go_ret
      exact⟨rfl,ExtC.h⟩
 ·obtain⟨e,hee⟩:∃e,t.taskErr ⟨ka,kb,ks,km,kl⟩=e:=⟨_,rfl⟩;rw[hee] at he;have f4:=TaskE.mk hee;have q1:(e !=0)=true:=by simpa using he
  clear hee he;go_enter Tryz.func11,Tryz.ntmps11
  go_wp2_with (first|go_skip|(with_reducible refine pZ ?_)|(with_reducible refine pY ?_)|(with_reducible refine qA ?_;first|rintro _ W ⟨rfl,_⟩|rintro _ W ⟨_,_,rfl,_,_⟩)|(with_reducible refine oQ ?_;intro W g _ _ _)|(with_reducible refine pX ?_;intro W _ _)|(with_reducible refine Tq ?_;intro W g _ _ _)|(with_reducible refine oR ?_;intro W g _ _ _)|(with_reducible refine oS ?_;intro _ _ W hR _))
  go_ret
  exact⟨rfl,ExtC.h⟩
end Go.Walk
end
