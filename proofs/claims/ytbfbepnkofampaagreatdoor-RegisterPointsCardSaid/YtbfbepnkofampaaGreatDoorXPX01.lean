import Derived.Shelf.SlIterI.Nil
import Derived.Shelf.SortM.Plain
import Derived.Shelf.SortM.SortNone
import Derived.Test.YtbfbepnkofampaaGreatDoorXP18
set_option maxRecDepth 100000
set_option synthInstance.maxSize 2000
set_option synthInstance.maxHeartbeats 400000
set_option maxHeartbeats 8000000
set_option linter.all false
section
namespace Go.Proofs
open Go.Shelf
def Tryz.layKe_ren:Go.Shelf.Ren:=⟨fun|7=>177|10=>239|n=>n,fun|23=>118|26=>3|3=>3|28=>243|0=>0|27=>242|33=>196|4=>4|n=>n,fun|n=>n⟩
theorem Tryz.layKe:Go.Proofs.SlLaysZI.n7 Tryz.prog Tryz.layKe_ren:={
 mixed:=by kernel_rfl
 f7:=⟨Tryz.f177.name,by decide,Tryz.func177.trans (congrArg some (by kernel_rfl))⟩
 f10:=⟨Tryz.f239.name,by decide,Tryz.func239.trans (congrArg some (by kernel_rfl))⟩
 t0:=Tryz.underlying0
 a0:=Tryz.isAgg0
 z0:=Tryz.sizeOf0
 v0:=Tryz.zeroValue0
 t4:=Tryz.underlying4
 a4:=Tryz.isAgg4
 z4:=Tryz.sizeOf4
 v4:=Tryz.zeroValue4
 t23:=Tryz.underlying118
 a23:=Tryz.isAgg118
 z23:=Tryz.sizeOf118
 v23:=Tryz.zeroValue118
 t26:=Tryz.underlying3
 a26:=Tryz.isAgg3
 z26:=Tryz.sizeOf3
 v26:=Tryz.zeroValue3
 t27:=Tryz.underlying242
 a27:=Tryz.isAgg242
 z27:=Tryz.sizeOf242
 v27:=Tryz.zeroValue242
 t28:=Tryz.underlying243
 a28:=Tryz.isAgg243
 z28:=Tryz.sizeOf243
 v28:=Tryz.zeroValue243
 t33:=Tryz.underlying196
 a33:=Tryz.isAgg196
 z33:=Tryz.sizeOf196
 v33:=Tryz.zeroValue196}
def Tryz.laySd_ren:Go.Shelf.Ren:=⟨fun|6=>176|8=>237|9=>238|11=>274|13=>126|12=>275|23=>192|24=>193|14=>297|15=>298|16=>299|17=>300|18=>301|19=>302|20=>303|21=>304|22=>305|25=>324|26=>246|27=>247|28=>325|29=>326|30=>127|31=>336|n=>n,fun|26=>3|28=>243|24=>76|0=>0|3=>3|37=>207|48=>255|50=>257|4=>4|40=>249|39=>248|45=>135|5=>5|9=>9|51=>297|55=>301|57=>324|58=>325|33=>196|n=>n,fun|n=>n⟩
theorem Tryz.laySd:Go.Proofs.SlLaysZI.n6 Tryz.prog Tryz.laySd_ren:={
 mixed:=by kernel_rfl
 f6:=⟨Tryz.f176.name,by decide,Tryz.func176.trans (congrArg some (by kernel_rfl))⟩
 f8:=⟨Tryz.f237.name,by decide,Tryz.func237.trans (congrArg some (by kernel_rfl))⟩
 f11:=⟨Tryz.f274.name,by decide,Tryz.func274.trans (congrArg some (by kernel_rfl))⟩
 t0:=Tryz.underlying0
 a0:=Tryz.isAgg0
 z0:=Tryz.sizeOf0
 v0:=Tryz.zeroValue0
 t24:=Tryz.underlying76
 a24:=Tryz.isAgg76
 z24:=Tryz.sizeOf76
 v24:=Tryz.zeroValue76
 t26:=Tryz.underlying3
 a26:=Tryz.isAgg3
 z26:=Tryz.sizeOf3
 v26:=Tryz.zeroValue3
 t28:=Tryz.underlying243
 a28:=Tryz.isAgg243
 z28:=Tryz.sizeOf243
 v28:=Tryz.zeroValue243
 i26:=by kernel_rfl}
def Tryz.laySo_ren:Go.Shelf.Ren:=⟨fun|5=>238|8=>126|7=>275|19=>192|20=>193|10=>297|11=>298|12=>299|13=>300|14=>301|15=>302|16=>303|17=>304|18=>305|30=>324|31=>246|32=>247|33=>325|34=>326|35=>127|40=>336|n=>n,fun|23=>76|25=>3|3=>3|32=>207|22=>76|0=>0|44=>255|46=>257|4=>4|36=>249|35=>248|41=>135|5=>5|9=>9|53=>297|57=>301|63=>324|64=>325|n=>n,fun|n=>n⟩
theorem Tryz.laySo:Go.Proofs.SlLaysM.n5 Tryz.prog Tryz.laySo_ren:={
 mixed:=by kernel_rfl
 f5:=⟨Tryz.f238.name,by decide,Tryz.func238.trans (congrArg some (by kernel_rfl))⟩
 f7:=⟨Tryz.f275.name,by decide,Tryz.func275.trans (congrArg some (by kernel_rfl))⟩
 f8:=Tryz.func126.trans (congrArg some (by kernel_rfl))
 f10:=⟨Tryz.f297.name,by decide,Tryz.func297.trans (congrArg some (by kernel_rfl))⟩
 f11:=⟨Tryz.f298.name,by decide,Tryz.func298.trans (congrArg some (by kernel_rfl))⟩
 f12:=⟨Tryz.f299.name,by decide,Tryz.func299.trans (congrArg some (by kernel_rfl))⟩
 f13:=⟨Tryz.f300.name,by decide,Tryz.func300.trans (congrArg some (by kernel_rfl))⟩
 f14:=⟨Tryz.f301.name,by decide,Tryz.func301.trans (congrArg some (by kernel_rfl))⟩
 f15:=⟨Tryz.f302.name,by decide,Tryz.func302.trans (congrArg some (by kernel_rfl))⟩
 f16:=⟨Tryz.f303.name,by decide,Tryz.func303.trans (congrArg some (by kernel_rfl))⟩
 f17:=⟨Tryz.f304.name,by decide,Tryz.func304.trans (congrArg some (by kernel_rfl))⟩
 f18:=⟨Tryz.f305.name,by decide,Tryz.func305.trans (congrArg some (by kernel_rfl))⟩
 f19:=Tryz.func192.trans (congrArg some (by kernel_rfl))
 f20:=Tryz.func193.trans (congrArg some (by kernel_rfl))
 f30:=⟨Tryz.f324.name,by decide,Tryz.func324.trans (congrArg some (by kernel_rfl))⟩
 f31:=Tryz.func246.trans (congrArg some (by kernel_rfl))
 f32:=Tryz.func247.trans (congrArg some (by kernel_rfl))
 f33:=⟨Tryz.f325.name,by decide,Tryz.func325.trans (congrArg some (by kernel_rfl))⟩
 f34:=⟨Tryz.f326.name,by decide,Tryz.func326.trans (congrArg some (by kernel_rfl))⟩
 f35:=⟨Tryz.f127.name,by decide,Tryz.func127.trans (congrArg some (by kernel_rfl))⟩
 f40:=⟨Tryz.f336.name,by decide,Tryz.func336.trans (congrArg some (by kernel_rfl))⟩
 t0:=Tryz.underlying0
 a0:=Tryz.isAgg0
 z0:=Tryz.sizeOf0
 v0:=Tryz.zeroValue0
 t3:=Tryz.underlying3
 a3:=Tryz.isAgg3
 z3:=Tryz.sizeOf3
 v3:=Tryz.zeroValue3
 t4:=Tryz.underlying4
 a4:=Tryz.isAgg4
 z4:=Tryz.sizeOf4
 v4:=Tryz.zeroValue4
 t5:=Tryz.underlying5
 a5:=Tryz.isAgg5
 z5:=Tryz.sizeOf5
 v5:=Tryz.zeroValue5
 t9:=Tryz.underlying9
 a9:=Tryz.isAgg9
 z9:=Tryz.sizeOf9
 v9:=Tryz.zeroValue9
 t22:=Tryz.underlying76
 a22:=Tryz.isAgg76
 z22:=Tryz.sizeOf76
 v22:=Tryz.zeroValue76
 t23:=Tryz.underlying76
 a23:=Tryz.isAgg76
 z23:=Tryz.sizeOf76
 v23:=Tryz.zeroValue76
 t25:=Tryz.underlying3
 a25:=Tryz.isAgg3
 z25:=Tryz.sizeOf3
 v25:=Tryz.zeroValue3
 t32:=Tryz.underlying207
 a32:=Tryz.isAgg207
 z32:=Tryz.sizeOf207
 v32:=Tryz.zeroValue207
 t35:=Tryz.underlying248
 a35:=Tryz.isAgg248
 z35:=Tryz.sizeOf248
 v35:=Tryz.zeroValue248
 t36:=Tryz.underlying249
 a36:=Tryz.isAgg249
 z36:=Tryz.sizeOf249
 v36:=Tryz.zeroValue249
 t41:=Tryz.underlying135
 a41:=Tryz.isAgg135
 z41:=Tryz.sizeOf135
 v41:=Tryz.zeroValue135
 t44:=Tryz.underlying255
 a44:=Tryz.isAgg255
 z44:=Tryz.sizeOf255
 v44:=Tryz.zeroValue255
 t46:=Tryz.underlying257
 a46:=Tryz.isAgg257
 z46:=Tryz.sizeOf257
 v46:=Tryz.zeroValue257
 t53:=Tryz.underlying297
 a53:=Tryz.isAgg297
 z53:=Tryz.sizeOf297
 v53:=Tryz.zeroValue297
 t57:=Tryz.underlying301
 a57:=Tryz.isAgg301
 z57:=Tryz.sizeOf301
 v57:=Tryz.zeroValue301
 t63:=Tryz.underlying324
 a63:=Tryz.isAgg324
 z63:=Tryz.sizeOf324
 v63:=Tryz.zeroValue324
 t64:=Tryz.underlying325
 a64:=Tryz.isAgg325
 z64:=Tryz.sizeOf325
 v64:=Tryz.zeroValue325}
end Go.Proofs
namespace Go.Rg
open Go Go.Bp Go.RowKit Go.Walk Go.Proofs Go.Maps Go.Sort Go.Shelf
instance{W:World}{gd:Nat}{m:List (Int×Int)}[hm:MapC Int W gd m]:FunC Tryz.prog 177 #[.map (some gd)] W fun e W'=>∃g,e=.returned (.func (.func 239) #[] #[.pointer (some ⟨g,0,none⟩)])∧BlkC W' g 118 [.map (some gd)]∧StepC W W':=⟨by
 have:=callsIn_wide.1 (AnyZI.keys_in Tryz.layKe Fence.wide 5 trivial rfl (some gd) W);refine this.mono ?_;rintro e w' ⟨rfl,rfl⟩;exact⟨W.heap.size,rfl,⟨Blk.new _ _ _⟩,⟨Ext.ofAlloc _ _⟩⟩⟩
theorem le_max:(1000:Nat)≤maxLen:=by decide +kernel
theorem Pg{x:Int}(h0:0≤x)(h1:x≤40000):(Lit.int .i64 x).wf=true:=by
 have e1:IntKind.i64.min≤0:=by decide
 have e2:40000≤IntKind.i64.max:=by decide
 simp[Lit.wf];omega
theorem sortsI(m:Nat):AnyZI.SortsIn Tryz.prog Tryz.laySd_ren Fence.wide m:=
 ⟨fun blk off cap ss W hH hblk hsz=>callsIn_wide.2 (AnyM.slices_Sort_int Tryz.laySo blk off cap ss W hH hblk hsz),
 fun p cap W=>callsIn_wide.2 (AnyM.slices_Sort_int_none Tryz.laySo p cap W)⟩
class KeysOk (m:List (Int×Int)):Prop where h:(∀p∈m,0≤p.1∧p.1≤40000)∧m.length≤1000
theorem yW{W:World}{g gd:Nat}{m:List (Int×Int)}[hb:BlkC W g 118 [.map (some gd)]][hm:MapC Int W gd m](hw:∀p∈m,0≤p.1∧p.1≤40000)(hl:m.length≤1000):
 Calls Tryz.prog 176 #[.func (.func 239) #[] #[.pointer (some ⟨g,0,none⟩)]] W fun e W'=>∃(A:Option Addr)(c:Nat)(ss:List Int),e=.returned (.slice A ss.length c)∧ss.Perm (m.map Prod.fst)∧RowC W' (.slice A ss.length c) W 3 1 ss.length (encL (ss.mergeSort fun x y=>decide (x≤y)))∧StepC W W':=by
 obtain⟨D0,hown,hD1,hD2⟩:=wN (H:=Unit) (P:=Tryz.prog) (k:=3) rfl hm.h (fun p hp=>Pg (hw p hp).1 (hw p hp).2) (Nat.le_trans hl le_max)
 have hmax:Maps.size D0≤maxLen:=by rw[hD2];exact Nat.le_trans hl le_max
 have hseq:SeqGives Fence.wide 2 Tryz.prog 239 #[.pointer (some ⟨g,0,none⟩)] encZ (fun ss=>ss.Perm (intKeys D0)) (Maps.size D0) W:=
  AnyZI.keys_gives (ρ:=Tryz.layKe_ren) {Tryz.layKe with} Fence.wide _ trivial rfl (by omega) g gd m.length D0 W hb.h.lt (by have:=hb.h.cell 0;simpa using this) hown
 have cS:=AnyZI.sorted_in Tryz.laySd Fence.wide 5 trivial trivial trivial trivial rfl (by omega) (sortsI _) (enters_of Tryz.func238 (by kernel_rfl) rfl) 239 #[.pointer (some ⟨g,0,none⟩)] trivial (enters_of Tryz.func239 (by kernel_rfl) rfl) _ _ hmax (by omega) _ hseq
 change CallsIn _ _ Tryz.prog 176 _ _ _ at cS;refine(callsIn_wide.1 cS).mono ?_;rintro e w' ⟨v,ss,rfl,hS,hrow,hnil,hb⟩;have hp:ss.Perm (m.map Prod.fst):=hS.trans hD1;have he:(ss.mergeSort fun x y=>decide (x≤y)).map encZ=encL (ss.mergeSort fun x y=>decide (x≤y)):=by
  generalize ss.mergeSort (fun x y=>decide (x≤y))=l
  induction l with
  |nil=>rfl
  |cons a l ih=>rw[List.map_cons,ih];rfl
 rw[he] at hrow;rcases hrow.2 with ⟨rfl,_⟩|⟨g',cap,cur,rfl,_⟩
 ·have e0:ss=[]:=hnil.1 rfl;subst e0;exact⟨none,0,[],rfl,hp,⟨hrow⟩,⟨hb⟩⟩
 ·exact⟨some ⟨g',0,none⟩,cap,ss,rfl,hp,⟨hrow⟩,⟨hb⟩⟩
instance{W:World}{g gd:Nat}{m:List (Int×Int)}[hb:BlkC W g 118 [.map (some gd)]][hm:MapC Int W gd m][hk:KeysOk m]:FunC Tryz.prog 176 #[.func (.func 239) #[] #[.pointer (some ⟨g,0,none⟩)]] W fun e W'=>∃(A:Option Addr)(c:Nat)(ss:List Int),e=.returned (.slice A ss.length c)∧ss.Perm (m.map Prod.fst)∧RowC W' (.slice A ss.length c) W 3 1 ss.length (encL (ss.mergeSort fun x y=>decide (x≤y)))∧StepC W W':=⟨yW hk.h.1 hk.h.2⟩
end Go.Rg
end
section
namespace Go.Rg
open Go Go.Bp Go.RowKit Go.Walk Go.Proofs
instance tyVa1:TyNe 121 80:=⟨by decide⟩
instance tyVa2:TyNe 121 95:=⟨by decide⟩
instance tyVa3:TyNe 115 80:=⟨by decide⟩
instance tyVa4:TyNe 115 95:=⟨by decide⟩
instance tyVa7:TyNe 80 95:=⟨by decide⟩
instance tyVa8:TyNe 3 95:=⟨by decide⟩
instance tyVa11:TyNe 121 3:=⟨by decide⟩
def banSpan(x:Event):Span:=⟨x.day,x.until_⟩
def AnyW(_:Value):Prop:=True
theorem Ft(l:List Event):courts l=((ofL 4 l).map Prod.snd).map banSpan:=by rw[dK];rfl
theorem Py(l:List Event):l.filter isOff=(ofL 3 l).map Prod.snd:=by rw[dK];rfl
theorem uB(r:Rules)(l:List Event)(v0 w:World)(gf gt:Nat)(vC vD vT:Value)(born:Int)(Ae:Option Addr)(ce:Nat)(hE:Ext v0 w)(hgf:v0.heap.size≤gf)(hgt:v0.heap.size≤gt)
 [hB:BlkC w gf 121 [vC,vD,vT,.int .i64 r.limit,.int .i64 r.fall,.int .i64 r.ban,.int .i64 born,.slice Ae l.length ce,.slice none 0 0,.slice none 0 0,.map (some gt),.slice none 0 0]][hM:MapC Int w gt []][hR:RowC w (.slice Ae l.length ce) v0 80 9 l.length (encL l)](hn:l.length≤30)(hd:∀x∈l,0≤x.day∧x.day≤40000)(hp:∀x∈l,0≤x.points∧x.points≤20)(hfall:1≤r.fall∧r.fall≤40000)(hban:1≤r.ban∧r.ban≤40000):
 Calls Tryz.prog 122 #[.pointer (some ⟨gf,0,none⟩)] w (fun e W'=>e=.returned (.tuple #[])∧Ext v0 W'∧RowC W' (.slice Ae l.length ce) v0 80 9 l.length (encL l)∧∃Ac cc Ap cp tkn,BlkC W' gf 121 [vC,vD,vT,.int .i64 r.limit,.int .i64 r.fall,.int .i64 r.ban,.int .i64 born,.slice Ae l.length ce,.slice Ac (courts l).length cc,.slice Ap (r.offs l).bans.length cp,.map (some gt),.slice none 0 0]∧RowC W' (.slice Ac (courts l).length cc) v0 95 2 (courts l).length (encL (courts l))∧RowC W' (.slice Ap (r.offs l).bans.length cp) v0 95 2 (r.offs l).bans.length (encL (r.offs l).bans)∧MapC Int W' gt tkn∧∀d,getL tkn d=whenIn (r.offs l).taken d):=by
 have a1:AtC v0 gf:=⟨hgf⟩;have a2:AtC v0 gt:=⟨hgt⟩;have s0:StepC v0 w:=⟨hE⟩;refine dC Tryz.func122 rfl ?_;simp only[Tryz.ntmps122,List.size_toArray,List.length_cons,List.length_nil,Nat.reduceAdd,Nat.reduceSub,Array.replicate_succ,Array.replicate_zero,List.push_toArray,List.append_toArray,List.nil_append,List.cons_append];go_wp2_with (first|(with_reducible refine aH (d:=some 1) ?_;intro V1 g1 hE1 hB1 hA1)|(with_reducible refine aB ?_;rintro _ V2 ⟨q1,q2,rfl,hq1,hq2,hqa1,hqa2,hE2⟩)|(first|(with_reducible refine aA ?_)))
 refine eE (xs:=ofL 4 l) rfl enters_of1 (lI q1 q2 gf 4 Ae ce l) (fun _=>rfl) (fun A B h=>KeepsFrom.ofExt h) ?hSt (fun k W=>Ext v0 W∧Blk W g1 115 #[.pointer (some ⟨gf,0,none⟩)]∧RowC W (.slice Ae l.length ce) v0 80 9 l.length (encL l)∧MapC Int W gt []∧∃Ac cc,BlkC W gf 121 [vC,vD,vT,.int .i64 r.limit,.int .i64 r.fall,.int .i64 r.ban,.int .i64 born,.slice Ae l.length ce,.slice Ac (((ofL 4 l).take k).map fun p=>banSpan p.2).length cc,.slice none 0 0,.map (some gt),.slice none 0 0]∧RowC W (.slice Ac (((ofL 4 l).take k).map fun p=>banSpan p.2).length cc) v0 95 2 (((ofL 4 l).take k).map fun p=>banSpan p.2).length (encL (((ofL 4 l).take k).map fun p=>banSpan p.2))) (fun _ _ _=>False) ?hI ?hIr ?hIx ?hIxr ?h0 ?hs0 ?hround ?hdone ?hstop
 case hSt=>exact cL fun k X Y hc h=>h.ctl hc
 case hI=>
  refine cL fun k X Y hc h=> ?_
  obtain⟨h1,h2,h3,h4,Ac,cc,h5,h6⟩:=h;have j1:StepC v0 X:=⟨h1⟩;have j2:BlkC X g1 115 [.pointer (some ⟨gf,0,none⟩)]:=⟨h2⟩;exact⟨ExtC.h,(inferInstance:BlkC Y g1 115 _).h,inferInstance,inferInstance,Ac,cc,inferInstance,inferInstance⟩
 case hIr=>
  intro k X Y h hXY;obtain⟨h1,h2,h3,h4,Ac,cc,h5,h6⟩:=h;have j1:StepC X Y:=⟨hXY⟩;exact⟨h1.trans hXY,h2.ext hXY,inferInstance,inferInstance,Ac,cc,inferInstance,inferInstance⟩
 case hIx=>exact fun _ _ _ _ _ h=>h.elim
 case hIxr=>exact fun _ _ _ _ h=>h.elim
 case h0=>exact⟨ExtC.h,(inferInstance:BlkC V2 g1 115 _).h,inferInstance,inferInstance,none,0,inferInstance,RowC.nil⟩
 case hs0=>exact⟨hq1.h,hq2.h,by have:=(inferInstance:BlkC V2 gf 121 [vC,vD,vT,.int .i64 r.limit,.int .i64 r.fall,.int .i64 r.ban,.int .i64 born,.slice Ae l.length ce,.slice none 0 0,.slice none 0 0,.map (some gt),.slice none 0 0]).h.cell 7;simpa using this,(inferInstance:RowC V2 (.slice Ae l.length ce) v0 80 9 l.length (encL l)).list rfl rfl rfl⟩
 case hround=>
  intro lp k hk W hlp hI hS;obtain⟨h1,h2,h3,h4,Ac,cc,h5,h6⟩:=hI;have j1:StepC v0 W:=⟨h1⟩;have j2:BlkC W g1 115 [.pointer (some ⟨gf,0,none⟩)]:=⟨h2⟩;have jp:BlkC W q1 115 [.pointer (some ⟨gf,0,none⟩)]:=⟨hS.p⟩;have jk:BlkC W q2 3 [.int .i64 4]:=⟨hS.k⟩;have hts:((ofL 4 l).take (k+1)).map (fun p=>banSpan p.2)=((ofL 4 l).take k).map (fun p=>banSpan p.2)++ [banSpan (ofL 4 l)[k].2]:=by rw[List.take_succ_eq_append_getElem hk,List.map_append];rfl
  obtain⟨m,hm⟩:∃m,((ofL 4 l).take k).map (fun p=>banSpan p.2)=m:=⟨_,rfl⟩
  have hml:m.length≤30:=by rw[←hm,List.length_map,List.length_take];have:=oV 4 l;omega
  obtain⟨⟨i,⟨ek,ed,⟨ec,eo⟩,et,eq,ep,eu,em⟩⟩,hx⟩:∃x,(ofL 4 l)[k]=x:=⟨_,rfl⟩;rw[hm] at h5 h6 hts;rw[hx] at hts;have Hts:=Lib.hid (show((ofL 4 l).take (k+1)).map (fun p=>banSpan p.2)=m++ [⟨ed,eu⟩] from hts)
  rw[hx];show Code.wpIn _ _ _ _ _ (roundAct #[16,17] #[_,_] _) _
  rw[rAct2];simp only[Enc.val,List.setIfInBounds_toArray,List.set_cons_zero,List.set_cons_succ];clear hx hm hts h1 h2 hS;refine aK (by rintro⟨_,_,h⟩;exact h) (by kernel_rfl) ?_
  go_wp2_with (first|(with_reducible refine aG (uu:=3) ?_;intro V5 g3 hE5 hB5 hA5))
  refine⟨ExtC.h,fun V6 hc6=> ?_⟩
  intros
  refine wpIn_block ?_;refine Lu ((.take 0 (.take 1 (.take 2 (.take 3 (.take 5 (.take 6 (.take 7 (.take 8 (.take 9 (.two 4 (.one 10 (.one 11 (.take 12 (.take 13 (.one 14 .nil))))) 10 (.one 4 (.one 11 (.take 12 (.take 13 (.one 14 .nil)))))))))))))))) (fun w'=>Ext v0 w'∧Blk w' g1 115 #[.pointer (some ⟨gf,0,none⟩)]∧Blk w' g3 80 #[.int .i64 ek,.int .i64 ed,.int .i64 ec,.int .i64 eo,.int .i64 et,.int .i64 eq,.int .i64 ep,.int .i64 eu,.int .i64 em]) ⟨ExtC.h,(inferInstance:BlkC _ g1 115 _).h,(inferInstance:BlkC _ g3 80 _).h⟩ (fun hHd=> ?_)
  repeat' first|((with_reducible refine aX ?_);(first|(refine tk (v:= ?_) ?_ hHd ?_;rotate_left;(·(intro W' h;obtain⟨h,ha,hb⟩:=h;have:=StepC.mk h;have i6:BlkC W' g1 115 [.pointer (some ⟨gf,0,none⟩)]:=⟨ha⟩;have i7:BlkC W' g3 80 [.int .i64 ek,.int .i64 ed,.int .i64 ec,.int .i64 eo,.int .i64 et,.int .i64 eq,.int .i64 ep,.int .i64 eu,.int .i64 em]:=⟨hb⟩;first|with_reducible exact aJ)))|(refine tk (v:= ?_) ?_ hHd ?_;rotate_left;(·(intro wq hSw;go_simp;(try with_reducible rfl)))));(try simp only[pS]))|((with_reducible refine bC ?_);refine aQ (by simp only[gS];rfl) ?_)|((with_reducible refine gK ?_);refine dV (by simp only[gS];rfl) (by simp only[gS];rfl) ?_ ?_)|(with_reducible refine aA ?_)|(with_reducible refine aI ?_;intro Vs hS hSB)|(with_reducible refine aD ?_;intro Vb g9 _ _ _)|(with_reducible refine bR ?_;intro A9 c9 Va hR hG)|((with_reducible refine bD ?_);clear hHd;refine aM ⟨ExtC.h,(inferInstance:BlkC _ g1 115 _).h,(inferInstance:BlkC _ g3 80 _).h⟩ (fun hHd=> ?_);(try simp only[pS]))|(with_reducible refine aF ?_)
  all_goals
   (try simp only[Exit.inBlock])
   have el:(m++ [(⟨ed,eu⟩:Span)]).length=m.length+1:=by simp
   refine⟨KfC.h,⟨ExtC.h,(inferInstance:BlkC Vs g1 115 _).h,inferInstance,inferInstance,?_⟩,⟨(inferInstance:BlkC Vs q1 115 _).h,(inferInstance:BlkC Vs q2 3 _).h,by have:=hSB.h.cell 7;simpa using this,(inferInstance:RowC Vs (.slice Ae l.length ce) v0 80 9 l.length (encL l)).list rfl rfl rfl⟩⟩
   rw[Hts.out,el];exact⟨A9,c9,hSB,by rw[encL_snoc];exact(inferInstance:RowC Vs (.slice A9 (m.length+1) c9) v0 95 2 (m.length+1) (encL m++ [.int .i64 ed,.int .i64 eu]))⟩
 case hdone=>
  intro D W hD hI hkD;obtain⟨h1,h2,h3,h4,Ac,cc,h5,h6⟩:=hI;have j1:StepC v0 W:=⟨h1⟩;have j2:BlkC W g1 115 [.pointer (some ⟨gf,0,none⟩)]:=⟨h2⟩;have hco:((ofL 4 l).take (ofL 4 l).length).map (fun p=>banSpan p.2)=courts l:=by rw[List.take_length,Ft,List.map_map];rfl
  rw[hco] at h5 h6;obtain⟨co,hcoE⟩:∃c,courts l=c:=⟨_,rfl⟩;rw[hcoE] at h5 h6;have HcoE:=Lib.hid hcoE;have HkD:=Lib.hid hkD;clear hco hcoE h1 h2 hkD;go_wp2_with (first|(with_reducible refine iG Int ?_;intro V3 gd hE3 hMd hAd)|(with_reducible refine aG (uu:=4) ?_;intro V4 g4 hE4 hB4 hA4)|(with_reducible refine aB ?_;rintro _ V5 ⟨q3,q4,rfl,hq3,hq4,hqa3,hqa4,hE5⟩)|(first|(with_reducible refine aA ?_)))
  have jS:OfSt q3 q4 gf 3 Ae ce l V5:=⟨hq3.h,hq4.h,by have:=(inferInstance:BlkC V5 gf 121 [vC,vD,vT,.int .i64 r.limit,.int .i64 r.fall,.int .i64 r.ban,.int .i64 born,.slice Ae l.length ce,.slice Ac co.length cc,.slice none 0 0,.map (some gt),.slice none 0 0]).h.cell 7;simpa using this,(inferInstance:RowC V5 (.slice Ae l.length ce) v0 80 9 l.length (encL l)).list rfl rfl rfl⟩
  have jD:MarkC V5 D:=⟨(ExtC.h:Ext W V5).heap_some HkD.out⟩;have n1:MapNe gt gd:=inferInstance;have n2:MapNe gd gt:=inferInstance;have a3:AtC v0 gd:=⟨Nat.le_trans (ExtC.h:Ext v0 W).size (Nat.le_trans (ExtC.h:Ext W _).size hAd.h)⟩;clear hAd;refine eE (xs:=ofL 3 l) rfl enters_of1 (lI q3 q4 gf 3 Ae ce l) (fun _=>rfl) (fun A B h=>KeepsFrom.ofExt h) ?hSt2 (fun k W=>Ext v0 W∧Blk W g1 115 #[.pointer (some ⟨gf,0,none⟩)]∧RowC W (.slice Ae l.length ce) v0 80 9 l.length (encL l)∧RowC W (.slice Ac co.length cc) v0 95 2 co.length (encL co)∧BlkC W gf 121 [vC,vD,vT,.int .i64 r.limit,.int .i64 r.fall,.int .i64 r.ban,.int .i64 born,.slice Ae l.length ce,.slice Ac co.length cc,.slice none 0 0,.map (some gt),.slice none 0 0]∧BlkC W g4 118 [.map (some gd)]∧MapC Int W gd (daysTo (((ofL 3 l).take k).map Prod.snd))∧MapC Int W gt []∧MarkC W D∧SizC V5 W) (fun _ _ _=>False) ?hI2 ?hIr2 ?hIx2 ?hIxr2 ?h02 ?hs02 ?hround2 ?hdone2 ?hstop2
  case hSt2=>exact cL fun k X Y hc h=>h.ctl hc
  case hI2=>
   refine cL fun k X Y hc h=> ?_
   obtain⟨h1,h2,h3,h4,h5,h6,h7,h8,h9,h10⟩:=h;have j1:StepC v0 X:=⟨h1⟩;have j2:BlkC X g1 115 [.pointer (some ⟨gf,0,none⟩)]:=⟨h2⟩;exact⟨ExtC.h,(inferInstance:BlkC Y g1 115 _).h,inferInstance,inferInstance,inferInstance,inferInstance,inferInstance,inferInstance,inferInstance,inferInstance⟩
  case hIr2=>
   intro k X Y h hXY;obtain⟨h1,h2,h3,h4,h5,h6,h7,h8,h9,h10⟩:=h;have j1:StepC X Y:=⟨hXY⟩;exact⟨h1.trans hXY,h2.ext hXY,inferInstance,inferInstance,inferInstance,inferInstance,inferInstance,inferInstance,inferInstance,inferInstance⟩
  case hIx2=>exact fun _ _ _ _ _ h=>h.elim
  case hIxr2=>exact fun _ _ _ _ h=>h.elim
  case h02=>exact⟨ExtC.h,(inferInstance:BlkC V5 g1 115 _).h,inferInstance,inferInstance,inferInstance,inferInstance,inferInstance,inferInstance,jD,inferInstance⟩
  case hs02=>exact jS
  case hround2=>
   intro lp k hk W2 hlp hI hS;obtain⟨h1,h2,h3,h4,h5,h6,h7,h8,h9,h10⟩:=hI;have j1:StepC v0 W2:=⟨h1⟩;have j2:BlkC W2 g1 115 [.pointer (some ⟨gf,0,none⟩)]:=⟨h2⟩;have jp:BlkC W2 q3 115 [.pointer (some ⟨gf,0,none⟩)]:=⟨hS.p⟩;have jk:BlkC W2 q4 3 [.int .i64 3]:=⟨hS.k⟩;have jb:LtB gd V5.heap.size:=⟨(inferInstance:MapC Int V5 gd []).h.lt⟩;have hmem:(ofL 3 l)[k].2∈l:=by
    have:(ofL 3 l)[k].2∈(ofL 3 l).map Prod.snd:=List.mem_map.2 ⟨_,List.getElem_mem hk,rfl⟩;rw[dK] at this;exact(List.mem_filter.1 this).1
   have hpt:=hp _ hmem;have hbd:=Be (xs:=((ofL 3 l).take k).map Prod.snd) (by rw[List.length_map,List.length_take];have:=oV 3 l;omega) (fun x hx=>by
    refine hp x ?_;have:x∈(ofL 3 l).map Prod.snd:=by
     obtain⟨y,hy,rfl⟩:=List.mem_map.1 hx;exact List.mem_map.2 ⟨y,List.mem_of_mem_take hy,rfl⟩
    rw[dK] at this;exact(List.mem_filter.1 this).1) ((ofL 3 l)[k].2.day)
   have hts:daysTo (((ofL 3 l).take (k+1)).map Prod.snd)=addDay (daysTo (((ofL 3 l).take k).map Prod.snd)) (ofL 3 l)[k].2:=by rw[List.take_succ_eq_append_getElem hk,List.map_append];exact gQ _ _
   obtain⟨m,hm⟩:∃m,daysTo (((ofL 3 l).take k).map Prod.snd)=m:=⟨_,rfl⟩;obtain⟨⟨i,⟨ek,ed,⟨ec,eo⟩,et,eq,ep,eu,em⟩⟩,hx⟩:∃x,(ofL 3 l)[k]=x:=⟨_,rfl⟩;rw[hm] at h7 hts hbd;rw[hx] at hts hbd hpt;simp only at hbd hpt;have Hts:=Lib.hid hts;have hw:IntKind.i64.wrap ((getL m ed).getD 0+ep)=(getL m ed).getD 0+ep:=IntWalk.i64_in _ (by omega)
   rw[hx];show Code.wpIn _ _ _ _ _ (roundAct #[35,36] #[_,_] _) _
   rw[rAct2];simp only[Enc.val,List.setIfInBounds_toArray,List.set_cons_zero,List.set_cons_succ];clear hx hm hts h1 h2 hS hmem hpt hbd;refine aK (by rintro⟨_,_,h⟩;exact h) (by kernel_rfl) ?_
   go_wp2_with (first|(with_reducible refine aG (uu:=6) ?_;intro V6 g6 hE6 hB6 hA6))
   refine⟨ExtC.h,fun V7 hc7=> ?_⟩
   intros
   refine wpIn_block ?_;refine aK (by rintro⟨_,_,h⟩;exact h) (by kernel_rfl) ?_
   go_wp2_with (first|(with_reducible refine zZ (κ:=Int) ?_)|(with_reducible refine Cs (κ:=Int) (k:=ed) (v:=(getL m ed).getD 0+ep) ?_;intro V8 _ hM8)|(first|(with_reducible refine aA ?_)))
   (try simp only[Exit.inBlock])
   refine⟨KfC.h,⟨ExtC.h,(inferInstance:BlkC V8 g1 115 _).h,inferInstance,inferInstance,inferInstance,inferInstance,?_,inferInstance,inferInstance,inferInstance⟩,⟨(inferInstance:BlkC V8 q3 115 _).h,(inferInstance:BlkC V8 q4 3 _).h,by have:=(inferInstance:BlkC V8 gf 121 [vC,vD,vT,.int .i64 r.limit,.int .i64 r.fall,.int .i64 r.ban,.int .i64 born,.slice Ae l.length ce,.slice Ac co.length cc,.slice none 0 0,.map (some gt),.slice none 0 0]).h.cell 7;simpa using this,(inferInstance:RowC V8 (.slice Ae l.length ce) v0 80 9 l.length (encL l)).list rfl rfl rfl⟩⟩
   (try rw[←List.map_take])
   rw[Hts.out];exact hM8
  case hdone2=>
   intro D2 W2 hD2 hI hkD2;obtain⟨h1,h2,h3,h4,h5,h6,h7,h8,h9,h10⟩:=hI;have j1:StepC v0 W2:=⟨h1⟩;have j2:BlkC W2 g1 115 [.pointer (some ⟨gf,0,none⟩)]:=⟨h2⟩;have jD2:MarkC W2 D2:=⟨hkD2⟩;have hdm:daysTo (((ofL 3 l).take (ofL 3 l).length).map Prod.snd)=daysTo (l.filter isOff):=by rw[List.take_length,Py]
   rw[hdm] at h7;have hkeys:KeysOk (daysTo (l.filter isOff)):=⟨fun p hp'=>by
    have hm:p.1∈(daysTo (l.filter isOff)).map Prod.fst:=List.mem_map.2 ⟨p,hp',rfl⟩;obtain⟨x,hx,e⟩:=(kG _ _).1 hm;rw[←e];exact hd x (List.mem_filter.1 hx).1,by
    have h0:=kO (mP (l.filter isOff)) (m:=(l.filter isOff).map fun x=>x.day) fun d hd'=>by
     obtain⟨x,hx,e⟩:=(kG _ _).1 hd';exact List.mem_map.2 ⟨x,hx,e⟩
    rw[List.length_map,List.length_map] at h0;have:=List.length_filter_le isOff l;omega⟩
   have hpts:=Kr l;have hsrt:=fun ss hss=>xP (l:=l) (ss:=ss) hss
   obtain⟨dm,hdmE⟩:∃m,daysTo (l.filter isOff)=m:=⟨_,rfl⟩;rw[hdmE] at h7 hkeys hpts hsrt;have Hpts:=Lib.hid hpts;have Hsrt:=Lib.hid hsrt;clear hdm h1 h2 hkD2 hpts hsrt;go_wp2_with (first|(with_reducible refine iG Int ?_;intro V6 gc hE6 hM6 hAc)|(with_reducible refine aB ?_;first|rintro _ V7 ⟨gk,rfl,hk7,(_:StepC _ _)⟩|rintro _ V8 ⟨Ad,cd,ss,rfl,hp8,hr8,(_:StepC _ _)⟩)|(first|(with_reducible refine aA ?_)))
   obtain⟨ds,hds⟩:∃d,offDays l=d:=⟨_,rfl⟩;have hl8:ss.length=ds.length:=by rw[←hds,←Hsrt.out ss hp8,List.length_mergeSort]
   have hr9:=hr8.base (v0:=v0) (ExtC.h:Ext v0 _).size;rw[Hsrt.out ss hp8,hds] at hr9;obtain⟨nd,hnd⟩:∃n,ss.length=n:=⟨_,rfl⟩;rw[hnd] at hr9⊢;rw[hnd] at hl8;subst hl8;have Hds:=Lib.hid hds;have n3:MapNe gd gc:=inferInstance;have n4:MapNe gt gc:=inferInstance;have n5:MapNe gc gd:=inferInstance;have n6:MapNe gc gt:=inferInstance;have a4:AtC v0 gc:=⟨Nat.le_trans (ExtC.h:Ext v0 W2).size (Nat.le_trans (ExtC.h:Ext W2 _).size hAc.h)⟩;have hDne:D2≠D:=by have:=(Array.getElem?_eq_some_iff.1 jD.h).1;omega
   have hvD:v0.heap.size≤D:=Nat.le_trans (ExtC.h:Ext v0 V2).size hD;have hvD2:v0.heap.size≤D2:=Nat.le_trans (ExtC.h:Ext v0 V5).size hD2;clear hAc hr8 hp8 hnd hds hD hD2 jS;go_loopw [49] (fun iv wr=>∃k:Nat,k≤ds.length∧iv=.int .i64 k∧MapC Int wr gc (offTo r l k).live∧(ExtC v0 wr∧BlkC wr g1 115 [.pointer (some ⟨gf,0,none⟩)]∧RowC wr (.slice Ae l.length ce) v0 80 9 l.length (encL l)∧RowC wr (.slice Ac co.length cc) v0 95 2 co.length (encL co)∧BlkC wr g4 118 [.map (some gd)]∧MapC Int wr gd dm∧RowC wr (.slice Ad ds.length cd) v0 3 1 ds.length (encL ds)∧SizC V5 wr∧MarkC wr D∧MarkC wr D2)∧(∃Ap cp tkn,BlkC wr gf 121 [vC,vD,vT,.int .i64 r.limit,.int .i64 r.fall,.int .i64 r.ban,.int .i64 born,.slice Ae l.length ce,.slice Ac co.length cc,.slice Ap (offTo r l k).bans.length cp,.map (some gt),.slice none 0 0]∧RowC wr (.slice Ap (offTo r l k).bans.length cp) V5 95 2 (offTo r l k).bans.length (encL (offTo r l k).bans)∧MapC Int wr gt tkn∧∀d,getL tkn d=whenIn (offTo r l k).taken d)) (fun iv _=>ds.length-(RowKit.intOf iv).toNat)
   case atStart=>
    refine⟨0,by omega,rfl,?_⟩
    simp only[zW];exact⟨inferInstance,⟨⟨ExtC.h⟩,inferInstance,inferInstance,inferInstance,inferInstance,inferInstance,hr9,inferInstance,inferInstance,inferInstance⟩,none,0,[],inferInstance,RowC.nil,inferInstance,fun d=>rfl⟩
   case round=>
    obtain⟨k,hk,rfl,i1,⟨i2,i3,i4,i5,i6,i7,i8,i9,i10,i11⟩,Ap,cp,tkn,i12,i13,i14,htk⟩:=hrel;have a1':StepC v0 wr:=⟨i2.h⟩;have Htk:=Lib.hid htk;clear htk;by_cases lk:k<ds.length
    ·have hk':k<(offDays l).length:=by rw[Hds.out];exact lk
     have hdk:(offDays l)[k]=ds[k]:=by have:=Hds.out;subst this;rfl
     have hlo:=Mv hfall.1 hn hd hp hk';have hla:=Fc hfall.1 l hk';have hsu:=iX r l hk';have hbl:=mU r l k;have hap:=uX hfall.1 l hk' (ptsOn l (offDays l)[k]);have hdl:=gN hn;rw[Hds.out] at hdl;have hok:=jW hfall.1 l k (by omega)
     have hdb:0≤ds[k]∧ds[k]≤40000:=by
      have hm:ds[k]∈offDays l:=by rw[←hdk];exact List.getElem_mem _
      obtain⟨x,hx,_,e⟩:=offDays_mem.1 hm;rw[←e];exact hd x hx
     obtain⟨o,ho⟩:∃o,offTo r l k=o:=⟨_,rfl⟩;obtain⟨ad,rfl,hc⟩:=(i8.list (l:=ds) rfl rfl rfl).elem lk;obtain⟨d,hdd⟩:∃d,ds[k]=d:=⟨_,rfl⟩;rw[hdk,hdd] at hlo hla hsu hap;rw[ho] at hlo hla hsu hbl hok hap i1 i12 i13 Htk;rw[hdd] at hdb hc;have hpt:=Hpts.out d;obtain⟨pv,hpv⟩:∃v,ptsOn l d=v:=⟨_,rfl⟩;rw[hpv] at hpt hlo hla hap;obtain⟨M,hM⟩:∃M,putL o.live d pv=M:=⟨_,rfl⟩;rw[hM] at hlo hla hap;have Hap:=Lib.hid hap;have Hla:=Lib.hid hla;have Hsu:=Lib.hid hsu;have Hlo:=Lib.hid hlo;have HM:=Lib.hid hM;have Hok:=Lib.hid hok;have i15:CellB wr (ad.add k) (.int .i64 d):=⟨by have:=hc 0 _ rfl;have e1:Enc.size Int=1:=rfl;simpa [Addr.add,e1] using this⟩
     have w1:IntKind.i64.wrap ((k:Int)+1)=(k:Int)+1:=IntWalk.i64_in _ (by have:=gN hn;omega)
     have w2:IntKind.i64.wrap (d+1)=d+1:=IntWalk.i64_in _ (by omega)
     have w3:IntKind.i64.wrap (d+r.ban)=d+r.ban:=IntWalk.i64_in _ (by omega)
     clear hdk hla hsu hlo hM ho hdd hpv hok hk' hap;go_wp2_with (first|(with_reducible refine zZ (κ:=Int) ?_;rw[hpt])|(with_reducible refine Cs (κ:=Int) (k:=d) (v:=pv) ?_;intro V9 _ hM9)|(with_reducible refine tV (κ:=Int) ?_;intro V10 rr _ hR10 hA10)|(first|(with_reducible refine aA ?_)))
     have hR11:RngC Int V10 rr gc M M:=by rw[←HM.out];exact hR10
     have m1:MapNe gd rr:=inferInstance;have m2:MapNe gt rr:=inferInstance;have a5:AtC v0 rr:=⟨Nat.le_trans (ExtC.h:Ext v0 wr).size (Nat.le_trans (Nat.le_of_lt_succ (Nat.lt_succ_of_le (inferInstance:SizC wr _).h)) hA10.h)⟩;clear hR10 hM9 hA10 hc;(try simp only[pS])
     go_loopg [10] M.length (fun g sv W=>∃cur left sum,RngC Int W rr gc cur left∧g=left.length∧sv=.int .i64 sum∧CntI r.fall d M cur left sum∧(ExtC v0 W∧BlkC W g1 115 [.pointer (some ⟨gf,0,none⟩)]∧RowC W (.slice Ae l.length ce) v0 80 9 l.length (encL l)∧RowC W (.slice Ac co.length cc) v0 95 2 co.length (encL co)∧BlkC W g4 118 [.map (some gd)]∧MapC Int W gd dm∧RowC W (.slice (some ad) ds.length cd) v0 3 1 ds.length (encL ds)∧SizC V5 W∧MarkC W D∧MarkC W D2)∧BlkC W gf 121 [vC,vD,vT,.int .i64 r.limit,.int .i64 r.fall,.int .i64 r.ban,.int .i64 born,.slice Ae l.length ce,.slice Ac co.length cc,.slice Ap o.bans.length cp,.map (some gt),.slice none 0 0]∧RowC W (.slice Ap o.bans.length cp) V5 95 2 o.bans.length (encL o.bans)∧MapC Int W gt tkn)
     case atStart=>exact⟨M,M,0,hR11,rfl,rfl,CntI.start Hlo.out.nodup,⟨⟨ExtC.h⟩,inferInstance,inferInstance,inferInstance,inferInstance,inferInstance,inferInstance,inferInstance,inferInstance,inferInstance⟩,inferInstance,inferInstance,inferInstance⟩
     case round=>
      obtain⟨cur,left,sum,hR12,hg,rfl,hC,⟨k2,k3,k4,k5,k6,k7,k8,k9,k10,k11⟩,k12,k13,k14⟩:=hrel;have HC:=Lib.hid hC;have Hg:=Lib.hid hg;have hsb:0≤sum∧sum≤18600:=by rw[hC.sum];exact Ds Hlo.out _
      clear hR11 hC hg
      cases left with
      |nil=>
       obtain⟨hcu,hsu2⟩:=HC.out.done;have Hcu:=Lib.hid hcu;have Hsu2:=Lib.hid hsu2;clear hcu hsu2;have iM:MapC Int wr gc cur:=⟨hR12.h.map⟩;by_cases hlim:sum<r.limit
       ·skip
        go_wp2_with (first|(with_reducible refine mH 3 hR12 ?_)|(first|(with_reducible refine aA ?_)))
        refine⟨?rel,?measure⟩
        case rel=>
         have hs:offTo r l (k+1)=⟨cur,o.taken,o.bans⟩:=by
          rw[Hsu.out];unfold Rules.stepOff;rw[Hla.out,if_pos (by have:=Hsu2.out;rw[this] at hlim;exact hlim),←Hcu.out]
         refine⟨k+1,lk,rfl,?_⟩;rw[hs];exact⟨iM,⟨k2,k3,k4,k5,k6,k7,k8,k9,k10,k11⟩,Ap,cp,tkn,k12,k13,k14,Htk.out⟩
        case measure=>simp[RowKit.intOf];omega
       ·skip
        go_wp2_with (first|(with_reducible refine mH 3 hR12 ?_)|(with_reducible refine tV (κ:=Int) ?_;intro V13 r2 _ hR15 hA15)|(first|(with_reducible refine aA ?_)))
        (try simp only[pS])
        have m3:MapNe gd r2:=inferInstance;have m4:MapNe gt r2:=inferInstance;have m5:MapNe gc r2:=inferInstance;have m6:MapNe r2 gt:=inferInstance;have a6:AtC v0 r2:=⟨Nat.le_trans (ExtC.h:Ext v0 wr).size hA15.h⟩;clear hA15 hR12;go_loopg [13] cur.length (fun g sv W=>AnyW sv∧∃left T,RngC Int W r2 gc cur left∧g=left.length∧TakI d cur left tkn T∧(ExtC v0 W∧BlkC W g1 115 [.pointer (some ⟨gf,0,none⟩)]∧RowC W (.slice Ae l.length ce) v0 80 9 l.length (encL l)∧RowC W (.slice Ac co.length cc) v0 95 2 co.length (encL co)∧BlkC W g4 118 [.map (some gd)]∧MapC Int W gd dm∧RowC W (.slice (some ad) ds.length cd) v0 3 1 ds.length (encL ds)∧SizC V5 W∧MarkC W D∧MarkC W D2)∧BlkC W gf 121 [vC,vD,vT,.int .i64 r.limit,.int .i64 r.fall,.int .i64 r.ban,.int .i64 born,.slice Ae l.length ce,.slice Ac co.length cc,.slice Ap o.bans.length cp,.map (some gt),.slice none 0 0]∧RowC W (.slice Ap o.bans.length cp) V5 95 2 o.bans.length (encL o.bans)∧MapC Int W gt T)
        case atStart=>exact⟨trivial,cur,tkn,hR15,rfl,TakI.start iM.h.nodup,⟨⟨ExtC.h⟩,inferInstance,inferInstance,inferInstance,inferInstance,inferInstance,inferInstance,inferInstance,inferInstance,inferInstance⟩,inferInstance,inferInstance,inferInstance⟩
        case round=>
         obtain⟨_,left,T,hR16,hg,hT,⟨p2,p3,p4,p5,p6,p7,p8,p9,p10,p11⟩,p12,p13,p14⟩:=hrel;have HT:=Lib.hid hT;have Hg2:=Lib.hid hg;clear hR15 hT hg
         cases left with
         |nil=>
          have iM2:MapC Int wr gc cur:=⟨hR16.h.map⟩;have hs:offTo r l (k+1)=⟨[],o.taken++cur.map (fun p=>(p.1,d)),o.bans++r.banOf d⟩:=by
           rw[Hsu.out];unfold Rules.stepOff;rw[Hla.out,if_neg (by have:=Hsu2.out;rw[this] at hlim;exact Int.not_lt.2 (by simpa using hlim)),←Hcu.out]
          have Hs:=Lib.hid hs;have HTk:=Lib.hid (HT.out.done Htk.out fun p hp q hq=>Hap.out p (by have:=Hcu.out;rw[this] at hp;exact(List.mem_filter.1 hp).1) q hq)
          have hbn:o.bans.length≤30:=by omega
          clear hs;by_cases hdl2:d<40000
          ·skip
           go_wp2_with (first|(with_reducible refine mH 3 hR16 ?_)|(with_reducible refine De (κ:=Int) ?_;intro V17 _ hM17))
           refine gM ?_;refine dA ((.take 0 (.take 1 (.take 2 (.take 3 (.take 5 (.take 6 (.take 7 (.take 8 (.take 9 (.take 10 (.take 11 (.take 12 (.two 4 (.one 13 (.take 14 (.take 15 (.take 16 (.one 17 (.one 18 (.take 19 (.take 20 (.one 21 .nil))))))))) 13 (.take 14 (.take 15 (.take 16 (.two 4 (.one 17 (.one 18 (.take 19 (.take 20 (.one 21 .nil))))) 17 (.one 4 (.one 18 (.take 19 (.take 20 (.one 21 .nil))))))))))))))))))))))) (fun w'=>Ext v0 w'∧Blk w' g1 115 #[.pointer (some ⟨gf,0,none⟩)]) ?_ (fun hHd=> ?_) (hQ:=by intro _ _ _ _ _ h;exact absurd h.1 (fun e=>by cases e))
           ·exact⟨ExtC.h,(inferInstance:BlkC _ g1 115 _).h⟩
           repeat' first|((with_reducible refine aX ?_);(first|(refine tk (v:= ?_) ?_ hHd ?_;rotate_left;(·(intro W' h;obtain⟨h,ha⟩:=h;have:=StepC.mk h;have i6:BlkC W' g1 115 [.pointer (some ⟨gf,0,none⟩)]:=⟨ha⟩;first|with_reducible exact aJ)))|(refine tk (v:= ?_) ?_ hHd ?_;rotate_left;(·(intro wq hSw;go_simp;(try with_reducible rfl)))));(try simp only[pS]))|((with_reducible refine bC ?_);refine aQ (by simp only[gS];rfl) ?_)|((with_reducible refine gK ?_);refine dV (by simp only[gS];rfl) (by simp only[gS];rfl) ?_ ?_)|(with_reducible refine aA ?_)|(with_reducible refine aI ?_;intro Vs hS hSB)|(with_reducible refine aD ?_;intro Vb g9 _ _ _)|(with_reducible refine yD ?_;intro A9 c9 Va hR hG)|((with_reducible refine bD ?_);clear hHd;refine aM ⟨ExtC.h,(inferInstance:BlkC _ g1 115 _).h⟩ (fun hHd=> ?_);(try simp only[pS]))|(with_reducible refine aF ?_)
           all_goals
            refine⟨rfl,?_⟩;go_wp2
            refine⟨?_,?_⟩
            ·have hb:r.banOf d=[⟨d+1,min 40000 (d+r.ban)⟩]:=if_pos hdl2;have el:(o.bans++ [(⟨d+1,min 40000 (d+r.ban)⟩:Span)]).length=o.bans.length+1:=by simp
             refine⟨k+1,lk,rfl,?_⟩;rw[Hs.out,hb,el,encL_snoc];exact⟨inferInstance,⟨⟨ExtC.h⟩,inferInstance,inferInstance,inferInstance,inferInstance,inferInstance,inferInstance,inferInstance,inferInstance,inferInstance⟩,A9,c9,T,hSB,(inferInstance:RowC Vs (.slice A9 (o.bans.length+1) c9) V5 95 2 (o.bans.length+1) (encL o.bans++ [.int .i64 (d+1),.int .i64 (min 40000 (d+r.ban))])),inferInstance,HTk.out⟩
            ·simp[RowKit.intOf];omega
          ·skip
           go_wp2_with (first|(with_reducible refine mH 3 hR16 ?_)|(with_reducible refine De (κ:=Int) ?_;intro V17 _ hM17))
           refine⟨?rel,?measure⟩
           case rel=>
            have hb:r.banOf d=[]:=if_neg (by omega)
            refine⟨k+1,lk,rfl,?_⟩;rw[Hs.out,hb,List.append_nil];exact⟨hM17,⟨⟨ExtC.h⟩,inferInstance,inferInstance,inferInstance,inferInstance,inferInstance,inferInstance,inferInstance,inferInstance,inferInstance⟩,Ap,cp,T,inferInstance,inferInstance,inferInstance,HTk.out⟩
           case measure=>simp[RowKit.intOf];omega
         |cons q lf=>
          go_wp2_with (first|(with_reducible refine uC 3 hR16 (by simp) ?_;rintro⟨pd,pn⟩ V18 hp18 (_:NcC _ _ _) hR18 (hN:NowC _ _ _ _))|(with_reducible refine lL ?_;(try simp only[Enc.val]))|(with_reducible refine Cs (κ:=Int) (k:=pd) (v:=d) ?_;intro V19 _ hM19)|(first|(with_reducible refine aA ?_)))
          go_roundg (delL (q::lf) pd).length
          case measure=>
           have h1:=oX hR16.h.nodup hp18;have h2:=Hg2.out;simp only at h1;omega
          case rel=>
           exact⟨trivial,delL (q::lf) pd,putL T pd d,inferInstance,rfl,HT.out.step hp18,⟨⟨ExtC.h⟩,inferInstance,inferInstance,inferInstance,inferInstance,inferInstance,inferInstance,inferInstance,inferInstance,inferInstance⟩,inferInstance,inferInstance,hM19⟩
      |cons q lf=>
       go_wp2_with (first|(with_reducible refine uC 3 hR12 (by simp) ?_;rintro⟨pd,pn⟩ V11 hp11 (_:NcC _ _ _) hR13 (hN:NowC _ _ _ _);have hpv:=Hlo.out.val _ (HC.out.sub _ hp11);simp only at hpv;have w4:IntKind.i64.wrap (d-pd)=d-pd:=IntWalk.i64_in _ (by omega);have w5:IntKind.i64.wrap (sum+pn)=sum+pn:=IntWalk.i64_in _ (by omega))|(with_reducible refine lL ?_;(try simp only[Enc.val]))|(with_reducible refine Qt (κ:=Int) (k:=pd) ?_ hR13;have iMd:=MapC.mk hR13.h.map;intro V12 _ hR14)|(first|(with_reducible refine aA ?_)))
       ·skip
        go_roundg (delL (delL (q::lf) pd) pd).length
        case measure=>
         have h1:=oX hR12.h.nodup hp11;have h2:=Hg.out;have h3:(delL (delL (q::lf) pd) pd).length≤(delL (q::lf) pd).length:=List.length_filter_le _ _;simp only at h1;omega
        case rel=>
         exact⟨delL cur pd,delL (delL (q::lf) pd) pd,sum,hR14,rfl,rfl,HC.out.dead Hlo.out.nodup hp11 (by simp only;omega),⟨⟨ExtC.h⟩,inferInstance,inferInstance,inferInstance,inferInstance,inferInstance,inferInstance,inferInstance,inferInstance,inferInstance⟩,inferInstance,inferInstance,inferInstance⟩
       ·skip
        go_roundg (delL (q::lf) pd).length
        case measure=>
         have h1:=oX hR12.h.nodup hp11;have h2:=Hg.out;simp only at h1;omega
        case rel=>
         exact⟨cur,delL (q::lf) pd,sum+pn,inferInstance,rfl,rfl,HC.out.live Hlo.out.nodup hp11 (by simp only;omega),⟨⟨ExtC.h⟩,inferInstance,inferInstance,inferInstance,inferInstance,inferInstance,inferInstance,inferInstance,inferInstance,inferInstance⟩,inferInstance,inferInstance,inferInstance⟩
    ·have e:k=ds.length:=by omega
     subst e;go_wp2
     have HH:=Htk.out;have ea:offTo r l ds.length=r.offs l:=by rw[←Hds.out];exact sQ r l
     rw[ea] at i12 i13 HH;refine En (v0:=v0) rfl hDne i11 i10 hvD2 hvD (fun V20 V21 _ _ _ _=> ?_)
     have ec:=HcoE.out;subst ec;(first|refine bodyPost_ret (results_none rfl _ _ _) (by rfl) ?_)
     exact⟨rfl,ExtC.h,inferInstance,Ac,cc,Ap,cp,tkn,inferInstance,inferInstance,(inferInstance:RowC V21 (.slice Ap (r.offs l).bans.length cp) V5 95 2 _ _).base (ExtC.h:Ext v0 V5).size,inferInstance,HH⟩
  case hstop2=>exact fun _ _ _ _ _ _ h=>h.elim
 case hstop=>exact fun _ _ _ _ _ _ h=>h.elim
end Go.Rg
end
