/- Chapter 03: contracts of functions of the program and of the reference, and plain laws (out of SX4 SX5). No condition of its own. -/
import Derived.Test.YtfjnacajjpaeiaaGreatDoorP16
set_option maxRecDepth 100000
set_option linter.all false
section
namespace Go.St
open Go Go.Bp Go.RowKit Go.Proofs
theorem Gk(w:World)(t:TypeId)(s:ByteArray):Ext w (Lib.bytesWorld w t s):=Lib.bytesWorld_below w t s
theorem wK(s:ByteArray)(hs:s.size≤1000000)(w:World)(hv:Env w):
 Calls Tryz.prog 86 #[.string s] w fun e w'=>Ext w w'∧∃n ev,e=.returned (.tuple #[.int .i64 n,ev])∧((Lib.atoiAll s.data.toList=.ok n∧ev=.nilIface)∨((∀m,Lib.atoiAll s.data.toList≠ .ok m)∧∃te pe,ev=.iface te pe)):=by
 obtain⟨te,pe,hsy⟩:=hv.syn;obtain⟨te2,pe2,hra⟩:=hv.rng
 cases h:Lib.atoiAll s.data.toList
 ·rename_i n;refine(Tryz.strconv_Atoi_ok s (by omega) n h w).mono ?_
  rintro e w' ⟨rfl,hw⟩;refine⟨?_,n,.nilIface,rfl,.inl ⟨rfl,rfl⟩⟩;rcases hw with rfl|⟨t,rfl⟩
  ·exact Ext.refl _
  ·exact Gk w 5 t
 ·refine(Any.strconv_Atoi_syntax Tryz.laysC172 s (by omega) h _ w hsy (.inr ⟨te,pe,rfl⟩)).mono ?_
  rintro e w' ⟨N,rfl,_,_,hb⟩;exact⟨hb,_,_,rfl,.inr ⟨(fun m e=>by cases e),_,_,rfl⟩⟩
 ·refine(Tryz.strconv_Atoi_range s (by omega) h _ w hra (.inr ⟨te2,pe2,rfl⟩)).mono ?_
  rintro e w' ⟨N,rfl,_,_,hb⟩;exact⟨hb,_,_,rfl,.inr ⟨(fun m e=>by cases e),_,_,rfl⟩⟩
theorem Ob{l:List UInt8}{n:Int}(h:Lib.atoiAll l=.ok n): -9223372036854775808≤n∧n≤9223372036854775807:=by
 unfold Lib.atoiAll at h;split at h
 ·cases h
 ·simp only at h;split at h
  ·cases h
  ·cases h
  ·split at h
   ·cases h
   ·split at h
    ·cases h
    ·rename_i h1 h2;injection h with h
     rw[←h];split<;>omega
theorem Lx(w:World):(Instr.typeAssert (.iface 26 (.int .i64 6)) 20 26 false).run Tryz.prog w=.ok (.int .i64 6) w:=by kernel_rfl
set_option maxHeartbeats 2000000 in
theorem Cl(g4 g5 g6:Nat)(a4 a5 a6:Value)(w:World)(h4:Blk w g4 3 #[a4])(h5:Blk w g5 32 #[a5])(h6:Blk w g6 26 #[a6]):
 CallsD Tryz.prog 80 #[.pointer (some ⟨g4,0,none⟩),.pointer (some ⟨g5,0,none⟩),.pointer (some ⟨g6,0,none⟩)] (.panicking eW) w fun e u' w'=>
  e=.returned (.tuple #[])∧u'=.panicking [{v:=.iface 26 (.int .i64 6),recovered:=true}]∧Blk w' g4 3 #[.int .i64 0]∧Blk w' g5 32 #[.slice none 0 0]∧Blk w' g6 26 #[.int .i64 6]∧Nr [g4,g5,g6] w w':=by
 have n45:g4≠g5:=blk_ne h4 h5 (by decide)
 have n46:g4≠g6:=blk_ne h4 h6 (by decide)
 have n56:g5≠g6:=blk_ne h5 h6 (by decide)
 refine callsD_of_wpS Tryz.func80 rfl fun c₀ cs hu=> ?_
 apply wpS_seq;apply wpS_region;simp[wpOpsS,go_sem,recoverD,hu,eW,Tryz.ntmps80,Exit.thenS];apply wpS_seq;apply wpS_region;simp[wpOpsS,go_sem,Tryz.ntmps80,Exit.thenS];refine wpS_cond (t:=true) (by simp[Act.eval,Array.replicate]) ?_
 simp only[if_true];apply wpS_of_wp;have d4:=h4.d;have d5:=h5.d;have d6:=h6.d;refine aR (.take 0 (.take 1 (.one 2 (.one 3 (.one 4 .nil))))) (fun w'=>True) ?_ (fun hHd=> ?_)
 ·exact True.intro
 repeat' first|((with_reducible refine aB ?_);(first|((with_reducible refine aB (i:=1) ?_);refine tk (v:=.int .i64 6) ?_ hHd ?_;(·(intro wq _;have hta:=Lx wq;go_simp)))|(refine tk (v:= ?_) ?_ hHd ?_;rotate_left;(·(intro wq hSw;(try dsimp only at hSw);go_simp;(try with_reducible rfl)))));(try simp only[pS]))|((with_reducible refine bC ?_);refine aQ (by simp only[gS];rfl) ?_)|((with_reducible refine aH (d:=none) ?_);((first|((with_reducible refine aT (t:=3) (g:=g4) (off:=0) (v:=.int .i64 0) ?_ ?_ d4 jN ?_ ?_ ?_ ?_);rfl;rfl;rfl;simp;rfl;intro Wa hBa hgra;simp at hBa;replace d5:=d5.grown hgra (fun e=>n45 (Option.some.inj e).symm);replace d6:=d6.grown hgra (fun e=>n46 (Option.some.inj e).symm))|((with_reducible refine aT (t:=32) (g:=g5) (off:=0) (v:=.slice none 0 0) ?_ ?_ d5 gK ?_ ?_ ?_ ?_);rfl;rfl;rfl;simp;rfl;intro Wb hBb hgrb;simp at hBb;replace hBa:=hBa.grown hgrb (fun e=>n45 (Option.some.inj e));replace d6:=d6.grown hgrb (fun e=>n56 (Option.some.inj e).symm))|((with_reducible refine aT (t:=26) (g:=g6) (off:=0) (v:=.int .i64 6) ?_ ?_ d6 kF ?_ ?_ ?_ ?_);rfl;rfl;rfl;simp;rfl;intro Wc hBc hgrc;simp at hBc;replace hBa:=hBa.grown hgrc (fun e=>n46 (Option.some.inj e));replace hBb:=hBb.grown hgrc (fun e=>n56 (Option.some.inj e))))))|((with_reducible refine bB ?_);clear hHd;refine aJ ?_ (fun hHd=> ?_);(·exact True.intro);(try simp only[pS]))|(with_reducible refine aG ?_)
 have hn:Nr [g4,g5,g6] w Wc:=(((Nr.ofExt [g4,g5,g6] (Ext.todrew (Ext.refl w))).grown hgra (by simp)).grown hgrb (by simp)).grown hgrc (by simp)
 exact⟨rfl,_,rfl,.tuple #[],by simp[results,Tryz.results80],rfl,rfl,hBa,hBb,hBc,hn⟩
theorem Fr(g4 g5 g6:Nat)(w:World):
 CallsD Tryz.prog 80 #[.pointer (some ⟨g4,0,none⟩),.pointer (some ⟨g5,0,none⟩),.pointer (some ⟨g6,0,none⟩)] .returning w fun e u' w'=>e=.returned (.tuple #[])∧u'=.returning∧w'=w:=by
 refine callsD_of_wpS Tryz.func80 rfl fun c₀ cs hu=> ?_
 apply wpS_seq;apply wpS_region;simp[wpOpsS,go_sem,recoverD,hu,Tryz.ntmps80,Exit.thenS];apply wpS_seq;apply wpS_region;simp[wpOpsS,go_sem,Tryz.ntmps80,Exit.thenS];refine wpS_cond (t:=false) (by simp[Act.eval,Array.replicate]) ?_
 simp only[Bool.false_eq_true,if_false];refine wpS_of_wp (wp_skip ?_)
 cases c₀
 simp_all[bodyPostS,results,Tryz.results80]
end Go.St
end
section
namespace Go.St
open Go Go.Bp Go.RowKit Go.Proofs
namespace Town
variable{t:Town}
def Inv(t:Town)(L:List UInt8)(a at0:Int)(xs:List Step)(l:List UInt8):Prop:=t.readL L=(t.stepsL l.length at0 xs.length l).map fun ys=>(a,xs++ys)
theorem inv_start{L:List UInt8}(h:0≤t.placeIdx (dN L)):Inv t L (t.placeIdx (dN L)) (t.placeIdx (dN L)) [] (eU L):=by
 unfold Inv readL;rw[if_pos h,mV L.length (eU L).length _ _ _ (lJ L) (Nat.le_refl _)];rfl
theorem inv_none{L:List UInt8}(h:t.placeIdx (dN L)<0):t.readL L=none:=by
 unfold readL;rw[if_neg (by omega)]
variable{L l:List UInt8}{a at0:Int}{xs:List Step}{b:UInt8}
theorem inv_nil(h:Inv t L a at0 xs []):t.readL L=some (a,xs):=by
 unfold Inv at h;rw[h];simp[stepsL]
theorem inv_bad(h:Inv t L a at0 xs (b::l))(hs:t.stepL at0 xs.length b l=none):t.readL L=none:=by
 unfold Inv at h;rw[h];simp[stepsL,hs]
theorem inv_step{x:Step}(h:Inv t L a at0 xs (b::l))(hs:t.stepL at0 xs.length b l=some x):Inv t L a (t.ends x).2 (xs++ [x]) (eU (cJ l)):=by
 have h1:=lJ (cJ l);have h2:=tV l;unfold Inv at h⊢;rw[h];simp only[List.length_cons,stepsL,hs,Option.bind_some,List.length_append,List.length_nil,Nat.zero_add];rw[mV l.length (eU (cJ l)).length _ _ _ (by omega) (Nat.le_refl _)]
 rw[Option.map_map];congr 1
 funext ys
 simp
theorem stepL_no46(h:(46:UInt8)∉l){n:Nat}:t.stepL at0 n b l=none:=by unfold stepL;rw[if_neg h]
theorem stepL_nonum(h:sZ (eD l)=none){n:Nat}:t.stepL at0 n b l=none:=by
 unfold stepL;split
 ·rw[h];rfl
 ·rfl
theorem stepL_num{k:Int}(h46:(46:UInt8)∈l)(h:sZ (eD l)=some k){n:Nat}:t.stepL at0 n b l=
 if inB k 0 (t.streets.length-1)=true∧n<1100∧¬(decide (b=61)=true∧(t.at_ k).both=false)∧(t.ends ⟨k,decide (b=61)⟩).1=at0∧t.placeIdx (dN (cJ l))=(t.ends ⟨k,decide (b=61)⟩).2∧0≤t.placeIdx (dN (cJ l)) then some ⟨k,decide (b=61)⟩ else none:=by
 unfold stepL;rw[if_pos h46,h];rfl
theorem readAns_err(h:t.check.2.2≠0):t.readAns L=(0,[],t.check.2.2):=by unfold readAns;rw[if_pos h]
theorem readAns_3(h:t.check.2.2=0)(hl:23000<L.length):t.readAns L=(0,[],3):=by unfold readAns;rw[if_neg (by simp[h]),if_pos hl]
theorem readAns_6(h:t.check.2.2=0)(hl:¬23000<L.length)(hr:t.readL L=none):t.readAns L=(0,[],6):=by unfold readAns;rw[if_neg (by simp[h]),if_neg hl,hr]
theorem readAns_0(h:t.check.2.2=0)(hl:¬23000<L.length)(hr:t.readL L=some (a,xs)):t.readAns L=(a,xs,0):=by unfold readAns;rw[if_neg (by simp[h]),if_neg hl,hr]
end Town
def yM(w:World)(a:Int)(xs:List Step)(b:Int)(e:Ending)(w':World):Prop:=∃v,e=.returned (.tuple #[.int .i64 a,v,.int .i64 b])∧bY w' v xs∧Ext w w'
theorem Nr.grown1{g:Nat}{A B:World}(h:Nr [g] A B):A.grownBy B (some g):=⟨h.os,h.tape,h.output,h.size,fun k hk hn=>h.block k hk (by simp;exact fun e=>hn (by rw[e]))⟩
structure Rd(w W:World)(g3 g4 g5 g6 g7:Nat)(tw:Array Value)(l:ByteArray)(a:Int)(uc u:Value)(xs:List Step):Prop where
 E:Ext w W
 p3:w.heap.size≤g3
 p4:w.heap.size≤g4
 p5:w.heap.size≤g5
 p6:w.heap.size≤g6
 p7:w.heap.size≤g7
 b3:Blk W g3 9 #[.string l]
 b4:Blk W g4 3 #[.int .i64 a]
 b5:Blk W g5 32 #[uc]
 b6:Blk W g6 26 #[.int .i64 0]
 b7:Blk W g7 90 tw
 own:aX w.heap.size W u xs
section
variable{w W W':World}{g3 g4 g5 g6 g7:Nat}{tw:Array Value}{l l':ByteArray}{a a':Int}{uc u u' uc':Value}{xs xs':List Step}
theorem Rd.ext(h:Rd w W g3 g4 g5 g6 g7 tw l a uc u xs)(e:Ext W W'):Rd w W' g3 g4 g5 g6 g7 tw l a uc u xs:=
 ⟨h.E.trans e,h.p3,h.p4,h.p5,h.p6,h.p7,h.b3.ext e,h.b4.ext e,h.b5.ext e,h.b6.ext e,h.b7.ext e,h.own.ext e⟩
theorem Rd.text(h:Rd w W g3 g4 g5 g6 g7 tw l a uc u xs)(b:Blk W' g3 9 #[.string l'])(hg:W.grownBy W' (some g3)):Rd w W' g3 g4 g5 g6 g7 tw l' a uc u xs:=
 ⟨aD h.E hg h.p3,h.p3,h.p4,h.p5,h.p6,h.p7,b,h.b4.grown hg (fun e=>blk_ne h.b4 h.b3 (by decide) (Option.some.inj e)),h.b5.grown hg (fun e=>blk_ne h.b5 h.b3 (by decide) (Option.some.inj e)),
  h.b6.grown hg (fun e=>blk_ne h.b6 h.b3 (by decide) (Option.some.inj e)),h.b7.grown hg (fun e=>blk_ne h.b7 h.b3 (by decide) (Option.some.inj e)),fM h.own hg (kY h.own h.b3 (.inl (by decide)))⟩
theorem Rd.put4(h:Rd w W g3 g4 g5 g6 g7 tw l a uc u xs)(b:Blk W' g4 3 #[.int .i64 a'])(hg:W.grownBy W' (some g4)):Rd w W' g3 g4 g5 g6 g7 tw l a' uc u xs:=
 ⟨aD h.E hg h.p4,h.p3,h.p4,h.p5,h.p6,h.p7,h.b3.grown hg (fun e=>blk_ne h.b3 h.b4 (by decide) (Option.some.inj e)),b,h.b5.grown hg (fun e=>blk_ne h.b5 h.b4 (by decide) (Option.some.inj e)),
  h.b6.grown hg (fun e=>blk_ne h.b6 h.b4 (by decide) (Option.some.inj e)),h.b7.grown hg (fun e=>blk_ne h.b7 h.b4 (by decide) (Option.some.inj e)),fM h.own hg (kY h.own h.b4 (.inl (by decide)))⟩
theorem Rd.put5(h:Rd w W g3 g4 g5 g6 g7 tw l a uc u xs)(b:Blk W' g5 32 #[uc'])(hg:W.grownBy W' (some g5)):Rd w W' g3 g4 g5 g6 g7 tw l a uc' u xs:=
 ⟨aD h.E hg h.p5,h.p3,h.p4,h.p5,h.p6,h.p7,h.b3.grown hg (fun e=>blk_ne h.b3 h.b5 (by decide) (Option.some.inj e)),h.b4.grown hg (fun e=>blk_ne h.b4 h.b5 (by decide) (Option.some.inj e)),b,
  h.b6.grown hg (fun e=>blk_ne h.b6 h.b5 (by decide) (Option.some.inj e)),h.b7.grown hg (fun e=>blk_ne h.b7 h.b5 (by decide) (Option.some.inj e)),fM h.own hg (kY h.own h.b5 (.inl (by decide)))⟩
theorem Rd.put6(h:Rd w W g3 g4 g5 g6 g7 tw l a uc u xs)(b:Blk W' g6 26 #[.int .i64 0])(hg:W.grownBy W' (some g6)):Rd w W' g3 g4 g5 g6 g7 tw l a uc u xs:=
 ⟨aD h.E hg h.p6,h.p3,h.p4,h.p5,h.p6,h.p7,h.b3.grown hg (fun e=>blk_ne h.b3 h.b6 (by decide) (Option.some.inj e)),h.b4.grown hg (fun e=>blk_ne h.b4 h.b6 (by decide) (Option.some.inj e)),
  h.b5.grown hg (fun e=>blk_ne h.b5 h.b6 (by decide) (Option.some.inj e)),b,h.b7.grown hg (fun e=>blk_ne h.b7 h.b6 (by decide) (Option.some.inj e)),fM h.own hg (kY h.own h.b6 (.inl (by decide)))⟩
theorem Rd.app(h:Rd w W g3 g4 g5 g6 g7 tw l a uc u xs)(ho:aX w.heap.size W' u' xs')(hm:∀w0,Below w.heap.size w0 W→Below w.heap.size w0 W')(hg:W.grownBy W' u.ownBlock):Rd w W' g3 g4 g5 g6 g7 tw l a uc u' xs':=
 ⟨hm w h.E,h.p3,h.p4,h.p5,h.p6,h.p7,h.b3.grown hg (h.b3.notown h.own (.inl (by decide))),h.b4.grown hg (h.b4.notown h.own (.inl (by decide))),h.b5.grown hg (h.b5.notown h.own (.inl (by decide))),
  h.b6.grown hg (h.b6.notown h.own (.inl (by decide))),h.b7.grown hg (h.b7.notown h.own (.inl (by decide))),ho⟩
end
theorem En{w:World}{g:Nat}{n:Int}(h:Blk w g 3 #[.int .i64 n]):(loadVar 3 ⟨g,0,none⟩).run Tryz.prog w=.ok (.int .i64 n) w:=aY Tryz.underlying3 rfl (by simpa using h.cell 0)
theorem rH{w:World}{g:Nat}{u:Value}(h:Blk w g 32 #[u]):(loadVar 32 ⟨g,0,none⟩).run Tryz.prog w=.ok u w:=aY Tryz.underlying32 rfl (by simpa using h.cell 0)
theorem uA{P:Program}{fn:Func}{R:Ending→World→Prop}{a:Act}{w:World}(h:bodyPost P fn R .ret a w):bodyPostD P fn R .ret a w:=by
 obtain⟨hd,v,hr,hR⟩:=h;show Leaves P fn a.tmps R a.defers .returning w
 rw[hd];exact⟨v,hr,hR⟩
theorem jB{a:Array Value}{g4 g5 g6:Nat}{w:World}{n e:Int}{u:Value}(h4:a.getD 4 undef=.pointer (some ⟨g4,0,none⟩))(h5:a.getD 5 undef=.pointer (some ⟨g5,0,none⟩))(h6:a.getD 6 undef=.pointer (some ⟨g6,0,none⟩))
 (hB4:Blk w g4 3 #[.int .i64 n])(hB5:Blk w g5 32 #[u])(hB6:Blk w g6 26 #[.int .i64 e]):
 (results Tryz.f32 a).run Tryz.prog w=.ok (.tuple #[.int .i64 n,u,.int .i64 e]) w:=by
 have hl4:=En hB4;have hl5:=rH hB5;have hl6:=gU hB6;have h4':a[4]?.getD undef=.pointer (some ⟨g4,0,none⟩):=by simpa [Array.getD_eq_getD_getElem?] using h4
 have h5':a[5]?.getD undef=.pointer (some ⟨g5,0,none⟩):=by simpa [Array.getD_eq_getD_getElem?] using h5
 have h6':a[6]?.getD undef=.pointer (some ⟨g6,0,none⟩):=by simpa [Array.getD_eq_getD_getElem?] using h6
 simp[results,Tryz.results32,h4',h5',h6',asAddr,hl4,hl5,hl6,Result.andThen,Sem.run_bind]
def wF(g4 g5 g6:Nat):List Deferred:=[{target:=.fn (.func 80) #[.pointer (some ⟨g4,0,none⟩),.pointer (some ⟨g5,0,none⟩),.pointer (some ⟨g6,0,none⟩)],args:=#[]}]
theorem dX{t:Town}{L:List UInt8}{w W:World}{g3 g4 g5 g6 g7:Nat}{tw:Array Value}{l:ByteArray}{n:Int}{uc u:Value}{xs:List Step}{a:Act}(hd:a.defers=wF g4 g5 g6)
 (h4:a.tmps.getD 4 undef=.pointer (some ⟨g4,0,none⟩))(h5:a.tmps.getD 5 undef=.pointer (some ⟨g5,0,none⟩))(h6:a.tmps.getD 6 undef=.pointer (some ⟨g6,0,none⟩))
 (hR:Rd w W g3 g4 g5 g6 g7 tw l n uc u xs)(hr:t.readAns L=(0,[],6)):
 bodyPostD Tryz.prog Tryz.f32 (yM w (t.readAns L).1 (t.readAns L).2.1 (t.readAns L).2.2) (.panic eW) a W:=by
 show Leaves Tryz.prog Tryz.f32 a.tmps _ a.defers (.panicking eW) W
 rw[hd];refine leaves_cons (f:=80) (args:=#[.pointer (some ⟨g4,0,none⟩),.pointer (some ⟨g5,0,none⟩),.pointer (some ⟨g6,0,none⟩)]) (by simp) (by simp[go_sem]) ?_
 refine(Cl g4 g5 g6 _ _ _ W hR.b4 hR.b5 hR.b6).mono ?_;rintro e u' w'' ⟨rfl,rfl,h4',h5',h6',hn⟩;show Leaves Tryz.prog Tryz.f32 a.tmps _ [] .returning w''
 refine⟨_,jB h4 h5 h6 h4' h5' h6',?_⟩;rw[hr];exact⟨_,rfl,Sl.none_ _ _,hn.ext hR.E (by intro g hg;simp at hg;rcases hg with rfl|rfl|rfl<;>first|exact hR.p4|exact hR.p5|exact hR.p6)⟩
theorem Fk{t:Town}{L:List UInt8}{w W:World}{g4 g5 g6:Nat}{n err:Int}{u:Value}{xs:List Step}{a:Act}(hd:a.defers=wF g4 g5 g6)
 (h4:a.tmps.getD 4 undef=.pointer (some ⟨g4,0,none⟩))(h5:a.tmps.getD 5 undef=.pointer (some ⟨g5,0,none⟩))(h6:a.tmps.getD 6 undef=.pointer (some ⟨g6,0,none⟩))
 (hB4:Blk W g4 3 #[.int .i64 n])(hB5:Blk W g5 32 #[u])(hB6:Blk W g6 26 #[.int .i64 err])(hs:bY W u xs)(hE:Ext w W)(hr:t.readAns L=(n,xs,err)):
 bodyPostD Tryz.prog Tryz.f32 (yM w (t.readAns L).1 (t.readAns L).2.1 (t.readAns L).2.2) .ret a W:=by
 show Leaves Tryz.prog Tryz.f32 a.tmps _ a.defers .returning W
 rw[hd];refine leaves_cons (f:=80) (args:=#[.pointer (some ⟨g4,0,none⟩),.pointer (some ⟨g5,0,none⟩),.pointer (some ⟨g6,0,none⟩)]) (by simp) (by simp[go_sem]) ?_
 refine(Fr g4 g5 g6 W).mono ?_;rintro e u' w'' ⟨rfl,rfl,rfl⟩;show Leaves Tryz.prog Tryz.f32 a.tmps _ [] .returning _
 refine⟨_,jB h4 h5 h6 hB4 hB5 hB6,?_⟩;rw[hr];exact⟨u,rfl,hs,hE⟩
theorem nA{P:Program}{fn:Func}{R:Ending→World→Prop}{s t:Array Value}(h:results fn s=results fn t):∀(ds:List Deferred)(u:FrameMode)(w:World),Leaves P fn s R ds u w→Leaves P fn t R ds u w
 | [],.returning,w,hl=>by obtain⟨v,h1,h2⟩:=hl;exact⟨v,h▸h1,h2⟩
 | [],.panicking _,_,hl=>hl
 | [],.run,_,hl=>hl
 |d::ds,u,w,hl=>by
  obtain⟨hu,fv,cap,f,args,h1,h2,h3⟩:=hl;refine⟨hu,fv,cap,f,args,h1,h2,h3.mono ?_⟩;intro e u' w' he
  cases e with
  |returned _=>exact nA h ds _ _ he
  |panicked _=>exact nA h ds _ _ he
  |outgrown=>exact he
theorem Ou{R:Ending→World→Prop}{c:List PanicEntry}{a:Act}{d:Tmp}{v:Value}{w:World}(hd:(d !=4&&d !=5&&d !=6)=true)
 (h:bodyPostD Tryz.prog Tryz.f32 R (.panic c) (a.put (some d) v) w):bodyPostD Tryz.prog Tryz.f32 R (.panic c) a w:=by
 have hd':(d≠4∧d≠5)∧d≠6:=by simpa using hd
 refine nA (s:=(a.put (some d) v).tmps) ?_ _ _ _ h;simp[results,Tryz.results32,Act.put,Array.getElem?_setIfInBounds_ne hd'.1.1,Array.getElem?_setIfInBounds_ne hd'.1.2,Array.getElem?_setIfInBounds_ne hd'.2]
section
variable{P:Program}{md:Region.Mode}{ops:Array Oper}{Q:Exit→Act→World→Prop}{S:World→Prop}
theorem fG{okd:Tmp→Bool}(hs:Region.noSelect ops=true)(hd:ops.all (fun o=>match o.dst with|none=>true|some d=>okd d)=true)(hQ:∀c(a:Act)(d:Tmp)(v:Value)(w:World),okd d=true→Q (.panic c) (a.put (some d) v) w→Q (.panic c) a w):
 ∀(t:OTree)(l:Array Bool)(fuel:Nat)(a:Act)(w:World),t.depth≤fuel→fO md ops t l=true→cU P ops Q S t a w→wpAnyH P md ops Q S fuel l a w
 | .nil,l,fuel,a,w,_,hok,h=>wpAnyH_done (by simpa [fO] using hok) h fuel
 | .take i r,l,0,a,w,hf,_,_=>by simp[OTree.depth] at hf
 | .one i r,l,0,a,w,hf,_,_=>by simp[OTree.depth] at hf
 | .two i r j s,l,0,a,w,hf,_,_=>by simp[OTree.depth] at hf
 | .take i r,l,fuel+1,a,w,hf,hok,h=>by
  obtain⟨oi,v,ho,hy,hS,h⟩:=h;simp only[fO,Bool.and_eq_true] at hok;have hoi:oi∈ops:=Array.mem_of_getElem? ho;have hdi:=(Array.all_eq_true_iff_forall_mem.1 hd) oi hoi;refine wpAnyH_take ho hs hok.1.1 hok.1.2 (fun c a w h=> ?_) hy hS (fG hs hd hQ r _ fuel _ _ (by simpa [OTree.depth] using hf) hok.2 h)
  cases hdd:oi.dst with
  |none=>rw[hdd] at h;exact h
  |some d=>rw[hdd] at h hdi;exact hQ c a d v w hdi h
 | .one i r,l,fuel+1,a,w,hf,hok,h=>by
  simp only[fO,Bool.and_eq_true,beq_iff_eq] at hok;refine wpAnyH_all hok.1 (by simp) fun j hj=> ?_
  obtain rfl:j=i:=by simpa using hj
  exact wpOp_mono (fun a' w' h'=>⟨h'.1,fG hs hd hQ r _ fuel _ _ (by simpa [OTree.depth] using hf) hok.2 h'.2⟩) h
 | .two i r j s,l,fuel+1,a,w,hf,hok,h=>by
  simp only[fO,Bool.and_eq_true,beq_iff_eq] at hok;obtain⟨h1,h2⟩:=h;have hd2:r.depth≤fuel∧s.depth≤fuel:=by simp only[OTree.depth] at hf;omega
  refine wpAnyH_all hok.1.1 (by simp) fun k hk=> ?_
  have hk:k=i∨k=j:=by simpa using hk
  rcases hk with rfl|rfl
  ·exact wpOp_mono (fun a' w' h'=>⟨h'.1,fG hs hd hQ r _ fuel _ _ hd2.1 hok.1.2 h'.2⟩) h1
  ·exact wpOp_mono (fun a' w' h'=>⟨h'.1,fG hs hd hQ s _ fuel _ _ hd2.2 hok.2 h'.2⟩) h2
theorem mN{id:Nat}{a:Act}{w:World}(t:OTree)(S:World→Prop)(okd:Tmp→Bool)(hm:P.follows .mixedOrders=true)
 (hs:Region.noSelect ops=true)(hf:Nat.ble t.depth ops.size=true)(hok:fO .any ops t (Array.replicate ops.size false)=true)
 (hd:ops.all (fun o=>match o.dst with|none=>true|some d=>okd d)=true)
 (hQ:∀c(a:Act)(d:Tmp)(v:Value)(w:World),okd d=true→Q (.panic c) (a.put (some d) v) w→Q (.panic c) a w)
 (hS:S w.drew)(h:S w.drew→cU P ops Q S t a w.drew):(Code.region id ops true).wp P Q a w:=
 wp_region_held_drew (S:=S) hm hS fun hS=>fG hs hd hQ t _ _ _ _ (Nat.le_of_ble_eq_true hf) hok (h hS)
end
end Go.St
end
