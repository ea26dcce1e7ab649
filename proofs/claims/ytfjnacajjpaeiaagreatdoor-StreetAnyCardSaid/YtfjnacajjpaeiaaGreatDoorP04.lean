/- Chapter 03: contracts of functions of the program and of the reference, and plain laws (out of R4 P1 SR1 ST1 SShelf SW3 StH StP StI). No condition of its own. -/
import Derived.Shelf.Small.Utf8
import Derived.Shelf.Small.Wraps
import Derived.Shelf.Strconv.AtoiAll
import Derived.Shelf.Strconv.Itoa3
import Derived.Shelf.Strings.BuilderK
import Derived.Shelf.Strings.IndexAnyAll
import Derived.Shelf.Strings.Shaped
import Derived.Test.YtfjnacajjpaeiaaGreatDoorP03
set_option maxRecDepth 100000
set_option linter.all false
section
namespace Go.Bp
open Go.RowKit Go.Proofs
theorem vI(v:Value)(xs:List ByteArray)(s:ByteArray)(w:World)(h:Strs w v xs):
 Calls Tryz.prog 83 #[v,.string s] w fun e w'=>e=.returned (.int .i64 (mQ (fun x=>decide (s=x)) xs))∧w=w':=by
 obtain⟨A,c,rfl,h1,h2,h3,h4⟩:=h;unfold maxLen at h2;clear h3;go_enter Tryz.func83,Tryz.ntmps83
 go_wp2
 go_loop [8] (fun i=>∃k:Nat,k≤xs.length∧i=.int .i64 k∧∀x∈xs.take k,decide (s=x)=false) (fun i=>xs.length-(intOf i).toNat)
 case atStart=>exact⟨0,by omega,rfl,by simp⟩
 case round=>
  obtain⟨k,hk,rfl,hn⟩:=hrel;have Hn:=Lib.hid hn;clear hn;by_cases hlt:k<xs.length
  ·obtain⟨ad,rfl,hc⟩:=h4 (by omega)
   have e1:=hc.s hlt;clear h4 hc;by_cases he:s=xs[k]
   ·have hbe:(s.toList==xs[k].toList)=true:=by rw[Bf];simp[he]
    have hr:=nX hlt (by simp[he]) Hn.out
    have Hr:=Lib.hid hr;clear hr;have He:=Lib.hid he;clear he;go_wp2
    go_ret
    exact⟨lI Hr.out.symm,rfl⟩
   ·have hbe:(s.toList==xs[k].toList)=false:=by rw[Bf];simp[he]
    have He:=Lib.hid he;clear he;go_wp2
    go_round
    case rel=>exact⟨k+1,by omega,by go_num,eG hlt Hn.out (by simp[He.out])⟩
    case measure=>simp[intOf];omega
  ·go_wp2
   go_ret
   obtain rfl:k=xs.length:=by omega
   have:=Hn.out;rw[List.take_length] at this;exact⟨lI (lM this).symm,rfl⟩
theorem vV(v:Value)(xs:List ByteArray)(s:ByteArray)(w:World)(h:Strs w v xs):
 Calls Tryz.prog 50 #[v,.string s] w fun e w'=>e=.returned (.bool (xs.any fun x=>decide (s=x)))∧w=w':=by
 have hg:=nW (fun x=>decide (s=x)) xs
 have Hg:=Lib.hid hg;clear hg;go_enter Tryz.func50,Tryz.ntmps50
 go_wp2_with (go_at_call 83;refine(vI _ _ _ _ h).mono ?_;rintro e w' ⟨rfl,rfl⟩)
 go_ret
 exact⟨jR Hg.out,rfl⟩
theorem Dx(v:Value)(xs:List Int)(s:Int)(w:World)(h:bG w v xs):
 Calls Tryz.prog 123 #[v,.int .i64 s] w fun e w'=>e=.returned (.int .i64 (mQ (fun x=>decide (s=x)) xs))∧w=w':=by
 obtain⟨A,c,rfl,h1,h2,h3,h4⟩:=h;unfold maxLen at h2;clear h3;go_enter Tryz.func123,Tryz.ntmps123
 go_wp2
 go_loop [8] (fun i=>∃k:Nat,k≤xs.length∧i=.int .i64 k∧∀x∈xs.take k,decide (s=x)=false) (fun i=>xs.length-(intOf i).toNat)
 case atStart=>exact⟨0,by omega,rfl,by simp⟩
 case round=>
  obtain⟨k,hk,rfl,hn⟩:=hrel;have Hn:=Lib.hid hn;clear hn;by_cases hlt:k<xs.length
  ·obtain⟨ad,rfl,hc⟩:=h4 (by omega)
   have e1:=hc.i hlt;clear h4 hc;by_cases he:s=xs[k]
   ·have hbe:(s==xs[k])=true:=by simp[he]
    have hr:=nX (p:=fun x=>decide (s=x)) hlt (by simp[he]) Hn.out
    have Hr:=Lib.hid hr;clear hr;have He:=Lib.hid he;clear he;go_wp2
    go_ret
    exact⟨lI Hr.out.symm,rfl⟩
   ·have hbe:(s==xs[k])=false:=by simp[he]
    have He:=Lib.hid he;clear he;go_wp2
    go_round
    case rel=>exact⟨k+1,by omega,by go_num,eG hlt Hn.out (by simp[He.out])⟩
    case measure=>simp[intOf];omega
  ·go_wp2
   go_ret
   obtain rfl:k=xs.length:=by omega
   have:=Hn.out;rw[List.take_length] at this;exact⟨lI (lM this).symm,rfl⟩
theorem vW(v:Value)(xs:List Int)(s:Int)(w:World)(h:bG w v xs):
 Calls Tryz.prog 100 #[v,.int .i64 s] w fun e w'=>e=.returned (.bool (xs.any fun x=>decide (s=x)))∧w=w':=by
 have hg:=nW (fun x=>decide (s=x)) xs
 have Hg:=Lib.hid hg;clear hg;go_enter Tryz.func100,Tryz.ntmps100
 go_wp2_with (go_at_call 123;refine(Dx _ _ _ _ h).mono ?_;rintro e w' ⟨rfl,rfl⟩)
 go_ret
 exact⟨jR Hg.out,rfl⟩
def Of(w:World)(F:FuncId)(cap:Array Value)(p:Int→Bool)(xs:List Int):Prop:=
 ∀x∈xs,∀W,Ext w W→Calls Tryz.prog F (#[.int .i64 x]++cap) W fun e W'=>e=.returned (.bool (p x))∧Ext W W'
set_option maxHeartbeats 400000 in
theorem vU(F:FuncId)(cap:Array Value)(p:Int→Bool)(v:Value)(xs:List Int)(w:World)(h:bG w v xs)
 (hF:∀(args:Array Value)(W:World),(callFunc F args).run Tryz.prog W=.ok (.enter F args) W)(hp:Of w F cap p xs):
 Calls Tryz.prog 115 #[v,.func (.func F) #[] cap] w fun e w'=>e=.returned (.int .i64 (mQ p xs))∧Ext w w':=by
 obtain⟨A,c,rfl,h1,h2,h3,h4⟩:=h;unfold maxLen at h2;clear h3;have Hp:=Lib.hid hp;clear hp;go_enter Tryz.func115,Tryz.ntmps115
 go_wp2
 go_loopw [8] (fun i wr=>Ext w wr∧∃k:Nat,k≤xs.length∧i=.int .i64 k∧∀x∈xs.take k,p x=false) (fun i _=>xs.length-(intOf i).toNat)
 case atStart=>exact⟨Ext.refl _,0,by omega,rfl,by simp⟩
 case round=>
  obtain⟨hEr,k,hk,rfl,hn⟩:=hrel;have Hn:=Lib.hid hn;clear hn;by_cases hlt:k<xs.length
  ·obtain⟨ad,rfl,hc⟩:=h4 (by omega)
   have e1:=(hc.ext hEr).i hlt;have hcall:=Hp.out xs[k] (List.getElem_mem hlt) wr hEr;have Hcall:=Lib.hid hcall;clear h4 hc hcall;go_wp2_with fail
   refine Hcall.out.mono ?_;rintro e W1 ⟨rfl,hE1⟩;replace hEr:=hEr.trans hE1;by_cases hpk:p xs[k]=true
   ·have hr:=nX hlt hpk Hn.out;have Hr:=Lib.hid hr;clear hr;go_wp2
    go_ret
    exact⟨lI Hr.out.symm,hEr⟩
   ·simp only[Bool.not_eq_true] at hpk;go_wp2
    go_roundw
    case rel=>exact⟨hEr,k+1,by omega,by go_num,eG hlt Hn.out hpk⟩
    case measure=>simp[intOf];omega
  ·go_wp2
   go_ret
   obtain rfl:k=xs.length:=by omega
   have:=Hn.out;rw[List.take_length] at this;exact⟨lI (lM this).symm,hEr⟩
theorem lR(F:FuncId)(cap:Array Value)(p:Int→Bool)(v:Value)(xs:List Int)(w:World)(h:bG w v xs)
 (hF:∀(args:Array Value)(W:World),(callFunc F args).run Tryz.prog W=.ok (.enter F args) W)(hp:Of w F cap p xs):
 Calls Tryz.prog 91 #[v,.func (.func F) #[] cap] w fun e w'=>e=.returned (.bool (xs.any p))∧Ext w w':=by
 have hg:=nW p xs;have Hg:=Lib.hid hg;have Hp:=Lib.hid hp;have HF:=Lib.hid hF;clear hg hp hF;go_enter Tryz.func91,Tryz.ntmps91
 go_wp2_with (go_at_call 115;refine(vU F cap p _ xs _ h HF.out Hp.out).mono ?_;rintro e w' ⟨rfl,hE⟩)
 go_ret
 exact⟨jR Hg.out,hE⟩
theorem Gm:∀(args:Array Value)(W:World),(callFunc 116 args).run Tryz.prog W=.ok (.enter 116 args) W:=enters_of Tryz.func116 (by kernel_rfl) rfl
theorem Jr(x:Int)(g1 g2:Nat)(lo hi:Int)(w:World)(h1:w.cell? ⟨g1,0,none⟩=some (.int .i64 lo))(h2:w.cell? ⟨g2,0,none⟩=some (.int .i64 hi)):
 Calls Tryz.prog 116 #[.int .i64 x,.pointer (some ⟨g1,0,none⟩),.pointer (some ⟨g2,0,none⟩)] w fun e w'=>e=.returned (.bool (!inB x lo hi))∧w=w':=by
 unfold inB;go_enter Tryz.func116,Tryz.ntmps116
 go_wp2
 all_goals(go_ret;exact⟨jR (by rw[Bool.eq_iff_iff];simp;try omega),rfl⟩)
theorem Dl(lo hi:Int)(v:Value)(xs:List Int)(w:World)(h:bG w v xs):
 Calls Tryz.prog 93 #[.int .i64 lo,.int .i64 hi,v] w fun e w'=>e=.returned (.bool (xs.any fun x=> !inB x lo hi))∧Ext w w':=by
 have hE:=Ext.refl w;go_enter Tryz.func93,Tryz.ntmps93
 go_wp2_with (first|((with_reducible refine aF (d:=some 3) ?_);intro W3 g3 hE3 hB3 hg3;simp[Act.eval,Act.put,Value.cells] at hB3;(try replace hE:=hE.trans hE3);(try replace h:=h.ext hE3);have hb3_0:=hB3.cell 0;simp at hb3_0;clear hE3)|((with_reducible refine aF (d:=some 4) ?_);intro W4 g4 hE4 hB4 hg4;simp[Act.eval,Act.put,Value.cells] at hB4;(try replace hE:=hE.trans hE4);(try replace h:=h.ext hE4);(try replace hb3_0:=hE4.c hb3_0);have hb4_0:=hB4.cell 0;simp at hb4_0;clear hE4))
 have hp:Of W4 116 #[.pointer (some ⟨g3,0,none⟩),.pointer (some ⟨g4,0,none⟩)] (fun x=> !inB x lo hi) xs:=by
  intro x _ W hW;exact(Jr x g3 g4 lo hi W (Ext.cell_some hW hb3_0) (Ext.cell_some hW hb4_0)).mono fun e W' h=>⟨h.1,h.2▸Ext.refl _⟩
 have Hp:=Lib.hid hp;clear hp;refine(lR 116 _ _ _ _ _ h Gm Hp.out).mono ?_;rintro e Wc ⟨rfl,hEc⟩;go_wp2
 go_ret
 exact⟨rfl,hE.trans hEc⟩
end Go.Bp
end
section
namespace Go.Bp
open Go.RowKit Go.Proofs
theorem iA.of_blk{B g:Nat}{w:World}{n:Int}(h:Blk w g 3 #[.int .i64 n])(hB:B≤g):iA B w (.slice (some ⟨g,0,none⟩) 1 1) [n]:=
 ⟨by simp[gA],.inr ⟨g,1,_,rfl,hB,h,Nat.le_refl _,by decide,rfl,by simp[gA]⟩⟩
def uZ(k:Nat)(b:UInt8):Bool:=if k=0 then inB b.toNat 97 122 else gG b
theorem Ct{s:ByteArray}{k:Nat}(hk:k<s.size)(h:uZ k s[k]=false):dM s=false:=by
 unfold uZ at h;split at h
 ·rename_i h0;subst h0;exact wO hk h
 ·exact wP hk h
theorem Am{s:ByteArray}(h1:inB s.size 1 16=true)(h:∀k(hk:k<s.size),uZ k s[k]=true):dM s=true:=by
 have h0:0<s.size:=by have:=aV.1 h1;omega
 refine uM h1 h0 (by simpa [uZ] using h 0 h0) fun k hk=> ?_
 by_cases e:k=0
 ·subst e;have:=h 0 h0;simp only[uZ,if_true] at this;simp[gG,this]
 ·have:=h k hk;simpa [uZ,e] using this
theorem gV(w:World)(s:ByteArray)(k:Nat):Ext w (w.iter s k):=Ext.ofAlloc _ _
set_option maxHeartbeats 2000000 in
theorem rP(s:ByteArray)(w:World)(hs:s.size≤maxLen):Calls Tryz.prog 49 #[.string s] w fun e w'=>e=.returned (.bool (dM s))∧Ext w w':=by
 unfold maxLen at hs;go_enter Tryz.func49,Tryz.ntmps49
 go_wp2
 go_loopw [3] (fun i wr=>∃k:Nat,k≤s.size∧wr=w.iter s k∧∀j(hj:j<s.size),j<k→uZ j s[j]=true) (fun _ wr=>s.size-wr.iterPos w.heap.size)
 case atStart=>exact⟨0,by omega,rfl,by omega⟩
 case round=>
  obtain⟨k,hk,rfl,hn⟩:=hrel;have Hn:=Lib.hid hn;clear hn;by_cases hlt:k<s.size
  ·by_cases hc:uZ k s[k]=true
   ·have ha:s[k].toNat<128:=by
     unfold uZ at hc;split at hc
     ·have:=aV.1 hc;omega
     ·unfold gG at hc;rw[Bool.or_eq_true] at hc;rcases hc with hc|hc<;>(have:=aV.1 hc;omega)
    have hx:=run_next_ascii (P:=Tryz.prog) w s k 0 hlt ha;obtain⟨r,hr⟩:∃r:Nat,s[k].toNat=r:=⟨_,rfl⟩;have Hc:=Lib.hid hc;rw[hr] at hx ha;have key:(97≤r∧r≤122)∨(k≠0∧48≤r∧r≤57):=by
     unfold uZ at hc;split at hc
     ·have:=aV.1 hc;omega
     ·rename_i hk0;unfold gG at hc;rw[Bool.or_eq_true] at hc;rcases hc with hc|hc
      ·have:=aV.1 hc;omega
      ·have:=aV.1 hc;exact .inr ⟨hk0,by omega⟩
    clear hr hc;rcases key with ⟨c1,c2⟩|⟨c0,c1,c2⟩
    ·have d1:¬((r:Int)<97):=by omega
     have d2:¬((122:Int)<r):=by omega
     go_wp2
     go_roundw
     case rel=>exact⟨k+1,by omega,rfl,fun j hj hjk=>by
      by_cases e:j=k;·subst e;exact Hc.out
      ·exact Hn.out j hj (by omega)⟩
     case measure=>simp;omega
    ·have d0:((k:Int)==0)=false:=by simp;omega
     have d1:(r:Int)<97:=by omega
     have d2:¬((r:Int)<48):=by omega
     have d3:¬((57:Int)<r):=by omega
     go_wp2
     go_roundw
     case rel=>exact⟨k+1,by omega,rfl,fun j hj hjk=>by
      by_cases e:j=k;·subst e;exact Hc.out
      ·exact Hn.out j hj (by omega)⟩
     case measure=>simp;omega
   ·simp only[Bool.not_eq_true] at hc;have Hf:=Lib.hid (Ct hlt hc);have hx:=run_next_any (P:=Tryz.prog) w s k 0 hlt;have key:((Utf8.decode s k).1<97∨122<(Utf8.decode s k).1)∧(k=0∨(Utf8.decode s k).1<48∨57<(Utf8.decode s k).1):=by
     by_cases ha:s[k].toNat<128
     ·rw[decode_ascii s k hlt ha];unfold uZ at hc;split at hc
      ·rename_i h0;have:=Ki.1 hc;exact⟨by omega,.inl h0⟩
      ·unfold gG at hc;rw[Bool.or_eq_false_iff] at hc;have h1:=Ki.1 hc.1;have h2:=Ki.1 hc.2;exact⟨by omega,by omega⟩
     ·have:=(decode_high s k hlt (by omega)).1
      exact⟨by omega,by omega⟩
    have hle:=decode_le s k;obtain⟨r,hr⟩:∃r,(Utf8.decode s k).1=r:=⟨_,rfl⟩;obtain⟨dd,hd⟩:∃d,(Utf8.decode s k).2=d:=⟨_,rfl⟩;rw[hr] at hx key hle;rw[hd] at hx;clear hr hd hc;obtain⟨k1,k2⟩:=key;have fin:∀W,W=w.iter s (k+dd)→Ext w W:=fun W h=>h▸gV _ _ _
    by_cases c0:k=0
    ·have d0:((k:Int)==0)=true:=by simp[c0]
     have C0:=Lib.hid c0;clear c0;rcases k1 with c1|c1
     ·have d1:(r:Int)<97:=by omega
      go_wp2
      go_ret
      exact⟨jR Hf.out.symm,gV _ _ _⟩
     ·have d1:¬((r:Int)<97):=by omega
      have d2:(122:Int)<r:=by omega
      go_wp2
      go_ret
      exact⟨jR Hf.out.symm,gV _ _ _⟩
    ·have d0:((k:Int)==0)=false:=by simp;omega
     rcases k1 with c1|c1
     ·have d1:(r:Int)<97:=by omega
      by_cases c2:r<48
      ·have d2:(r:Int)<48:=by omega
       go_wp2
       go_ret
       exact⟨jR Hf.out.symm,gV _ _ _⟩
      ·have d2:¬((r:Int)<48):=by omega
       have d3:(57:Int)<r:=by omega
       go_wp2
       go_ret
       exact⟨jR Hf.out.symm,gV _ _ _⟩
     ·have d1:¬((r:Int)<97):=by omega
      have d2:(122:Int)<r:=by omega
      have d3:¬((r:Int)<48):=by omega
      have d4:(57:Int)<r:=by omega
      go_wp2
      go_ret
      exact⟨jR Hf.out.symm,gV _ _ _⟩
  ·obtain rfl:k=s.size:=by omega
   have hx:=run_next_end (P:=Tryz.prog) w s s.size 0 (by omega)
   have hEi:=gV w s s.size;obtain⟨Wl,hWl⟩:∃W,W=w.iter s s.size:=⟨_,rfl⟩;have hr:dM s=inB s.size 1 16:=by
    cases hz:inB s.size 1 16 with
    |true=>exact Am hz (fun j hj=>Hn.out j hj hj)
    |false=>exact uN hz
   have Hr:=Lib.hid hr;clear hr;rw[←hWl] at hEi hx⊢;clear hWl;go_wp2_with (first|((with_reducible refine Jm (d:=some 31) (n:=(s.size:Int)) ?_ ?_);rfl;intro W31 g31 hE31 hB31 hg31;replace hEi:=hEi.trans hE31;have hI:=(iA.of_blk (B:=0) hB31 (Nat.zero_le _)).ints)|(go_at_call 93;((with_reducible refine(Dl 1 16 _ [(s.size:Int)] _ hI).mono ?_);rintro e Wc ⟨rfl,hEc⟩;replace hEi:=hEi.trans hEc)))
   go_ret
   exact⟨jR (by rw[Hr.out]),hEi⟩
end Go.Bp
end
section
namespace Go.St
open Go Go.Bp Go.RowKit Go.Proofs
theorem iC{n m:Nat}(h:n≤m)(hm:m≤61):(1:Int)≤2^n∧(2:Int)^n≤2305843009213693952:=by
 have h1:(2:Nat)^n≤2305843009213693952:=Nat.le_trans (Nat.pow_le_pow_right (by omega) (show n≤61 by omega)) (by decide)
 have h2:1≤(2:Nat)^n:=Nat.one_le_two_pow;have e:(2:Int)^n=((2^n:Nat):Int):=by push_cast;rfl
 rw[e];omega
theorem nP{k:Nat}(h:k≤6):(2:Int)^k≤64:=by
 have h1:(2:Nat)^k≤64:=Nat.le_trans (Nat.pow_le_pow_right (by omega) h) (by decide)
 have e:(2:Int)^k=((2^k:Nat):Int):=by push_cast;rfl
 rw[e];omega
end Go.St
end
section
namespace Go.St
open Go Go.Bp Go.RowKit Go.Proofs
section
variable{P:Program}{ops:Array Oper}{Q:Exit→Act→World→Prop}{a:Act}{w:World}{rest:List Oper}
variable{d:Option Tmp}{ty ty':TypeId}{pos:String}{after:Array Edge}
theorem nO{S:World→Prop}{x y:Operand}{p q r:ByteArray}(hx:a.eval x=.string p)(hy:a.eval y=.string q)(hr:p++q=r)(hs:p.size+q.size≤1000000000):
 ∀w,S w→(execOp a.eval (⟨d,.binOp .add 9 x y ty',ty,pos,after,none⟩:Oper)).run P w=.ok (.value (.string r)) w:=by
 intro w _;have h:=run_string_add_sum (P:=P) w p q (by omega)
 rw[hr] at h;simp[execOp,hx,hy,binOp,h,Result.andThen,eqGuard]
end
section
variable{ops:Array Oper}{Q:Exit→Act→World→Prop}{a:Act}{w:World}{rest:List Oper}
variable{d:Option Tmp}{ty:TypeId}{pos:String}{after:Array Edge}
theorem ti5:(Tryz.prog.info? 5).map (fun i=>(i.zero,i.size,i.bytes))=some (some (.int .u8 0),1,1):=by kernel_rfl
end
end Go.St
end
section
namespace Go.Proofs
open Go.Shelf
def Tryz.lays169_ren:Go.Shelf.Ren:=⟨fun|169=>78|n=>n,fun|70=>139|9=>9|0=>0|72=>141|37=>65|127=>171|3=>3|5=>5|n=>n,fun|n=>n⟩
theorem Tryz.lays169:Go.Proofs.Lays.n169 Tryz.prog Tryz.lays169_ren:={
 mixed:=by kernel_rfl
 f169:=Tryz.func78.trans (congrArg some (by kernel_rfl))
 t0:=Tryz.underlying0
 a0:=Tryz.isAgg0
 z0:=Tryz.sizeOf0
 v0:=Tryz.zeroValue0
 t3:=Tryz.underlying3
 a3:=Tryz.isAgg3
 z3:=Tryz.sizeOf3
 v3:=Tryz.zeroValue3
 t9:=Tryz.underlying9
 a9:=Tryz.isAgg9
 z9:=Tryz.sizeOf9
 v9:=Tryz.zeroValue9
 t37:=Tryz.underlying65
 a37:=Tryz.isAgg65
 z37:=Tryz.sizeOf65
 v37:=Tryz.zeroValue65
 t70:=Tryz.underlying139
 a70:=Tryz.isAgg139
 z70:=Tryz.sizeOf139
 v70:=Tryz.zeroValue139
 t72:=Tryz.underlying141
 a72:=Tryz.isAgg141
 z72:=Tryz.sizeOf141
 v72:=Tryz.zeroValue141
 t127:=Tryz.underlying171
 a127:=Tryz.isAgg171
 z127:=Tryz.sizeOf171
 v127:=Tryz.zeroValue171}
theorem Tryz.Builder_Extra_169:Builder.Extra Tryz.prog Tryz.lays169_ren:={
 sizeBuilder:=by kernel_rfl
 liesBuilder:=by kernel_rfl
 t5:=Tryz.underlying5
 a5:=Tryz.isAgg5
 z5:=Tryz.sizeOf5
 v5:=Tryz.zeroValue5
 infoByte:=by kernel_rfl
 cellsByte:=by kernel_rfl
 sizeByte:=by kernel_rfl
 neB5:=by decide}
open Go.RowKit in
theorem Tryz.Builder_String_any(B b:Nat)(l:List UInt8)(w:World)(h:Lib.IsBuilder 141 5 B b (Lib.byteCells l) w)(hBw:B≤w.heap.size):
 Calls Tryz.prog 78 #[.pointer (some ⟨b,0,none⟩)] w fun e w'=>e=.returned (.string ⟨l.toArray⟩)∧Below B w w':=Any.Builder_String_any Tryz.lays169 Tryz.Builder_Extra_169 B b l w h hBw
def Tryz.lays137_ren:Go.Shelf.Ren:=⟨fun|137=>128|217=>153|266=>167|n=>n,fun|9=>9|5=>5|3=>3|n=>n,fun|n=>n⟩
theorem Tryz.lays137:Go.Proofs.Lays.n137 Tryz.prog Tryz.lays137_ren:={
 mixed:=by kernel_rfl
 f137:=Tryz.func128.trans (congrArg some (by kernel_rfl))
 f217:=Tryz.func153.trans (congrArg some (by kernel_rfl))
 f266:=Tryz.func167.trans (congrArg some (by kernel_rfl))
 t3:=Tryz.underlying3
 a3:=Tryz.isAgg3
 z3:=Tryz.sizeOf3
 v3:=Tryz.zeroValue3
 t5:=Tryz.underlying5
 a5:=Tryz.isAgg5
 z5:=Tryz.sizeOf5
 v5:=Tryz.zeroValue5
 t9:=Tryz.underlying9
 a9:=Tryz.isAgg9
 z9:=Tryz.sizeOf9
 v9:=Tryz.zeroValue9}
open Go.RowKit in
theorem Tryz.strings_IndexByte(s:ByteArray)(c:Int)(w:World):
 Calls Tryz.prog 128 #[.string s,.int .u8 c] w fun e w'=>e=.returned (.int .i64 (Lib.indexByte s.data.toList c.toNat.toUInt8))∧w'=w:=Any.strings_IndexByte Tryz.lays137 s c w
def Tryz.laysM171_ren:Go.Shelf.Ren:=⟨fun|171=>77|243=>106|246=>127|283=>149|284=>150|285=>151|286=>152|129=>147|317=>163|318=>164|319=>165|320=>166|337=>172|338=>173|n=>n,fun|3=>3|9=>9|2=>2|4=>4|171=>213|0=>0|53=>188|37=>65|5=>5|173=>215|212=>230|51=>185|20=>20|213=>231|46=>167|232=>239|233=>240|n=>n,fun|17=>3|18=>4|19=>5|n=>n⟩
theorem Tryz.laysM171:Go.Proofs.LaysM.n171 Tryz.prog Tryz.laysM171_ren:={
 mixed:=by kernel_rfl
 f129:=Tryz.func147.trans (congrArg some (by kernel_rfl))
 f171:=Tryz.func77.trans (congrArg some (by kernel_rfl))
 f243:=Tryz.func106.trans (congrArg some (by kernel_rfl))
 f246:=Tryz.func127.trans (congrArg some (by kernel_rfl))
 f283:=Tryz.func149.trans (congrArg some (by kernel_rfl))
 f284:=Tryz.func150.trans (congrArg some (by kernel_rfl))
 f285:=Tryz.func151.trans (congrArg some (by kernel_rfl))
 f286:=Tryz.func152.trans (congrArg some (by kernel_rfl))
 f317:=Tryz.func163.trans (congrArg some (by kernel_rfl))
 f318:=Tryz.func164.trans (congrArg some (by kernel_rfl))
 f319:=Tryz.func165.trans (congrArg some (by kernel_rfl))
 f320:=Tryz.func166.trans (congrArg some (by kernel_rfl))
 f337:=Tryz.func172.trans (congrArg some (by kernel_rfl))
 f338:=Tryz.func173.trans (congrArg some (by kernel_rfl))
 t0:=Tryz.underlying0
 a0:=Tryz.isAgg0
 z0:=Tryz.sizeOf0
 v0:=Tryz.zeroValue0
 t2:=Tryz.underlying2
 a2:=Tryz.isAgg2
 z2:=Tryz.sizeOf2
 v2:=Tryz.zeroValue2
 t3:=Tryz.underlying3
 a3:=Tryz.isAgg3
 z3:=Tryz.sizeOf3
 v3:=Tryz.zeroValue3
 t4:=Tryz.underlying4
 a4:=Tryz.isAgg4
 z4:=Tryz.sizeOf4
 v4:=Tryz.zeroValue4
 t5:=Tryz.underlying5
 a5:=Tryz.isAgg5
 z5:=Tryz.sizeOf5
 v5:=Tryz.zeroValue5
 t9:=Tryz.underlying9
 a9:=Tryz.isAgg9
 z9:=Tryz.sizeOf9
 v9:=Tryz.zeroValue9
 t20:=Tryz.underlying20
 a20:=Tryz.isAgg20
 z20:=Tryz.sizeOf20
 v20:=Tryz.zeroValue20
 t37:=Tryz.underlying65
 a37:=Tryz.isAgg65
 z37:=Tryz.sizeOf65
 v37:=Tryz.zeroValue65
 t46:=Tryz.underlying167
 a46:=Tryz.isAgg167
 z46:=Tryz.sizeOf167
 v46:=Tryz.zeroValue167
 t51:=Tryz.underlying185
 a51:=Tryz.isAgg185
 z51:=Tryz.sizeOf185
 v51:=Tryz.zeroValue185
 t53:=Tryz.underlying188
 a53:=Tryz.isAgg188
 z53:=Tryz.sizeOf188
 v53:=Tryz.zeroValue188
 t171:=Tryz.underlying213
 a171:=Tryz.isAgg213
 z171:=Tryz.sizeOf213
 v171:=Tryz.zeroValue213
 t173:=Tryz.underlying215
 a173:=Tryz.isAgg215
 z173:=Tryz.sizeOf215
 v173:=Tryz.zeroValue215
 t212:=Tryz.underlying230
 a212:=Tryz.isAgg230
 z212:=Tryz.sizeOf230
 v212:=Tryz.zeroValue230
 t213:=Tryz.underlying231
 a213:=Tryz.isAgg231
 z213:=Tryz.sizeOf231
 t232:=Tryz.underlying239
 a232:=Tryz.isAgg239
 z232:=Tryz.sizeOf239
 v232:=Tryz.zeroValue239
 t233:=Tryz.underlying240
 a233:=Tryz.isAgg240
 z233:=Tryz.sizeOf240
 v233:=Tryz.zeroValue240
 g17:=by kernel_rfl
 g18:=by kernel_rfl
 g19:=by kernel_rfl
 i0:=by kernel_rfl
 i2:=by kernel_rfl
 i3:=by kernel_rfl
 i4:=by kernel_rfl
 i5:=by kernel_rfl
 i9:=by kernel_rfl
 i20:=by kernel_rfl
 i37:=by kernel_rfl
 i46:=by kernel_rfl
 i51:=by kernel_rfl
 i53:=by kernel_rfl
 i171:=by kernel_rfl
 i173:=by kernel_rfl
 i212:=by kernel_rfl
 i232:=by kernel_rfl
 i233:=by kernel_rfl
 m17:=by kernel_rfl
 m18:=by kernel_rfl
 m19:=by kernel_rfl}
open Go.RowKit Go.Sort Go.Lib in
theorem Tryz.strconv_Itoa(n:Int)(h0: -9223372036854775808≤n)(h1:n≤9223372036854775807)(w:World)(htab:Lib.TabIs Tryz.prog w "internal/strconv.uint64pow10" .u64 Lib.pow10Tab):
 Calls Tryz.prog 77 #[.int .i64 n] w fun e w'=>e=.returned (.string ⟨(Lib.itoa n).toArray⟩)∧∃k os,w'=grow (w.drewN k) os:=Any.strconv_Itoa Tryz.laysM171 n h0 h1 w htab
def Tryz.laysC172_ren:Go.Shelf.Ren:=⟨fun|172=>86|244=>113|245=>114|247=>133|279=>134|280=>135|281=>136|282=>137|287=>155|316=>156|171=>77|205=>157|321=>169|322=>170|243=>106|246=>127|283=>149|284=>150|285=>151|286=>152|129=>147|317=>163|318=>164|319=>165|320=>166|337=>172|338=>173|n=>n,fun|9=>9|3=>3|75=>143|76=>144|4=>4|5=>5|167=>197|37=>65|0=>0|85=>198|2=>2|168=>200|53=>188|175=>217|46=>167|210=>221|127=>171|145=>236|143=>234|21=>21|171=>213|173=>215|212=>230|51=>185|20=>20|213=>231|232=>239|233=>240|80=>147|n=>n,fun|15=>1|16=>2|17=>3|18=>4|19=>5|n=>n⟩
theorem Tryz.laysC172:Go.Proofs.LaysC.n172 Tryz.prog Tryz.laysC172_ren:={
 mixed:=by kernel_rfl
 f129:=Tryz.func147.trans (congrArg some (by kernel_rfl))
 f171:=Tryz.func77.trans (congrArg some (by kernel_rfl))
 f172:=Tryz.func86.trans (congrArg some (by kernel_rfl))
 f205:=Tryz.func157.trans (congrArg some (by kernel_rfl))
 f243:=Tryz.func106.trans (congrArg some (by kernel_rfl))
 f244:=Tryz.func113.trans (congrArg some (by kernel_rfl))
 f245:=Tryz.func114.trans (congrArg some (by kernel_rfl))
 f246:=Tryz.func127.trans (congrArg some (by kernel_rfl))
 f247:=Tryz.func133.trans (congrArg some (by kernel_rfl))
 f279:=Tryz.func134.trans (congrArg some (by kernel_rfl))
 f280:=Tryz.func135.trans (congrArg some (by kernel_rfl))
 f281:=Tryz.func136.trans (congrArg some (by kernel_rfl))
 f282:=Tryz.func137.trans (congrArg some (by kernel_rfl))
 f283:=Tryz.func149.trans (congrArg some (by kernel_rfl))
 f284:=Tryz.func150.trans (congrArg some (by kernel_rfl))
 f285:=Tryz.func151.trans (congrArg some (by kernel_rfl))
 f286:=Tryz.func152.trans (congrArg some (by kernel_rfl))
 f287:=Tryz.func155.trans (congrArg some (by kernel_rfl))
 f316:=Tryz.func156.trans (congrArg some (by kernel_rfl))
 f317:=Tryz.func163.trans (congrArg some (by kernel_rfl))
 f318:=Tryz.func164.trans (congrArg some (by kernel_rfl))
 f319:=Tryz.func165.trans (congrArg some (by kernel_rfl))
 f320:=Tryz.func166.trans (congrArg some (by kernel_rfl))
 f321:=Tryz.func169.trans (congrArg some (by kernel_rfl))
 f322:=Tryz.func170.trans (congrArg some (by kernel_rfl))
 f337:=Tryz.func172.trans (congrArg some (by kernel_rfl))
 f338:=Tryz.func173.trans (congrArg some (by kernel_rfl))
 t0:=Tryz.underlying0
 a0:=Tryz.isAgg0
 z0:=Tryz.sizeOf0
 v0:=Tryz.zeroValue0
 t2:=Tryz.underlying2
 a2:=Tryz.isAgg2
 z2:=Tryz.sizeOf2
 v2:=Tryz.zeroValue2
 t3:=Tryz.underlying3
 a3:=Tryz.isAgg3
 z3:=Tryz.sizeOf3
 v3:=Tryz.zeroValue3
 t4:=Tryz.underlying4
 a4:=Tryz.isAgg4
 z4:=Tryz.sizeOf4
 v4:=Tryz.zeroValue4
 t5:=Tryz.underlying5
 a5:=Tryz.isAgg5
 z5:=Tryz.sizeOf5
 v5:=Tryz.zeroValue5
 t9:=Tryz.underlying9
 a9:=Tryz.isAgg9
 z9:=Tryz.sizeOf9
 v9:=Tryz.zeroValue9
 t20:=Tryz.underlying20
 a20:=Tryz.isAgg20
 z20:=Tryz.sizeOf20
 v20:=Tryz.zeroValue20
 t21:=Tryz.underlying21
 a21:=Tryz.isAgg21
 z21:=Tryz.sizeOf21
 v21:=Tryz.zeroValue21
 t37:=Tryz.underlying65
 a37:=Tryz.isAgg65
 z37:=Tryz.sizeOf65
 v37:=Tryz.zeroValue65
 t46:=Tryz.underlying167
 a46:=Tryz.isAgg167
 z46:=Tryz.sizeOf167
 v46:=Tryz.zeroValue167
 t51:=Tryz.underlying185
 a51:=Tryz.isAgg185
 z51:=Tryz.sizeOf185
 v51:=Tryz.zeroValue185
 t53:=Tryz.underlying188
 a53:=Tryz.isAgg188
 z53:=Tryz.sizeOf188
 v53:=Tryz.zeroValue188
 t75:=Tryz.underlying143
 a75:=Tryz.isAgg143
 z75:=Tryz.sizeOf143
 v75:=Tryz.zeroValue143
 t76:=Tryz.underlying144
 a76:=Tryz.isAgg144
 z76:=Tryz.sizeOf144
 v76:=Tryz.zeroValue144
 t85:=Tryz.underlying198
 a85:=Tryz.isAgg198
 z85:=Tryz.sizeOf198
 v85:=Tryz.zeroValue198
 t127:=Tryz.underlying171
 a127:=Tryz.isAgg171
 z127:=Tryz.sizeOf171
 v127:=Tryz.zeroValue171
 t143:=Tryz.underlying234
 a143:=Tryz.isAgg234
 z143:=Tryz.sizeOf234
 v143:=Tryz.zeroValue234
 t145:=Tryz.underlying236
 a145:=Tryz.isAgg236
 z145:=Tryz.sizeOf236
 v145:=Tryz.zeroValue236
 t167:=Tryz.underlying197
 a167:=Tryz.isAgg197
 z167:=Tryz.sizeOf197
 v167:=Tryz.zeroValue197
 t168:=Tryz.underlying200
 a168:=Tryz.isAgg200
 z168:=Tryz.sizeOf200
 v168:=Tryz.zeroValue200
 t171:=Tryz.underlying213
 a171:=Tryz.isAgg213
 z171:=Tryz.sizeOf213
 v171:=Tryz.zeroValue213
 t173:=Tryz.underlying215
 a173:=Tryz.isAgg215
 z173:=Tryz.sizeOf215
 v173:=Tryz.zeroValue215
 t175:=Tryz.underlying217
 a175:=Tryz.isAgg217
 z175:=Tryz.sizeOf217
 v175:=Tryz.zeroValue217
 t210:=Tryz.underlying221
 a210:=Tryz.isAgg221
 z210:=Tryz.sizeOf221
 v210:=Tryz.zeroValue221
 t212:=Tryz.underlying230
 a212:=Tryz.isAgg230
 z212:=Tryz.sizeOf230
 v212:=Tryz.zeroValue230
 t213:=Tryz.underlying231
 a213:=Tryz.isAgg231
 z213:=Tryz.sizeOf231
 t232:=Tryz.underlying239
 a232:=Tryz.isAgg239
 z232:=Tryz.sizeOf239
 v232:=Tryz.zeroValue239
 t233:=Tryz.underlying240
 a233:=Tryz.isAgg240
 z233:=Tryz.sizeOf240
 v233:=Tryz.zeroValue240
 g15:=by kernel_rfl
 g16:=by kernel_rfl
 g17:=by kernel_rfl
 g18:=by kernel_rfl
 g19:=by kernel_rfl
 t80:=Tryz.underlying147
 a80:=Tryz.isAgg147
 z80:=Tryz.sizeOf147
 v80:=Tryz.zeroValue147
 i0:=by kernel_rfl
 i2:=by kernel_rfl
 i3:=by kernel_rfl
 i4:=by kernel_rfl
 i5:=by kernel_rfl
 i9:=by kernel_rfl
 i20:=by kernel_rfl
 i21:=by kernel_rfl
 i37:=by kernel_rfl
 i46:=by kernel_rfl
 i51:=by kernel_rfl
 i53:=by kernel_rfl
 i75:=by kernel_rfl
 i76:=by kernel_rfl
 i80:=by kernel_rfl
 i85:=by kernel_rfl
 i127:=by kernel_rfl
 i143:=by kernel_rfl
 i145:=by kernel_rfl
 i167:=by kernel_rfl
 i168:=by kernel_rfl
 i171:=by kernel_rfl
 i173:=by kernel_rfl
 i175:=by kernel_rfl
 i210:=by kernel_rfl
 i212:=by kernel_rfl
 i232:=by kernel_rfl
 i233:=by kernel_rfl
 m15:=by kernel_rfl
 m16:=by kernel_rfl
 m17:=by kernel_rfl
 m18:=by kernel_rfl
 m19:=by kernel_rfl
 c0:=by kernel_rfl
 c2:=by kernel_rfl
 c3:=by kernel_rfl
 c4:=by kernel_rfl
 c5:=by kernel_rfl
 c9:=by kernel_rfl
 c20:=by kernel_rfl
 c21:=by kernel_rfl
 c37:=by kernel_rfl
 c46:=by kernel_rfl
 c51:=by kernel_rfl
 c53:=by kernel_rfl
 c75:=by kernel_rfl
 c76:=by kernel_rfl
 c80:=by kernel_rfl
 c85:=by kernel_rfl
 c127:=by kernel_rfl
 c143:=by kernel_rfl
 c145:=by kernel_rfl
 c167:=by kernel_rfl
 c168:=by kernel_rfl
 c171:=by kernel_rfl
 c173:=by kernel_rfl
 c175:=by kernel_rfl
 c210:=by kernel_rfl
 c212:=by kernel_rfl
 c213:=by kernel_rfl
 c232:=by kernel_rfl
 c233:=by kernel_rfl}
open Go.RowKit in
theorem Tryz.strconv_Atoi_ok(s:ByteArray)(hmax:s.size≤9223372036854775806)(v:Int)(h:Lib.atoiAll s.data.toList=.ok v)(w:World):
 Calls Tryz.prog 86 #[.string s] w fun e w'=>e=.returned (.tuple #[.int .i64 v,.nilIface])∧(w'=w∨∃t,w'=Lib.bytesWorld w 5 t):=Any.strconv_Atoi_ok Tryz.laysC172 s hmax v h w
open Go.RowKit in
theorem Tryz.strconv_Atoi_range(s:ByteArray)(hlim:s.size≤281474976710656)(h:Lib.atoiAll s.data.toList=.range)(ev:Value)(w:World)(hv:w.cell? ⟨2,0,none⟩=some ev)(hev:ev=.nilIface∨∃te pe,ev=.iface te pe):
 Calls Tryz.prog 86 #[.string s] w fun e w'=>∃N,e=.returned (.tuple #[.int .i64 (Lib.atoiSat s.data.toList),.iface 200 (.pointer (some ⟨N,0,none⟩))])∧w.heap.size≤N∧w'.heap[N]? =some (.cells #[.string ⟨#[65,116,111,105]⟩,.string s,ev] 221 (0,0))∧Below w.heap.size w w':=Any.strconv_Atoi_range Tryz.laysC172 s hlim h ev w hv hev
open Go.RowKit Go.Lib in
def Tryz.lays219_ren:Go.Shelf.Ren:=⟨fun|219=>132|217=>153|225=>131|224=>130|267=>154|266=>167|314=>168|n=>n,fun|9=>9|3=>3|4=>4|5=>5|46=>167|146=>186|51=>185|n=>n,fun|1=>0|n=>n⟩
theorem Tryz.lays219:Go.Proofs.Lays.n219 Tryz.prog Tryz.lays219_ren:={
 mixed:=by kernel_rfl
 f217:=Tryz.func153.trans (congrArg some (by kernel_rfl))
 f219:=Tryz.func132.trans (congrArg some (by kernel_rfl))
 f224:=Tryz.func130.trans (congrArg some (by kernel_rfl))
 f225:=Tryz.func131.trans (congrArg some (by kernel_rfl))
 f266:=Tryz.func167.trans (congrArg some (by kernel_rfl))
 f267:=Tryz.func154.trans (congrArg some (by kernel_rfl))
 f314:=Tryz.func168.trans (congrArg some (by kernel_rfl))
 t3:=Tryz.underlying3
 a3:=Tryz.isAgg3
 z3:=Tryz.sizeOf3
 v3:=Tryz.zeroValue3
 t4:=Tryz.underlying4
 a4:=Tryz.isAgg4
 z4:=Tryz.sizeOf4
 v4:=Tryz.zeroValue4
 t5:=Tryz.underlying5
 a5:=Tryz.isAgg5
 z5:=Tryz.sizeOf5
 v5:=Tryz.zeroValue5
 t9:=Tryz.underlying9
 a9:=Tryz.isAgg9
 z9:=Tryz.sizeOf9
 v9:=Tryz.zeroValue9
 t46:=Tryz.underlying167
 a46:=Tryz.isAgg167
 z46:=Tryz.sizeOf167
 v46:=Tryz.zeroValue167
 t51:=Tryz.underlying185
 a51:=Tryz.isAgg185
 z51:=Tryz.sizeOf185
 v51:=Tryz.zeroValue185
 t146:=Tryz.underlying186
 a146:=Tryz.isAgg186
 z146:=Tryz.sizeOf186
 v146:=Tryz.zeroValue186
 g1:=by kernel_rfl}
open Go.RowKit Go.Lib in
theorem Tryz.stringslite_Index_one(s:ByteArray)(c:UInt8)(w:World):
 Calls Tryz.prog 132 #[.string s,.string ⟨#[c]⟩] w fun e w'=>e=.returned (.int .i64 (Lib.indexByte s.data.toList c))∧w'=w:=Any.stringslite_Index_one Tryz.lays219 s c w
def Tryz.lays152_ren:Go.Shelf.Ren:=⟨fun|152=>108|137=>128|119=>129|224=>130|225=>131|217=>153|266=>167|n=>n,fun|9=>9|21=>21|3=>3|4=>4|5=>5|0=>0|46=>167|n=>n,fun|n=>n⟩
theorem Tryz.lays152:Go.Proofs.Lays.n152 Tryz.prog Tryz.lays152_ren:={
 mixed:=by kernel_rfl
 f119:=Tryz.func129.trans (congrArg some (by kernel_rfl))
 f137:=Tryz.func128.trans (congrArg some (by kernel_rfl))
 f152:=Tryz.func108.trans (congrArg some (by kernel_rfl))
 f217:=Tryz.func153.trans (congrArg some (by kernel_rfl))
 f224:=Tryz.func130.trans (congrArg some (by kernel_rfl))
 f225:=Tryz.func131.trans (congrArg some (by kernel_rfl))
 f266:=Tryz.func167.trans (congrArg some (by kernel_rfl))
 t0:=Tryz.underlying0
 a0:=Tryz.isAgg0
 z0:=Tryz.sizeOf0
 v0:=Tryz.zeroValue0
 t3:=Tryz.underlying3
 a3:=Tryz.isAgg3
 z3:=Tryz.sizeOf3
 v3:=Tryz.zeroValue3
 t4:=Tryz.underlying4
 a4:=Tryz.isAgg4
 z4:=Tryz.sizeOf4
 v4:=Tryz.zeroValue4
 t5:=Tryz.underlying5
 a5:=Tryz.isAgg5
 z5:=Tryz.sizeOf5
 v5:=Tryz.zeroValue5
 t9:=Tryz.underlying9
 a9:=Tryz.isAgg9
 z9:=Tryz.sizeOf9
 v9:=Tryz.zeroValue9
 t21:=Tryz.underlying21
 a21:=Tryz.isAgg21
 z21:=Tryz.sizeOf21
 v21:=Tryz.zeroValue21
 t46:=Tryz.underlying167
 a46:=Tryz.isAgg167
 z46:=Tryz.sizeOf167
 v46:=Tryz.zeroValue167}
open Go.RowKit Go.Lib in
theorem Tryz.strings_IndexRune_ascii(s:ByteArray)(r:Int)(w:World)(h0:0≤r)(h1:r<128):
 Calls Tryz.prog 108 #[.string s,.int .i32 r] w fun e w'=>e=.returned (.int .i64 (Lib.indexByte s.data.toList r.toNat.toUInt8))∧w'=w:=Any.strings_IndexRune_ascii Tryz.lays152 s r w h0 h1
def Tryz.lays226_ren:Go.Shelf.Ren:=⟨fun|226=>109|n=>n,fun|3=>3|4=>4|n=>n,fun|n=>n⟩
theorem Tryz.lays226:Go.Proofs.Lays.n226 Tryz.prog Tryz.lays226_ren:={
 mixed:=by kernel_rfl
 f226:=Tryz.func109.trans (congrArg some (by kernel_rfl))
 t3:=Tryz.underlying3
 a3:=Tryz.isAgg3
 z3:=Tryz.sizeOf3
 v3:=Tryz.zeroValue3
 t4:=Tryz.underlying4
 a4:=Tryz.isAgg4
 z4:=Tryz.sizeOf4
 v4:=Tryz.zeroValue4}
open Go.RowKit Go.Lib in
theorem Tryz.strings_shouldUseASCIISet(n:Int)(w:World):
 Calls Tryz.prog 109 #[.int .i64 n] w fun e w'=>e=.returned (.bool (decide (8<n)))∧w'=w:=Any.strings_shouldUseASCIISet Tryz.lays226 n w
def Tryz.lays153_ren:Go.Shelf.Ren:=⟨fun|153=>82|152=>108|226=>109|227=>110|228=>111|137=>128|119=>129|224=>130|225=>131|217=>153|266=>167|n=>n,fun|9=>9|3=>3|4=>4|5=>5|21=>21|117=>175|116=>174|0=>0|46=>167|124=>196|n=>n,fun|n=>n⟩
theorem Tryz.lays153:Go.Proofs.Lays.n153 Tryz.prog Tryz.lays153_ren:={
 mixed:=by kernel_rfl
 f119:=Tryz.func129.trans (congrArg some (by kernel_rfl))
 f137:=Tryz.func128.trans (congrArg some (by kernel_rfl))
 f152:=Tryz.func108.trans (congrArg some (by kernel_rfl))
 f153:=Tryz.func82.trans (congrArg some (by kernel_rfl))
 f217:=Tryz.func153.trans (congrArg some (by kernel_rfl))
 f224:=Tryz.func130.trans (congrArg some (by kernel_rfl))
 f225:=Tryz.func131.trans (congrArg some (by kernel_rfl))
 f226:=Tryz.func109.trans (congrArg some (by kernel_rfl))
 f227:=Tryz.func110.trans (congrArg some (by kernel_rfl))
 f228:=Tryz.func111.trans (congrArg some (by kernel_rfl))
 f266:=Tryz.func167.trans (congrArg some (by kernel_rfl))
 t0:=Tryz.underlying0
 a0:=Tryz.isAgg0
 z0:=Tryz.sizeOf0
 v0:=Tryz.zeroValue0
 t3:=Tryz.underlying3
 a3:=Tryz.isAgg3
 z3:=Tryz.sizeOf3
 v3:=Tryz.zeroValue3
 t4:=Tryz.underlying4
 a4:=Tryz.isAgg4
 z4:=Tryz.sizeOf4
 v4:=Tryz.zeroValue4
 t5:=Tryz.underlying5
 a5:=Tryz.isAgg5
 z5:=Tryz.sizeOf5
 v5:=Tryz.zeroValue5
 t9:=Tryz.underlying9
 a9:=Tryz.isAgg9
 z9:=Tryz.sizeOf9
 v9:=Tryz.zeroValue9
 t21:=Tryz.underlying21
 a21:=Tryz.isAgg21
 z21:=Tryz.sizeOf21
 v21:=Tryz.zeroValue21
 t46:=Tryz.underlying167
 a46:=Tryz.isAgg167
 z46:=Tryz.sizeOf167
 v46:=Tryz.zeroValue167
 t116:=Tryz.underlying174
 a116:=Tryz.isAgg174
 z116:=Tryz.sizeOf174
 t117:=Tryz.underlying175
 a117:=Tryz.isAgg175
 z117:=Tryz.sizeOf175
 v117:=Tryz.zeroValue175
 t124:=Tryz.underlying196
 a124:=Tryz.isAgg196
 z124:=Tryz.sizeOf196
 v124:=Tryz.zeroValue196}
open Go.RowKit Go.Lib in
theorem Tryz.strings_IndexAny_long(hv116:∀w,(zeroValue 174).run Tryz.prog w=.ok (.agg (Array.replicate 256 (.bool false))) w)(s chars:ByteArray)(w:World)(h2:2≤chars.size)(h8:8<s.size)(hs:s.size<4294967281)(hcs:chars.size<4294967281)(hascii:∀(j:Nat)b,chars.data.toList[j]? =some b→b.toNat<128):
 Calls Tryz.prog 82 #[.string s,.string chars] w fun e w'=>e=.returned (.int .i64 (Lib.indexAny s.data.toList chars.data.toList))∧w'=((w.alloc (.cells (Lib.setCells chars.data.toList) 174)).alloc (.cells (Lib.setCells chars.data.toList) 174)):=Any.strings_IndexAny_long Tryz.lays153 hv116 (by kernel_rfl) s chars w h2 h8 hs hcs hascii
end Go.Proofs
end
section
namespace Go.St
open Go Go.Bp Go.RowKit Go.Proofs
theorem TabIs.ext{P:Program}{w w':World}{name:String}{k:IntKind}{zs:List Int}(h:Lib.TabIs P w name k zs)(e:Ext w w'):Lib.TabIs P w' name k zs:=by
 unfold Lib.TabIs World.var? at h⊢
 cases hg:P.globalNamed name with
 |none=>rw[hg] at h;cases h
 |some g=>
  rw[hg] at h;simp only[Option.bind_some] at h⊢
  cases ho:w.heap[g]? with
  |none=>rw[ho] at h;cases h
  |some o=>rw[ho] at h;rw[e.heap_some ho];exact h
structure Env(w:World):Prop where
 maxLen:∃m,w.cell? ⟨0,0,none⟩=some (.int .i64 m)
 syn:∃te pe,w.cell? ⟨1,0,none⟩=some (.iface te pe)
 rng:∃te pe,w.cell? ⟨2,0,none⟩=some (.iface te pe)
 tab:Lib.TabIs Tryz.prog w "internal/strconv.uint64pow10" .u64 Lib.pow10Tab
theorem Env.ext{w w':World}(h:Env w)(e:Ext w w'):Env w':=
 ⟨let⟨m,hm⟩:=h.maxLen;⟨m,e.cell_some hm⟩,let⟨a,b,hm⟩:=h.syn;⟨a,b,e.cell_some hm⟩,let⟨a,b,hm⟩:=h.rng;⟨a,b,e.cell_some hm⟩,TabIs.ext h.tab e⟩
theorem Env.d{w:World}(h:Env w):Env w.drew:=h.ext (Ext.todrew (Ext.refl w))
theorem Km(w:World)(k:Nat)(os:Array Obj):Ext w (Sort.grow (w.drewN k) os):=
 ⟨rfl,rfl,rfl,by simp[Sort.grow],fun i hi=>by simp only[Sort.grow];exact Array.getElem?_append_left hi⟩
theorem xK(n:Int)(h0: -9223372036854775808≤n)(h1:n≤9223372036854775807)(w:World)(hv:Env w):
 Calls Tryz.prog 77 #[.int .i64 n] w fun e w'=>e=.returned (.string (S (Lib.itoa n)))∧Ext w w':=by
 refine(Tryz.strconv_Itoa n h0 h1 w hv.tab).mono ?_;rintro e w' ⟨rfl,k,os,rfl⟩;exact⟨rfl,Km w k os⟩
theorem Po:(Tryz.prog.info? 141).map TypeInfo.size=some 2:=by kernel_rfl
theorem Pw:liesAt Tryz.prog Tryz.prog.depth 141 (2/Tryz.prog.cellsOf 141) 0 141 1=true:=by kernel_rfl
structure KeptB(b:Nat)(w w':World):Prop where
 size:w.heap.size≤w'.heap.size
 block:∀(k:Nat)(o:Obj),w.heap[k]? =some o→k≠b→(∀cs fr,o≠ .cells cs 5 fr)→w'.heap[k]? =some o
theorem KeptB.trans{b:Nat}{x y z:World}(h:KeptB b x y)(k:KeptB b y z):KeptB b x z:=⟨Nat.le_trans h.size k.size,fun i o ho hi hc=>k.block i o (h.block i o ho hi hc) hi hc⟩
theorem KeptB.ofExt{x y:World}(b:Nat)(h:Ext x y):KeptB b x y:=⟨h.size,fun i o ho _ _=>h.heap_some ho⟩
theorem KeptB.set(b i:Nat)(w:World)(v:Value):KeptB b w (w.setCell ⟨b,i,none⟩ v):=⟨by simp[World.setCell],fun k o ho hk _=>(Below.heap_setCell w ⟨b,i,none⟩ v k (fun e=>hk (by rw[e]))).trans ho⟩
theorem KeptB.blk{b g:Nat}{x y:World}{t:TypeId}{cs:Array Value}(h:KeptB b x y)(hb:Blk x g t cs)(hg:g≠b)(ht:t≠5):Blk y g t cs:=h.block g _ hb hg (fun cs' fr e=>by injection e with _ e;exact ht e)
set_option maxHeartbeats 1000000 in
theorem Fs(B b:Nat)(bs:List Value)(w:World)(h:Lib.IsBuilder 141 5 B b bs w):
 Calls Tryz.prog 105 #[.pointer (some ⟨b,0,none⟩)] w fun e w'=>e=.returned (.tuple #[])∧Lib.BuilderAt 141 5 B b (.pointer (some ⟨b,0,none⟩)) bs w'∧Below B w w'∧KeptB b w w':=by
 obtain⟨j,hj,hjs⟩:=iJ Po;rcases h with h|h
 ·have h0:=h.cell0;have hsh:=h.shape;have hfz:=h.frozen0;go_enter Tryz.func105,Tryz.ntmps105
  go_wp2
  rw[Lib.run_to_unsafe w ⟨b,0,none⟩ Tryz.underlying139 Tryz.underlying191 hj (by rw[hjs];decide) hsh (Nat.zero_lt_succ 1)]
  simp only[Result.andThen];rw[Oper.upon_value];go_wp2
  rw[run_callFunc_extern Tryz.func126 (by kernel_rfl) (by kernel_rfl) (by kernel_rfl) (e:=Extern.AbiNoEscape.same) (by kernel_rfl),Lib.run_noEscape]
  simp only[Result.andThen];rw[Oper.upon_value];go_wp2
  rw[Lib.run_from_unsafe w ⟨b,0,none⟩ Tryz.underlying191 Tryz.underlying139 hj hsh Pw];simp only[Result.andThen];rw[Oper.upon_value];go_wp2
  go_end0
  exact⟨rfl,h.used _,(Below.refl B w).setCell (p:=⟨b,0,none⟩) h.1 _,KeptB.set b 0 w _⟩
 ·have h0:=h.cell0;go_enter Tryz.func105,Tryz.ntmps105
  go_wp2
  rw[Lib.run_neq_ptr_same w _ Tryz.underlying139 hj];go_wp2
  go_end0
  exact⟨rfl,h,Below.refl B _,KeptB.ofExt b (Ext.refl _)⟩
theorem Px:∃i,Tryz.prog.info? 5=some i∧i.zero=some (.int .u8 0)∧i.size=1∧i.bytes=1:=info_parts ti5
set_option maxHeartbeats 1000000 in
theorem oY(B b:Nat)(bs:List Value)(s:ByteArray)(w:World)(h:Lib.IsBuilder 141 5 B b bs w)(hlen:bs.length+s.size≤1000000)(hBw:B≤w.heap.size):
 Calls Tryz.prog 76 #[.pointer (some ⟨b,0,none⟩),.string s] w fun e w'=>e=.returned (.tuple #[.int .i64 s.size,.nilIface])∧Lib.IsBuilder 141 5 B b (bs++Lib.strCells s) w'∧Below B w w'∧KeptB b w w':=by
 obtain⟨i0,hi,hz0,hz1,hz2⟩:=Px;go_enter Tryz.func76,Tryz.ntmps76
 go_wp2_with (go_at_call 105;refine(Fs B b bs _ h).mono ?_)
 rintro e w1 ⟨rfl,h1,hb1,hk1⟩;obtain⟨hB,v,hbk,hown,hne⟩:=h1;have hB1:Blk w1 b 141 #[.pointer (some ⟨b,0,none⟩),v]:=hbk;have c0:=hB1.cell 0;have c1:=hB1.cell 1;simp at c0 c1;have hsz:=hb1.size;have hlt:=hB1.lt;go_wp2_with (at_builtin;refine Lib.wpList_append_own_string _ rfl _ _ 65 9 rfl B 5 i0 Tryz.underlying65 Tryz.underlying9 hi hz0 hz1 hz2 _ _ _ rfl hown s rfl ?c3 ?c4 ?c5 ?_)
 case c3=>unfold maxLen;omega
 case c4=>omega
 case c5=>omega
 intro v' w2 hown' hgrow _;have hb2:Blk w2 b 141 #[.pointer (some ⟨b,0,none⟩),v]:=hB1.grown hgrow (fun e=>hne e.symm)
 have d0:=hb2.cell 0;have d1:=hb2.cell 1;simp at d0 d1;have f1:w2.frozen? ⟨b,1,none⟩=false:=hb2.frozen 1;obtain⟨ao,n',cap,rfl⟩:∃ao n' cap,v'=.slice ao n' cap:=by
  rcases hown'.2 with ⟨hv,_⟩|⟨g,cap,cur,hv,_⟩<;>exact⟨_,_,_,hv⟩
 go_wp2
 go_ret2
 refine⟨rfl,.inr ?_,?_,?_⟩
 ·exact Lib.BuilderAt.put (T:=141) (e:=5) hB hb2 (bs':=bs++Lib.strCells s) (by simpa [Lib.strCells_length] using hown') (by decide)
 ·exact(hb1.grown hgrow (by omega) (fun k hk=>(hown.lt k hk).1)).setCell (p:=⟨b,1,none⟩) hB _
 ·refine(hk1.trans ⟨hgrow.size,fun k o ho hk hc=>(hgrow.block k (Array.getElem?_eq_some_iff.1 ho).1 (fun e=> ?_)).trans ho⟩).trans (KeptB.set b 1 _ _)
  rcases hown.2 with ⟨hv,_⟩|⟨g,cap,cur,hv,_,hg,_⟩
  ·rw[hv] at e;cases e
  ·rw[hv] at e;have:k=g:=by simpa [Value.ownBlock] using e
   subst this;rw[ho] at hg;injection hg with hg
   exact hc _ _ hg
end Go.St
end
section
namespace Go.St
open Go.Bp
structure StreetOk(t:Town)(s:Street):Prop where
 a:inB s.a 0 (t.places.length-1)=true
 b:inB s.b 0 (t.places.length-1)=true
 ab:s.a≠s.b
 sh:s.shows.length=t.times.length
 m:inB s.metres 1 10000=true
 lo:inB s.lo 0 60=true
 hi:inB s.hi 0 60=true
 sets:∀n∈s.shows,inB n 0 (t.sets-1)=true
 lh:s.lo≤s.hi
theorem zB{t:Town}{s:Street}(h:t.streetErr s=0):StreetOk t s:=by
 unfold Town.streetErr at h;by_cases c1:inB s.a 0 (t.places.length-1)=false∨inB s.b 0 (t.places.length-1)=false
 ·rw[if_pos c1] at h;simp at h
 ·rw[if_neg c1] at h;by_cases c2:s.a=s.b
  ·rw[if_pos c2] at h;simp at h
  ·rw[if_neg c2] at h;by_cases c3:s.shows.length≠t.times.length
   ·rw[if_pos c3] at h;simp at h
   ·rw[if_neg c3] at h;by_cases c4:inB s.metres 1 10000=false∨inB s.lo 0 60=false∨inB s.hi 0 60=false∨(s.shows.all fun n=>inB n 0 (t.sets-1))=false
    ·rw[if_pos c4] at h;simp at h
    ·rw[if_neg c4] at h;by_cases c5:s.lo>s.hi
     ·rw[if_pos c5] at h;simp at h
     ·simp only[not_or,Bool.not_eq_false] at c1 c4;exact⟨c1.1,c1.2,c2,by omega,c4.1,c4.2.1,c4.2.2.1,fun n hn=>List.all_eq_true.1 c4.2.2.2 n hn,by omega⟩
theorem mO{p:Nat→Bool}{n:Nat}(h:(List.range n).find? p=none):∀i,i<n→p i=false:=by
 intro i hi;have:=List.find?_eq_none.1 h i (List.mem_range.2 hi);simpa using this
theorem Ab{l:List ByteArray}(h:(aP l).2=0):∀i,i<l.length→dL l i=0:=by
 unfold aP at h
 cases hf:(List.range l.length).find? fun i=>decide (dL l i≠0) with
 |some i=>
  rw[hf] at h;have:=List.find?_some hf;simp only at h;rw[h] at this;simp at this
 |none=>
  intro i hi;have:=mO hf i hi;simpa using this
theorem mZ{l:List ByteArray}{i:Nat}(h:dL l i=0):dM (l.getD i ByteArray.empty)=true∧l.getD i ByteArray.empty∉l.take i:=by
 unfold dL at h;by_cases h1:dM (l.getD i ByteArray.empty)=false
 ·rw[if_pos h1] at h;simp at h
 ·rw[if_neg h1] at h;by_cases h2:l.getD i ByteArray.empty∈l.take i
  ·rw[if_pos h2] at h;simp at h
  ·exact⟨by simpa using h1,h2⟩
theorem vO{t:Town}(h:t.streetsErr.2=0):∀s∈t.streets,t.streetErr s=0:=by
 unfold Town.streetsErr at h;intro s hs;obtain⟨k,hk,rfl⟩:=List.mem_iff_getElem.1 hs
 cases hf:(List.range t.streets.length).find? fun i=>decide (t.streetErr (t.streets.getD i ⟨0,0,0,0,0,false,[]⟩)≠0) with
 |some i=>
  rw[hf] at h;have:=List.find?_some hf;simp only at h;rw[h] at this;simp at this
 |none=>
  have:=mO hf k hk;simpa [List.getD,hk] using this
structure Town.Ok(t:Town):Prop where
 p1:1≤t.places.length
 p2:t.places.length≤16
 sh:t.shows.length≤6
 t1:1≤t.times.length
 t2:t.times.length≤4
 st:t.streets.length≤40
 names:Town.NamesOk t
 streets:∀s∈t.streets,StreetOk t s
theorem Town.ok_of{t:Town}(h:t.check.2.2=0):t.Ok:=by
 unfold Town.check at h;by_cases c1:inB t.places.length 1 16=false∨6<t.shows.length∨inB t.times.length 1 4=false∨40<t.streets.length
 ·rw[if_pos c1] at h;simp at h
 ·rw[if_neg c1] at h;by_cases c2:(aP t.places).2≠0
  ·rw[if_pos c2] at h;exact absurd h c2
  ·rw[if_neg c2] at h;by_cases c3:(aP t.shows).2≠0
   ·rw[if_pos c3] at h;exact absurd h c3
   ·rw[if_neg c3] at h;by_cases c4:(aP t.times).2≠0
    ·rw[if_pos c4] at h;exact absurd h c4
    ·rw[if_neg c4] at h;by_cases c5:t.streetsErr.2≠0
     ·rw[if_pos c5] at h;exact absurd h c5
     ·simp only[not_or,Bool.not_eq_false] at c1;obtain⟨d1,d2,d3,d4⟩:=c1;have e1:=aV.1 d1;have e3:=aV.1 d3;have hn:=Ab (by simpa using c2)
      refine⟨by omega,by omega,by omega,by omega,by omega,by omega,⟨fun s hs=> ?_,fun i j hi hj he=> ?_⟩,fun s hs=>zB (vO (by simpa using c5) s hs)⟩
      ·obtain⟨k,hk,rfl⟩:=List.mem_iff_getElem.1 hs;have:=(mZ (hn k hk)).1;rwa [gF hk] at this
      ·have key:∀i j(hi:i<t.places.length)(hj:j<t.places.length),t.places[i]=t.places[j]→¬i<j:=by
        intro i j hi hj he hlt;have:=(mZ (hn j hj)).2;rw[gF hj,←he] at this;exact this (by rw[List.mem_take_iff_getElem];exact⟨i,by omega,rfl⟩)
       have h1:=key i j hi hj he;have h2:=key j i hj hi he.symm;omega
theorem Town.check_zero{t:Town}(h:t.check.2.2=0):t.check=(0,0,0):=by
 unfold Town.check at h⊢;repeat(split at h;·simp_all)
 simp_all
namespace Town
variable{t:Town}
theorem Ok.at_(h:t.Ok){k:Nat}(hk:k<t.streets.length):StreetOk t t.streets[k]:=h.streets _ (List.getElem_mem hk)
theorem Ok.atI(h:t.Ok){k:Int}(hk:inB k 0 (t.streets.length-1)=true):StreetOk t (t.at_ k):=by
 have hk:=aV.1 hk;have hlt:k.toNat<t.streets.length:=by omega
 unfold Town.at_;have:t.streets.getD k.toNat ⟨0,0,0,0,0,false,[]⟩=t.streets[k.toNat]:=by simp[List.getD,hlt]
 rw[this];exact h.at_ hlt
theorem Ok.ends(h:t.Ok){x:Step}(hx:inB x.st 0 (t.streets.length-1)=true):inB (t.ends x).1 0 (t.places.length-1)=true∧inB (t.ends x).2 0 (t.places.length-1)=true:=by
 have:=h.atI hx;unfold Town.ends;split
 ·exact⟨this.b,this.a⟩
 ·exact⟨this.a,this.b⟩
theorem sets_bd(h:t.shows.length≤6):1≤t.sets∧t.sets≤64:=by
 unfold Town.sets;have h1:(2:Nat)^t.shows.length≤64:=Nat.le_trans (Nat.pow_le_pow_right (by omega) h) (by decide)
 have h2:1≤(2:Nat)^t.shows.length:=Nat.one_le_two_pow;have e:(2:Int)^t.shows.length=((2^t.shows.length:Nat):Int):=by push_cast;rfl
 rw[e];omega
theorem Ok.shown(h:t.Ok){s:Street}(hs:StreetOk t s){time:Int}(ht:inB time 0 (t.times.length-1)=true):time.toNat<s.shows.length∧0≤s.shows.getD time.toNat 0∧s.shows.getD time.toNat 0<t.sets:=by
 have ht:=aV.1 ht;have hlt:time.toNat<s.shows.length:=by rw[hs.sh];omega
 have e:s.shows.getD time.toNat 0=s.shows[time.toNat]:=by simp[List.getD,hlt]
 have:=aV.1 (hs.sets _ (List.getElem_mem hlt));rw[e];omega
structure TaskOk(t:Town)(k:Task):Prop where
 ok:t.Ok
 a:inB k.a 0 (t.places.length-1)=true
 b:inB k.b 0 (t.places.length-1)=true
 time:inB k.time 0 (t.times.length-1)=true
 sh:inB k.show_ 0 (t.sets-1)=true
 cl:k.closed.length≤40
 closed:∀n∈k.closed,inB n 0 (t.streets.length-1)=true
theorem taskOk_of{k:Task}(h:t.taskErr k=0):TaskOk t k:=by
 unfold taskErr at h;by_cases c1:t.check.2.2≠0
 ·rw[if_pos c1] at h;exact absurd h c1
 ·rw[if_neg c1] at h;by_cases c2:inB k.a 0 (t.places.length-1)=false∨inB k.b 0 (t.places.length-1)=false∨inB k.time 0 (t.times.length-1)=false
  ·rw[if_pos c2] at h;simp at h
  ·rw[if_neg c2] at h;by_cases c3:inB k.show_ 0 (t.sets-1)=false
   ·rw[if_pos c3] at h;simp at h
   ·rw[if_neg c3] at h;by_cases c4:40<k.closed.length
    ·rw[if_pos c4] at h;simp at h
    ·rw[if_neg c4] at h;by_cases c5:(k.closed.all fun n=>inB n 0 (t.streets.length-1))=false
     ·rw[if_pos c5] at h;simp at h
     ·simp only[not_or,Bool.not_eq_false] at c2 c3 c5;exact⟨ok_of (by simpa using c1),c2.1,c2.2.1,c2.2.2,c3,by omega,fun n hn=>List.all_eq_true.1 c5 n hn⟩
theorem fS{k:Task}(hc:t.check.2.2=0)(h:TaskOk t k):t.taskErr k=0:=by
 unfold taskErr;rw[if_neg (by simp[hc]),if_neg (by simp[h.a,h.b,h.time]),if_neg (by simp[h.sh]),if_neg (by have:=h.cl;omega),if_neg]
 simp only[Bool.not_eq_false,List.all_eq_true];exact h.closed
end Town
end Go.St
end
section
namespace Go.St
open Go.Bp
namespace Town
variable{t:Town}
def textTo(t:Town)(a:Int)(l:List Step)(j:Nat):List UInt8:=t.placeAt a++t.tailText (l.take j)
theorem textTo_0(a:Int)(l:List Step):t.textTo a l 0=t.placeAt a:=by unfold textTo tailText;simp
theorem textTo_succ(a:Int)(l:List Step){j:Nat}(h:j<l.length):t.textTo a l (j+1)=t.textTo a l j++t.stepText l[j]:=by
 unfold textTo tailText;rw[cI l h,List.flatMap_append,List.append_assoc];simp
theorem textTo_all(a:Int)(l:List Step):t.textTo a l l.length=t.textOf a l:=by unfold textTo textOf;rw[List.take_length]
theorem place_len(h:t.Ok)(i:Int):(t.placeAt i).length≤16:=by
 unfold placeAt;by_cases hi:i.toNat<t.places.length
 ·have e:t.places.getD i.toNat ByteArray.empty=t.places[i.toNat]:=by simp[List.getD,hi]
  rw[e];have hn:=h.names.name _ (List.getElem_mem hi);unfold dM at hn;simp only[Bool.and_eq_true] at hn;have:=aV.1 hn.1.1;have e2:t.places[i.toNat].data.toList.length=t.places[i.toNat].size:=rfl;omega
 ·have e:t.places.getD i.toNat ByteArray.empty=ByteArray.empty:=by simp[List.getD,hi]
  rw[e];simp
theorem place_S{i:Nat}(h:i<t.places.length):S (t.placeAt i)=t.places[i]:=by
 unfold placeAt;have e:t.places.getD ((i:Int)).toNat ByteArray.empty=t.places[i]:=by simp[List.getD,h]
 rw[e,rO]
theorem xT(h:t.Ok){x:Step}(hx:inB x.st 0 (t.streets.length-1)=true):(t.stepText x).length≤60:=by
 have h1:=aV.1 hx;have h2:=h.st;have h3:=uU x.st.toNat;have h4:=place_len h (t.ends x).2;unfold stepText;simp only[List.length_cons,List.length_append];omega
theorem textTo_len(h:t.Ok)(a:Int){l:List Step}(hv:∀x∈l,inB x.st 0 (t.streets.length-1)=true):∀j,j≤l.length→(t.textTo a l j).length≤16+60*j
 |0,_=>by rw[textTo_0];have:=place_len h a;omega
 |j+1,hj=>by
  rw[textTo_succ a l (by omega),List.length_append]
  have h1:=textTo_len h a hv j (by omega)
  have h2:=xT h (hv _ (List.getElem_mem (show j<l.length by omega)))
  omega
end Town
end Go.St
end
section
namespace Go.St
open Go.Bp
theorem uQ{P:Nat→Prop}:∀(n:Nat),P n→∃m,P m∧∀j,P j→m≤j:=by
 intro n;induction n using Nat.strongRecOn with
 |_ n ih=>
  intro h;by_cases hj:∃j,j<n∧P j
  ·obtain⟨j,hj,hp⟩:=hj;exact ih j hj hp
  ·exact⟨n,h,fun j hp=>Classical.byContradiction fun hlt=>hj ⟨j,by omega,hp⟩⟩
section
variable{less:Int→Int→Int}{arcs:List Arc}{to:Int}
theorem sS(hm:∀a∈arcs,1≤a.m){p s m k:Int}(h:Way less arcs to p s m k):∃c,Br less arcs to p s c:=by
 have hn:=Way.nonneg less arcs to hm h;obtain⟨m0,⟨k0,hw0⟩,hmin⟩:=uQ (P:=fun m:Nat=>∃k:Int,Way less arcs to p s m k) m.toNat ⟨k,by rw[show((m.toNat:Nat):Int)=m by omega];exact h⟩
 have hn0:=Way.nonneg less arcs to hm hw0;obtain⟨k1,hw1,hmin1⟩:=uQ (P:=fun k:Nat=>Way less arcs to p s m0 k) k0.toNat (by rw[show((k0.toNat:Nat):Int)=k0 by omega];exact hw0)
 refine⟨((m0:Int),(k1:Int)),hw1,fun m' k' hw=> ?_⟩
 have hn':=Way.nonneg less arcs to hm hw;have h1:=hmin m'.toNat ⟨k',by rw[show((m'.toNat:Nat):Int)=m' by omega];exact hw⟩
 unfold le2;simp only;by_cases e:(m0:Int)=m'
 ·right
  refine⟨e,?_⟩;have h2:=hmin1 k'.toNat (by rw[show((k'.toNat:Nat):Int)=k' by omega,e];exact hw)
  omega
 ·left;omega
theorem kP{p s:Int}{c:Int×Int}:vC less arcs to p s=some c↔Br less arcs to p s c:=by
 unfold vC;split
 ·rename_i h;constructor
  ·intro e;injection e with e;rw[←e];exact h.choose_spec
  ·intro e;rw[Br.uniq less arcs to h.choose_spec e]
 ·rename_i h;constructor
  ·intro e;cases e
  ·intro e;exact absurd ⟨c,e⟩ h
end
namespace Town
variable(t:Town)(k:Task)
def stepsTo:Nat→List Step
 |0=>[]
 |n+1=>stepsTo n++(if(n:Int)∈k.closed then [] else⟨(n:Int),false⟩::(if(t.at_ n).both=true then [⟨(n:Int),true⟩] else []))
def stepsAll:List Step:=t.stepsTo k t.streets.length
def arcOf(x:Step):Arc:=⟨x.st,x.bk,(t.ends x).1,(t.ends x).2,(t.at_ x.st).metres,t.shownAt k.time x⟩
def stepOf(a:Arc):Step:=⟨a.st,a.bk⟩
theorem oT(x:Step):stepOf (t.arcOf k x)=x:=rfl
theorem arcsTo_map:∀n,t.arcsTo k n=(t.stepsTo k n).map (t.arcOf k)
 |0=>rfl
 |n+1=>by
  have ih:=arcsTo_map n;unfold arcsTo at ih⊢;rw[List.range_succ,List.flatMap_append,ih,stepsTo,List.map_append];congr 1
  simp only[List.flatMap_cons,List.flatMap_nil,List.append_nil];by_cases hc:(n:Int)∈k.closed
  ·rw[if_pos hc,if_pos hc];rfl
  ·rw[if_neg hc,if_neg hc];by_cases hb:(t.at_ n).both=true
   ·simp only[hb,if_true,List.map_cons,List.map_nil];simp[arcOf,ends,shownAt]
   ·simp only[hb,Bool.false_eq_true,if_false,List.map_cons,List.map_nil];simp[arcOf,ends,shownAt]
theorem arcs_map:t.arcs k=(t.stepsAll k).map (t.arcOf k):=t.arcsTo_map k _
variable{t k}
theorem sJ{x:Step}:∀{n:Nat},x∈t.stepsTo k n↔(∃i:Nat,i<n∧x.st=(i:Int))∧x.st∉k.closed∧(x.bk=true→(t.at_ x.st).both=true)
 |0=>by simp[stepsTo]
 |n+1=>by
  have ih:=sJ (x:=x) (n:=n);rw[stepsTo,List.mem_append,ih];by_cases hc:(n:Int)∈k.closed
  ·rw[if_pos hc];constructor
   ·rintro(⟨⟨i,hi,e⟩,h2⟩|h)
    ·exact⟨⟨i,by omega,e⟩,h2⟩
    ·simp at h
   ·rintro⟨⟨i,hi,e⟩,h2,h3⟩;refine .inl ⟨⟨i,?_,e⟩,h2,h3⟩;by_cases hin:i=n
    ·subst hin;rw[e] at h2;exact absurd hc h2
    ·omega
  ·rw[if_neg hc];constructor
   ·rintro(⟨⟨i,hi,e⟩,h2⟩|h)
    ·exact⟨⟨i,by omega,e⟩,h2⟩
    ·rcases List.mem_cons.1 h with rfl|h
     ·exact⟨⟨n,by omega,rfl⟩,hc,by simp⟩
     ·by_cases hb:(t.at_ n).both=true
      ·rw[if_pos hb] at h;simp at h;subst h;exact⟨⟨n,by omega,rfl⟩,hc,fun _=>hb⟩
      ·rw[if_neg hb] at h;simp at h
   ·rintro⟨⟨i,hi,e⟩,h2,h3⟩;by_cases hin:i=n
    ·subst hin;right
     obtain⟨st,bk⟩:=x;simp only at e h2 h3;subst e
     cases bk with
     |false=>simp
     |true=>simp[h3 rfl]
    ·exact .inl ⟨⟨i,by omega,e⟩,h2,h3⟩
theorem mem_stepsAll{x:Step}:x∈t.stepsAll k↔inB x.st 0 (t.streets.length-1)=true∧x.st∉k.closed∧(x.bk=true→(t.at_ x.st).both=true):=by
 unfold stepsAll;rw[sJ];constructor
 ·rintro⟨⟨i,hi,e⟩,h⟩;exact⟨aV.2 (by omega),h⟩
 ·rintro⟨h1,h⟩;have:=aV.1 h1;exact⟨⟨x.st.toNat,by omega,by omega⟩,h⟩
structure ArcOk(t:Town)(a:Arc):Prop where
 st:inB a.st 0 (t.streets.length-1)=true
 p:inB a.p 0 (t.places.length-1)=true
 q:inB a.q 0 (t.places.length-1)=true
 pq:a.p≠a.q
 m1:1≤a.m
 m2:a.m≤10000
 s0:0≤a.sh
 s1:a.sh<t.sets
theorem mH(h:TaskOk t k):∀a∈t.arcs k,ArcOk t a:=by
 intro a ha;rw[arcs_map] at ha;obtain⟨x,hx,rfl⟩:=List.mem_map.1 ha;obtain⟨h1,_,_⟩:=mem_stepsAll.1 hx;have hs:=h.ok.atI h1;have he:=h.ok.ends h1;have hm:=aV.1 hs.m;have hsh:=(h.ok.shown hs h.time).2;refine⟨h1,he.1,he.2,?_,hm.1,hm.2,hsh.1,hsh.2⟩;show(t.ends x).1≠(t.ends x).2
 unfold ends;split
 ·exact fun e=>hs.ab e.symm
 ·exact hs.ab
theorem nI(h:TaskOk t k):∀a∈t.arcs k,1≤a.m:=fun a ha=>(mH h a ha).m1
abbrev PartOf(t:Town)(k:Task)(s:Int):Prop:=Lp t.shows.length k.show_ s
theorem gM(s b:Int)(h:PartOf t k s):PartOf t k (aE s b):=Cr s b h
theorem vY(h:TaskOk t k):PartOf t k 0:=by
 refine⟨by omega,?_,uH⟩
 have:=(sets_bd h.ok.sh).1;show _<t.sets;omega
theorem yK:fJ aE (t.arcs k) k.b (vC aE (t.arcs k) k.b):=fun _ _ _ h=>(kP.1 h).1
theorem nZ{p s:Int}(h:PartOf t k s):t.cost k p s=vC aE (t.arcs k) k.b p s:=by unfold cost;rw[if_pos h]
theorem wY{p s:Int}(h:¬PartOf t k s):t.cost k p s=none:=by unfold cost;rw[if_neg h]
theorem cost_inD{p s:Int}{c:Int×Int}(h:t.cost k p s=some c):PartOf t k s:=Classical.byContradiction fun hn=>by rw[wY hn] at h;cases h
theorem cost_sound:fJ aE (t.arcs k) k.b (t.cost k):=fun p s c h=>by rw[nZ (cost_inD h)] at h;exact yK _ _ _ h
theorem eJ(h:TaskOk t k):eY aE (t.arcs k) k.b (PartOf t k) (t.cost k):=by
 refine⟨?_,fun a ha s hs c hc=> ?_⟩
 ·rw[nZ (vY h),kP];refine⟨Way.nil,fun m n hw=> ?_⟩
  have:=Way.nonneg aE (t.arcs k) k.b (nI h) hw;unfold le2;simp only;omega
 ·have hw:Way aE (t.arcs k) k.b a.p s (c.1+a.m) (c.2+1):=Way.cons ha (cost_sound _ _ _ hc);obtain⟨d,hd⟩:=sS (nI h) hw;exact⟨d,by rw[nZ hs];exact kP.2 hd,hd.2 _ _ hw⟩
theorem Et(h:TaskOk t k){T:Tab}(hS:fJ aE (t.arcs k) k.b T)(hT:eY aE (t.arcs k) k.b (PartOf t k) T)(hD:∀p s c,T p s=some c→PartOf t k s)(p s:Int):T p s=t.cost k p s:=by
 by_cases hp:PartOf t k s
 ·exact Is aE (t.arcs k) k.b (fun s b hs=>gM s b hs) hS hT cost_sound (eJ h) hp
 ·rw[wY hp]
  cases e:T p s with
  |none=>rfl
  |some c=>exact absurd (hD _ _ _ e) hp
def stands(t:Town):List (Int×Int):=(List.range t.places.length).flatMap fun p:Nat=>(List.range (2^t.shows.length)).map fun s:Nat=>((p:Int),(s:Int))
theorem mem_stands{p s:Int}:(p,s)∈t.stands↔(inB p 0 (t.places.length-1)=true∧0≤s∧s<t.sets):=by
 unfold stands sets;have e:(2:Int)^t.shows.length=((2^t.shows.length:Nat):Int):=by push_cast;rfl
 rw[List.mem_flatMap,e];constructor
 ·rintro⟨i,hi,hm⟩;obtain⟨j,hj,e⟩:=List.mem_map.1 hm;rw[List.mem_range] at hi hj;injection e with e1 e2
  exact⟨aV.2 (by omega),by omega,by omega⟩
 ·rintro⟨h1,h2,h3⟩;have:=aV.1 h1;refine⟨p.toNat,List.mem_range.2 (by omega),List.mem_map.2 ⟨s.toNat,List.mem_range.2 (by omega),?_⟩⟩
  exact Prod.ext (by simp only;omega) (by simp only;omega)
theorem qB:t.stands.Nodup:=by
 unfold stands;rw[List.nodup_iff_pairwise_ne,List.pairwise_flatMap];refine⟨fun p _=> ?_,?_⟩
 ·rw[List.pairwise_map];exact List.Pairwise.imp (fun h e=>h (by injection e with _ e;omega)) List.nodup_range
 ·refine List.Pairwise.imp (fun{p q}h=> ?_) List.nodup_range
  intro x hx y hy e;obtain⟨i,_,rfl⟩:=List.mem_map.1 hx;obtain⟨j,_,rfl⟩:=List.mem_map.1 hy;injection e with e1 _
  exact h (by omega)
theorem Ca:t.stands.length=t.places.length*2^t.shows.length:=by
 unfold stands;have:∀n,((List.range n).flatMap fun p:Nat=>(List.range (2^t.shows.length)).map fun s:Nat=>((p:Int),(s:Int))).length=n*2^t.shows.length:=by
  intro n;induction n with
  |zero=>simp
  |succ n ih=>rw[List.range_succ,List.flatMap_append,List.length_append,ih];simp[Nat.add_mul]
 exact this _
theorem stands_bd(h:t.Ok):t.stands.length≤1024:=by
 rw[Ca];have h1:(2:Nat)^t.shows.length≤64:=Nat.le_trans (Nat.pow_le_pow_right (by omega) h.sh) (by decide)
 have h2:=h.p2;exact Nat.le_trans (Nat.mul_le_mul h2 h1) (by decide)
theorem way_bd(h:TaskOk t k){p s m n:Int}(w:Way aE (t.arcs k) k.b p s m n):inB p 0 (t.places.length-1)=true∧m≤10000*n:=by
 induction w with
 |nil=>exact⟨h.b,by omega⟩
 |cons ha _ ih=>have:=mH h _ ha;exact⟨this.p,by have:=this.m2;omega⟩
theorem iL{α:Type}[DecidableEq α]:∀{l m:List α},l.Nodup→(∀x∈l,x∈m)→l.length≤m.length
 | [],_,_,_=>by simp
 |x::l,m,hn,hs=>by
  rw[List.nodup_cons] at hn;have hx:=hs x (by simp)
  have ih:=iL (l:=l) (m:=m.erase x) hn.2 (fun y hy=>by
   have hne:y≠x:=fun e=>hn.1 (e▸hy)
   exact(List.mem_erase_of_ne hne).2 (hs y (List.mem_cons_of_mem _ hy)))
  have:=List.length_erase_of_mem hx;have hpos:0<m.length:=List.length_pos_of_mem hx;rw[List.length_cons];omega
theorem cost_bd(h:TaskOk t k){p s:Int}{c:Int×Int}(hc:t.cost k p s=some c):0≤c.2∧c.2≤c.1∧c.1≤10000*c.2∧c.2<1024:=by
 have hw:=cost_sound _ _ _ hc;have hn:=Way.nonneg aE (t.arcs k) k.b (nI h) hw;refine⟨hn.1,hn.2,(way_bd h hw).2,?_⟩;have e:c=(c.1,((c.2.toNat:Nat):Int)):=Prod.ext rfl (by simp only;omega)
 have hps:=sE (nI h) (fun s b hs=>gM s b hs) cost_sound (eJ h) c.2.toNat p s c.1 (cost_inD hc) (by rw[←e];exact hc)
 have hpg:=rF (nI h) (fun s b hs=>gM s b hs) cost_sound (eJ h) c.2.toNat p s c.1 (cost_inD hc) (by rw[←e];exact hc)
 have hl:=iL (m:=t.stands) hps.1 (fun x hx=>by
  obtain⟨d,hd,_⟩:=hps.2 x hx;have h1:=(way_bd h (cost_sound _ _ _ hd)).1;have h2:=cost_inD hd;exact mem_stands.2 ⟨h1,h2.1,h2.2.1⟩)
 rw[qC,hpg.2] at hl;have:=stands_bd h.ok;omega
end Town
end Go.St
end
