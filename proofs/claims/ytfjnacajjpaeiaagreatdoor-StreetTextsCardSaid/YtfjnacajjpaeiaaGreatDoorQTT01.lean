/- Chapter 03: contracts of functions of the program and of the reference, and plain laws (out of Loads Tx StG ST1 ST2 KTexts NSR). No condition of its own. -/
import Derived.Test.YtfjnacajjpaeiaaGreatDoorQE01
import Derived.Test.YtfjnacajjpaeiaaGreatDoorQN01
import Derived.Test.YtfjnacajjpaeiaaGreatDoorQX01
set_option maxRecDepth 100000
set_option linter.all false
section
namespace Go.Bp
open Go.RowKit Go.Proofs
section
variable{w:World}{ad:Addr}{k:Nat}
end
theorem ti9:(Tryz.prog.info? 9).map (fun i=>(i.zero,i.size,i.bytes))=some (some (.string ByteArray.empty),1,16):=by kernel_rfl
section
variable{ops:Array Oper}{Q:Exit→Act→World→Prop}{a:Act}{w:World}{rest:List Oper}
variable{d:Option Tmp}{ty:TypeId}{pos:String}{after:Array Edge}
theorem aBa{x:Operand}{n:ByteArray}(hx:a.eval x=.string n)
 (k:∀W g,Ext w W→Blk W g 9 #[.string n]→w.heap.size≤g→wpList Tryz.prog ops Q rest (a.put d (.slice (some ⟨g,0,none⟩) 1 1)) W):
 wpList Tryz.prog ops Q (⟨d,.buildSlice 22 1 #[(0,x)],ty,pos,after,none⟩::rest) a w:=
 Oq Tryz.underlying22 ti9 rfl (by rw[hx];rfl) (by rw[hx];exact k)
theorem aAs{s x:Operand}{B g:Nat}{v:Value}{xs:List ByteArray}{n:ByteArray}(hs:a.eval s=v)(hO:Lq B w v xs)(hx:a.eval x=.slice (some ⟨g,0,none⟩) 1 1)(hb:Blk w g 9 #[.string n])(hlen:xs.length≤1000000000)(hB:B≤w.heap.size)
 (k:∀v' W,Lq B W v' (xs++ [n])→(∀w0,Below B w0 w→Below B w0 W)→w.grownBy W v.ownBlock→wpList Tryz.prog ops Q rest (a.put d v') W):
 wpList Tryz.prog ops Q (⟨d,.call {callee:=.builtin .append,args:=#[s,x],argTypes:=#[22,22]},ty,pos,after,none⟩::rest) a w:=by
 refine qF Tryz.underlying22 ti9 rfl (by decide) hs hO hx (fun _=>⟨_,rfl,hb.cells⟩) (by simp) (by simp[Value.oneCell']) (by omega) (by unfold maxLen;omega) hB ?_
 intro v' W h1 h2 _;refine k v' W ?_ (fun w0 h0=>nY h0 hO h2 hB) h2
 unfold Lq;simpa [rJ] using h1
end
end Go.Bp
end
section
namespace Go.Bp
open Go.RowKit
def Zz(n:Nat):UInt8:=UInt8.ofNat (48+n%10)
theorem aAw(n:Nat):((Zz n).toNat:Int)=48+(n:Int)%10:=by
 unfold Zz;have:(UInt8.ofNat (48+n%10)).toNat=48+n%10:=by simp;omega
 rw[this];omega
theorem Zq(s:ByteArray)(b:UInt8):∀i,(zF s b i).1.length≤i∧(zF s b i).2≤i
 |0=>by simp[zF]
 |i+1=>by
  have:=Zq s b i;unfold zF;split
  ·simp;omega
  ·omega
theorem Zn{s:ByteArray}{i:Nat}(hi:i<s.size):s.data.toList.getD i 0=s[i]:=by
 simp only[List.getD];rw[List.getElem?_eq_getElem (show i<s.data.toList.length from hi)];rfl
theorem aAh{s:ByteArray}{b:UInt8}{i:Nat}(hi:i<s.size)(h:s[i]=b):zF s b (i+1)=((zF s b i).1++ [s.extract (zF s b i).2 i],i+1):=by
 have:s.data.toList.getD i 0=b:=by rw[Zn hi,h]
 rw[zF,if_pos this]
theorem aAc{s:ByteArray}{b:UInt8}{i:Nat}(hi:i<s.size)(h:s[i]≠b):zF s b (i+1)=zF s b i:=by
 have:s.data.toList.getD i 0≠b:=by rw[Zn hi];exact h
 rw[zF,if_neg this]
theorem aAf(s:ByteArray)(b:UInt8):1≤(split s b).length∧(split s b).length≤s.size+1:=by
 have:=(Zq s b s.size).1;unfold split;rw[List.length_append];simp;omega
theorem Zr{s:ByteArray}{k:Nat}(hk:k<s.size):Ov s (k+1)=10*Ov s k+((s[k].toNat:Int)-48):=by
 unfold Ov;rw[cI _ (show k<s.data.toList.length from hk),List.foldl_append];rfl
theorem Zy{s:ByteArray}:∀k,k≤s.size→(∀b∈s.data.toList.take k,Ow b=true)→0≤Ov s k∧Ov s k<10^k
 |0,_,_=>by simp[Ov]
 |k+1,hk,h=>by
  have hk':k<s.size:=by omega
  have hb:Ow s[k]=true:=h _ (by rw[cI _ (show k<s.data.toList.length from hk')];simp;right;rfl)
  have ih:=Zy (s:=s) k (by omega) (fun b hb=>h b (by rw[cI _ (show k<s.data.toList.length from hk')];simp only[List.mem_append];exact .inl hb))
  have:=aV.1 hb;rw[Zr hk',Int.pow_succ];omega
theorem aAa(b:UInt8):∀l,oN b l≠ []
 | []=>by simp[oN]
 |x::l=>by
  rw[oN];split
  ·simp
  ·split<;>simp
theorem Zu(s:ByteArray)(b:UInt8):∀i,i≤s.size→oN b s.data.toList=(zF s b i).1.map (·.data.toList)++oN b (s.data.toList.drop (zF s b i).2)∧(zF s b i).2≤i∧(∀j,(zF s b i).2≤j→j<i→s.data.toList.getD j 0≠b)
 |0,_=>by simp[zF]
 |i+1,hi=>by
  obtain⟨h1,h2,h3⟩:=Zu s b i (by omega)
  have hl:i<s.data.toList.length:=by have:s.data.toList.length=s.size:=rfl;omega
  by_cases hb:s.data.toList.getD i 0=b
  ·rw[zF,if_pos hb];refine⟨?_,Nat.le_refl _,fun j h4 h5=>by omega⟩
   rw[h1,List.map_append,List.append_assoc];congr 1
   have e1:s.data.toList.drop (zF s b i).2=(s.data.toList.drop (zF s b i).2).take (i-(zF s b i).2)++b::s.data.toList.drop (i+1):=by
    have e2:(s.data.toList.drop (zF s b i).2).drop (i-(zF s b i).2)=b::s.data.toList.drop (i+1):=by
     rw[List.drop_drop,show(zF s b i).2+(i-(zF s b i).2)=i by omega,List.drop_eq_getElem_cons hl]
     congr 1
     rw[←hb,tG hl]
    rw[←e2,List.take_append_drop]
   have e3:((s.extract (zF s b i).2 i)).data.toList=(s.data.toList.drop (zF s b i).2).take (i-(zF s b i).2):=by
    rw[ByteArray.data_extract,Array.toList_extract]
   rw[e1,wX]
   ·simp
   ·intro hm;obtain⟨j,hj,e⟩:=List.mem_iff_getElem.1 hm;rw[List.length_take] at hj;refine h3 ((zF s b i).2+j) (by omega) (by omega) ?_
    rw[List.getElem_take,List.getElem_drop] at e;exact(tG (by omega)).trans e
  ·rw[zF,if_neg hb];refine⟨h1,by omega,fun j h4 h5=> ?_⟩
   by_cases hj:j=i
   ·rw[hj];exact hb
   ·exact h3 j h4 (by omega)
theorem aAg(s:ByteArray)(b:UInt8):(split s b).map (·.data.toList)=oN b s.data.toList:=by
 obtain⟨h1,h2,h3⟩:=Zu s b s.size (Nat.le_refl _);unfold split;rw[h1,List.map_append];congr 1
 rw[uW]
 ·have e3:((s.extract (zF s b s.size).2 s.size)).data.toList=s.data.toList.drop (zF s b s.size).2:=by
   rw[ByteArray.data_extract,Array.toList_extract];simp only[List.extract];rw[List.take_of_length_le];have:s.data.toList.length=s.size:=rfl;rw[List.length_drop];omega
  rw[List.map_cons,List.map_nil,e3]
 ·intro hm;obtain⟨j,hj,e⟩:=List.mem_iff_getElem.1 hm;rw[List.length_drop] at hj;have hl:s.data.toList.length=s.size:=rfl;refine h3 ((zF s b s.size).2+j) (by omega) (by omega) ?_
  rw[List.getElem_drop] at e;exact(tG (by omega)).trans e
/-! ### numerals -/
end Go.Bp
end
section
namespace Go.St
open Go.Bp
namespace Town
variable(t:Town)
/-! ### the program's reading -/
end Town
namespace Town
variable{t:Town}
end Town
/-! ### the reference's reading -/
theorem Zs(l:List UInt8):∀k,k≤l.length→gE l k≤l.length
 |0,_=>Nat.le_refl _
 |k+1,h=>by
  unfold gE;split
  ·omega
  ·exact Zs l k (by omega)
namespace Town
variable{t:Town}
end Town
end Go.St
end
section
namespace Go.St
open Go Go.Bp Go.RowKit Go.Proofs
section
variable{P:Program}{ops:Array Oper}{Q:Exit→Act→World→Prop}{a:Act}{w:World}{rest:List Oper}
variable{d:Option Tmp}{ty ty':TypeId}{pos:String}{after:Array Edge}
theorem aAr{x y:Operand}{p q r:ByteArray}(hx:a.eval x=.string p)(hy:a.eval y=.string q)(hr:p++q=r)(hs:p.size+q.size≤1000000000)
 (k:wpList P ops Q rest (a.put d (.string r)) w):wpList P ops Q (⟨d,.binOp .add 9 x y ty',ty,pos,after,none⟩::rest) a w:=
 Om rfl (nO (S:=fun _=>True) hx hy hr hs w trivial) k
end
section
variable{ops:Array Oper}{Q:Exit→Act→World→Prop}{a:Act}{w:World}{rest:List Oper}
variable{d:Option Tmp}{ty:TypeId}{pos:String}{after:Array Edge}
theorem aBb{x:Operand}{n:Int}(hx:a.eval x=.int .u8 n)
 (k:∀W g,Ext w W→Blk W g 5 #[.int .u8 n]→w.heap.size≤g→wpList Tryz.prog ops Q rest (a.put d (.slice (some ⟨g,0,none⟩) 1 1)) W):
 wpList Tryz.prog ops Q (⟨d,.buildSlice 65 1 #[(0,x)],ty,pos,after,none⟩::rest) a w:=
 Oq Tryz.underlying65 ti5 rfl (by rw[hx];rfl) (by rw[hx];exact k)
theorem aBc{x:Operand}{g:Nat}{b:UInt8}(hx:a.eval x=.slice (some ⟨g,0,none⟩) 1 1)(hb:Blk w g 5 #[.int .u8 (b.toNat:Int)])
 (k:wpList Tryz.prog ops Q rest (a.put d (.string (Bp.S [b]))) w):
 wpList Tryz.prog ops Q (⟨d,.convert 65 9 x,ty,pos,after,none⟩::rest) a w:=by
 refine Om rfl ?_ k;have h:=run_convert_bytes_back (P:=Tryz.prog) w 65 9 5 ⟨g,0,none⟩ 1 [b] Tryz.underlying65 Tryz.underlying5 Tryz.underlying9 (fun j hj=>by
  have:j=0:=by simpa using hj
  subst this;have:=hb.cell 0;simpa [Addr.add] using this)
 simp only[List.length_singleton] at h;simp[execOp,hx,h,Result.andThen];rfl
end
set_option maxHeartbeats 1000000 in
theorem aAe:∀(n:Nat)(w:World),n≤1000000→Calls Tryz.prog 107 #[.int .i64 n] w fun e w'=>e=.returned (.string (S (bO n)))∧Ext w w':=by
 intro n;induction n using Nat.strongRecOn with
 |ind n ih=>
 intro w hn;have hE:=Ext.refl w;have Hb:=Lib.hid (aAw n);by_cases h10:10≤n
 ·have hr:=Di h10;have HR:=Lib.hid (show S (bO (n/10))++S [Zz n]=S (bO n) by rw[Lm,hr];rfl)
  have Hih:=Lib.hid (ih (n/10) (by omega))
  have Hc:=Lib.hid (show((n/10:Nat):Int)=(n:Int)/10 by omega)
  have Hsz:=Lib.hid (show(S (bO (n/10))).size+(S [Zz n]).size≤1000000000 by rw[fD,fD];have:=uU (n/10);simp;omega)
  have q1:(10:Int)≤n:=by omega
  clear hr ih;go_enter Tryz.func107,Tryz.ntmps107
  go_wp2_with (first|((with_reducible refine aBb (d:=some 8) (n:=48+(n:Int)%10) ?_ ?_);rfl;intro W8 g8 hE8 hB8 hg8;replace hE:=hE.trans hE8;rw[←Hb.out] at hB8)|((with_reducible refine aBc (d:=some 9) (b:=Zz n) ?_ hB8 ?_);rfl)|(go_at_call 107;((with_reducible refine(show Calls Tryz.prog 107 #[.int .i64 ((n:Int)/10)] _ _ from by rw[←Hc.out];exact Hih.out _ (by omega)).mono ?_);rintro e W14 ⟨rfl,hE14⟩;replace hE:=hE.trans hE14))|((with_reducible refine aAr (d:=some 16) (p:=S (bO (n/10))) (q:=S [Zz n]) (r:=S (bO n)) ?_ ?_ HR.out Hsz.out ?_);rfl;rfl))
  go_ret
  exact⟨rfl,hE⟩
 ·have hr:=yG (n:=n) (by omega)
  have HR:=Lib.hid (show S [Zz n]=S (bO n) by rw[hr];rfl)
  have q1:¬(10:Int)≤n:=by omega
  clear hr ih;go_enter Tryz.func107,Tryz.ntmps107
  go_wp2_with (first|((with_reducible refine aBb (d:=some 8) (n:=48+(n:Int)%10) ?_ ?_);rfl;intro W8 g8 hE8 hB8 hg8;replace hE:=hE.trans hE8;rw[←Hb.out] at hB8)|((with_reducible refine aBc (d:=some 9) (b:=Zz n) ?_ hB8 ?_);rfl))
  go_ret
  exact⟨by rw[←HR.out];rfl,hE⟩
theorem Zt{α:Type}{p:α→Prop}{l:List α}{k:Nat}(hk:k<l.length)(hb:∀x∈l.take k,p x)(hp:p l[k]):∀x∈l.take (k+1),p x:=by
 intro x hx;rw[cI _ hk] at hx;rcases List.mem_append.1 hx with h|h
 ·exact hb x h
 ·simp at h;rw[h];exact hp
theorem aAx{s:ByteArray}(h:inB s.size 1 2=true)(h2:∀b∈s.data.toList,Ow b=true):Pv s=Ov s s.size:=by
 unfold Pv;rw[if_pos ⟨h,List.all_eq_true.2 h2⟩]
theorem aAk{s:ByteArray}(h:inB s.size 1 2=false):Pv s= -1:=by unfold Pv;rw[if_neg (by simp[h])]
theorem aAj{s:ByteArray}{b:UInt8}(hb:b∈s.data.toList)(h:Ow b=false):Pv s= -1:=by
 unfold Pv;rw[if_neg];rintro⟨_,h2⟩;have:=List.all_eq_true.1 h2 b hb;rw[h] at this;cases this
set_option maxHeartbeats 2000000 in
theorem aAb(s:ByteArray)(w:World)(hs:s.size≤100000):
 Calls Tryz.prog 89 #[.string s] w fun e w'=>e=.returned (.int .i64 (Pv s))∧w=w':=by
 by_cases hz:inB s.size 1 2=true
 ·have hz2:=aV.1 hz;have Hz:=Lib.hid hz;go_enter Tryz.func89,Tryz.ntmps89
  go_wp2_with (go_at_call 53;refine(cN _ _ _ _).mono ?_;rintro e w' ⟨rfl,rfl⟩)
  go_loop [3,4] (fun n i=>∃k:Nat,k≤s.size∧i=.int .i64 k∧n=.int .i64 (Ov s k)∧∀b∈s.data.toList.take k,Ow b=true) (fun _ i=>s.size-(intOf i).toNat)
  case atStart=>exact⟨0,by omega,rfl,rfl,by simp⟩
  case round=>
   obtain⟨k,hk,rfl,rfl,hd⟩:=hrel;have hbd:=Zy k hk hd;have hp:(10:Int)^k≤10^3:=by
    have:(10:Nat)^k≤10^3:=Nat.pow_le_pow_right (by decide) (by omega)
    exact_mod_cast this
   have hb2:Ov s k<1000:=by have:(10:Int)^3=1000:=rfl;omega
   have hb1:=hbd.1;have Hd:=Lib.hid hd;clear hd hbd hp;by_cases hlt:k<s.size
   ·by_cases hg:Ow s[k]=true
    ·have Hg:=Lib.hid hg;have hg2:=aV.1 hg;obtain⟨hg3,hg4⟩:=hg2;have hn:=Zr hlt;have Hn:=Lib.hid hn;have q1:inB (s[k].toNat:Int) 48 57=true:=hg;clear hn hg;go_wp2_with (go_at_call 53;refine(cN _ _ _ _).mono ?_;rintro e w' ⟨rfl,rfl⟩)
     go_round
     case rel=>exact⟨k+1,by omega,by go_num,by rw[Hn.out],Zt (l:=s.data.toList) (p:=fun b=>Ow b=true) hlt Hd.out Hg.out⟩
     case measure=>simp[intOf];omega
    ·simp only[Bool.not_eq_true] at hg;have q1:inB (s[k].toNat:Int) 48 57=false:=hg;have Hr:=Lib.hid (aAj (s:=s) (b:=s[k]) (List.getElem_mem (show k<s.data.toList.length from hlt)) hg)
     have h255:(s[k].toNat:Int)≤255:=by have:=s[k].toNat_lt;omega
     clear hg;go_wp2_with (go_at_call 53;refine(cN _ _ _ _).mono ?_;rintro e w' ⟨rfl,rfl⟩)
     go_ret
     exact⟨lI Hr.out.symm,rfl⟩
   ·obtain rfl:k=s.size:=by omega
    have Hr:=Lib.hid (aAx Hz.out (fun b hb=>Hd.out b (by rw[show s.data.toList.take s.size=s.data.toList from List.take_of_length_le (Nat.le_refl _)];exact hb)))
    go_wp2
    go_ret
    exact⟨lI Hr.out.symm,rfl⟩
 ·simp only[Bool.not_eq_true] at hz;have Hr:=Lib.hid (aAk hz);go_enter Tryz.func89,Tryz.ntmps89
  go_wp2_with (go_at_call 53;refine(cN _ _ _ _).mono ?_;rintro e w' ⟨rfl,rfl⟩)
  go_ret
  exact⟨lI Hr.out.symm,rfl⟩
set_option maxHeartbeats 2000000 in
theorem aAm(s:ByteArray)(b:UInt8)(w:World)(hs:s.size≤100000):
 Calls Tryz.prog 87 #[.string s,.int .u8 (b.toNat:Int)] w (Ret w fun v w'=>Lq w.heap.size w' v (split s b)):=by
 have hE:=Ext.refl w;go_enter Tryz.func87,Tryz.ntmps87
 go_wp2
 go_loopw [5,6,7] (fun v bg i wr=>Ext w wr∧∃k:Nat,k≤s.size∧i=.int .i64 k∧bg=.int .i64 ((zF s b k).2:Nat)∧Lq w.heap.size wr v (zF s b k).1) (fun _ _ i _=>s.size-(intOf i).toNat)
 case atStart=>exact⟨Ext.refl _,0,by omega,rfl,rfl,Lq.nil _ _⟩
 case round=>
  obtain⟨hEr,k,hk,rfl,rfl,hO⟩:=hrel;obtain⟨hl1,hl2⟩:=Zq s b k;obtain⟨B,hB⟩:∃B,(zF s b k).2=B:=⟨_,rfl⟩;have HBe:=Lib.hid hB;rw[hB] at hl2⊢;have Hl1:=Lib.hid hl1;clear hB hl1;by_cases hlt:k<s.size
  ·by_cases hb:s[k]=b
   ·have hs2:=aAh hlt hb;rw[HBe.out] at hs2;have Hs2:=Lib.hid hs2;have q1:((s[k].toNat:Int)==(b.toNat:Int))=true:=by rw[hb];simp
    clear hs2 hb;go_wp2_with (first|((with_reducible refine aBa (d:=some 24) (n:=s.extract B k) ?_ ?_);rfl;intro W24 g24 hE24 hB24 hg24;replace hEr:=hEr.trans hE24;replace hO:=hO.ext hE24)|(refine aAs (d:=some 25) rfl hO rfl hB24 (by have:=Hl1.out;omega) (by have:=hEr.size;omega) ?_;intro v25 W25 hO' hmono hgr;replace hEr:=hmono _ hEr))
    go_roundw
    case rel=>exact⟨hEr,k+1,by omega,by go_num,by rw[Hs2.out];go_num,by rw[Hs2.out];exact hO'⟩
    case measure=>simp[intOf];omega
   ·have hs2:=aAc hlt hb;have Hs2:=Lib.hid hs2;have q1:((s[k].toNat:Int)==(b.toNat:Int))=false:=by
     rw[beq_eq_false_iff_ne];intro e;exact hb (UInt8.toNat_inj.1 (by omega))
    clear hs2 hb;go_wp2
    go_roundw
    case rel=>exact⟨hEr,k+1,by omega,by go_num,by rw[Hs2.out,HBe.out],by rw[Hs2.out];exact hO⟩
    case measure=>simp[intOf];omega
  ·obtain rfl:k=s.size:=by omega
   go_wp2_with (first|((with_reducible refine aBa (d:=some 32) (n:=s.extract B s.size) ?_ ?_);rfl;intro W24 g24 hE24 hB24 hg24;replace hEr:=hEr.trans hE24;replace hO:=hO.ext hE24)|(refine aAs (d:=some 33) rfl hO rfl hB24 (by have:=Hl1.out;omega) (by have:=hEr.size;omega) ?_;intro v25 W25 hO' hmono hgr;replace hEr:=hmono _ hEr))
   go_ret
   exact⟨_,rfl,by unfold split;rw[HBe.out];exact hO',hEr⟩
end Go.St
end
section
namespace Go.St
open Go Go.Bp Go.RowKit Go.Proofs
set_option maxHeartbeats 4000000 in
theorem Zw(tv lv:Value)(t:Town)(a:Nat)(l:List Step)(w:World)(h:aM w tv t)(hok:t.Ok)(ha:a<t.places.length)(hl:bY w lv l)(hle:l.length≤1100)(hv:∀x∈l,inB x.st 0 (t.streets.length-1)=true):
 Calls Tryz.prog 79 #[tv,.int .i64 a,lv] w fun e w'=>e=.returned (.string (S (t.textOf a l)))∧Ext w w':=by
 obtain⟨pv,shv,tmv,xv,rfl,hT⟩:=h;have hT0:=hT;obtain⟨A1,cp1,rfl,hp1,hc1,_,hp4⟩:=hT.places;unfold maxLen at hc1;obtain⟨adp,rfl,hcp⟩:=hp4 (by omega)
 obtain⟨A,c,rfl,h1,h2,_,h4⟩:=hl;unfold maxLen at h2;have hE:=Ext.refl w;have e0:=cS.sg hcp ha;obtain⟨nm,hnm⟩:∃s,t.places[a]=s:=⟨_,rfl⟩;rw[hnm] at e0;have Hnm:=Lib.hid hnm;have z0:(a:Int)<(t.places.length:Int):=by omega
 have Hok:=Lib.hid hok;have Hv:=Lib.hid hv;have HcP:=Lib.hid hcp;have hst:=hok.st;have hp2:=hok.p2;clear hnm hT hok hv hcp hp4;go_enter Tryz.func79,Tryz.ntmps79
 go_wp2_with (first|((with_reducible refine aF (d:=some 3) ?_);intro W3 g3 hE3 hB3 hg3;simp[Act.eval,Act.put,Value.cells] at hB3;(try replace hE:=hE.trans hE3);(try replace hT0:=hT0.ext hE3);(try replace e0:=hE3.c e0);have hb3_0:=hB3.cell 0;have hb3_1:=hB3.cell 1;have hb3_2:=hB3.cell 2;have hb3_3:=hB3.cell 3;simp at hb3_0 hb3_1 hb3_2 hb3_3;clear hE3))
 obtain⟨Wl,hWl⟩:∃W,W=W3:=⟨_,rfl⟩;subst hWl;have Hini:=Lib.hid (show Value.string nm=.string (S (t.textTo a l 0)) by rw[Town.textTo_0,Town.place_S ha,Hnm.out])
 have hTl:=hT0;clear hb3_1 hb3_2 hb3_3;go_loopw [7,8] (fun s i wr=>Ext Wl wr∧∃j:Nat,j≤l.length∧i=.int .i64 j∧s=.string (S (t.textTo a l j))) (fun _ i _=>l.length-(intOf i).toNat)
 case atStart=>exact⟨Ext.refl _,0,by omega,rfl,Hini.out⟩
 case round=>
  obtain⟨hX,j,hj,rfl,rfl⟩:=hrel;by_cases hlt:j<l.length
  ·obtain⟨ad,rfl,hc⟩:=h4 (by omega)
   have hcw:=hc.ext (hE.trans hX);have hz:(j:Int)<(l.length:Int):=by omega
   obtain⟨x,hx⟩:∃x,l[j]=x:=⟨_,rfl⟩;have hvx:=Hv.out _ (List.getElem_mem hlt);have hts:=Town.textTo_succ (t:=t) a l hlt;have htl:=Town.textTo_len Hok.out a Hv.out j hj;have hls:=iM hcw hlt;have hsub:=oU hcw hlt;rw[hx] at hvx hts hls hsub;obtain⟨st,b⟩:=x;obtain⟨n,rfl,hn⟩:=fB hvx;have hn':n<t.streets.length:=by omega
   obtain⟨qn,hqn,hqlt⟩:=fB (Hok.out.ends hvx).2;have hql:qn<t.places.length:=by omega
   have cend:=fun w h=>dW (.agg #[.slice (some adp) t.places.length cp1,shv,tmv,xv]) t n b w h hn'
   rw[hqn] at cend;have cb:=fld hsub (i:=1) (by decide) rfl
   have cs:=Gi hsub rfl;have ep:=Ext.cell_some (hE.trans hX) (cS.sg HcP.out hql);obtain⟨q,hq⟩:∃s,t.places[qn]=s:=⟨_,rfl⟩;rw[hq] at ep;have hqs:q=S (t.placeAt qn):=by rw[←hq,Town.place_S hql]
   have hqlen:=Town.place_len Hok.out qn;obtain⟨T,hT⟩:∃T,t.textTo a l j=T:=⟨_,rfl⟩;rw[hT] at hts htl⊢;have hdl:=uU n;have hst2:t.stepText ⟨(n:Int),b⟩=(if b=true then [61] else [45])++bO n++ [46]++t.placeAt qn:=by
    unfold Town.stepText Town.sign;rw[hqn]
    cases b<;>simp
   rw[hst2] at hts;have Hts:=Lib.hid hts;have z1:(qn:Int)<(t.places.length:Int):=by omega
   have cB3:=hB3.ext hX;have Hc:=Lib.hid hcw;have Hx:=Lib.hid hx;clear hts hst2 hq hqn hT hx hcw hsub h4 hc hvx;go_wp2
   have hTr:=aM.of (hT0.ext hX);have hls2:∀W,Ext wr W→(loadVar 82 (ad.add (j*2))).run Tryz.prog W=.ok (.agg #[.int .i64 n,.bool b]) W:=fun W h=>by
    have h9:=iM (Hc.out.ext h) hlt;rw[Hx.out] at h9;exact h9
   apply eF [23,24,25,26,27,28,22,29,30,9,10] (fun x w'=>x 10=.int .i64 qn∧Ext wr w')
   case h=>
    have hXr:=Ext.todrew (Ext.refl wr);refine aR (.take 0 (.take 1 (.take 2 (.take 3 (.take 4 (.one 5 (.take 6 (.take 7 (.take 8 (.take 9 (.take 10 .nil))))))))))) (fun w'=>Ext wr w') ?_ (fun hHd=> ?_)
    ·assumption
    repeat' first|((with_reducible refine aB ?_);(first|((with_reducible refine aB (i:=0) ?_);refine tk (v:=.agg #[.slice (some adp) t.places.length cp1,shv,tmv,xv]) ?_ hHd ?_;(·exact aA (by rfl) (fun W h=>aL (cB3.ext h))))|((with_reducible refine aB (i:=4) ?_);refine tk (v:=.agg #[.int .i64 n,.bool b]) ?_ hHd ?_;(·exact aA (by rfl) (fun W h=>hls2 W h)))|(refine tk (v:= ?_) ?_ hHd ?_;rotate_left;(·(intro wq hSw;(try dsimp only at hSw);go_simp;(try with_reducible rfl)))));(try simp only[pS]))|((with_reducible refine bC ?_);refine aQ (by simp only[gS];rfl) ?_)|((with_reducible refine aH (d:=some 28) ?_);((refine bD (by rfl) (cend _ (hTr.ext hXr)) (by go_simp) ?_;rintro e W28 ⟨rfl,hE28⟩;refine⟨_,rfl,?_⟩;replace hXr:=hXr.trans hE28)))|((with_reducible refine bB ?_);clear hHd;refine aJ ?_ (fun hHd=> ?_);(·assumption);(try simp only[pS]))|(with_reducible refine aG ?_)
    all_goals
     refine⟨rfl,?_⟩;refine bL ?_ ?_
     ·simp only[Act.sets,Act.put,List.foldl_cons,List.foldl_nil,List.setIfInBounds_toArray,List.set_cons_zero,List.set_cons_succ,Act.get];rfl
     exact⟨rfl,hXr⟩
   rintro x5 W5 ⟨hx10,hE5⟩;simp only[Act.sets,Act.put,List.foldl_cons,List.foldl_nil,List.setIfInBounds_toArray,List.set_cons_zero,List.set_cons_succ,hx10];replace hX:=hX.trans hE5;replace cb:=hE5.c cb;replace cs:=hE5.c cs;replace ep:=hE5.c ep;replace cB3:=cB3.ext hE5;have c30:=cB3.cell 0;simp at c30;clear hE5 hTr hls2 cend hls;obtain⟨D,hD⟩:∃D,bO n=D:=⟨_,rfl⟩;obtain⟨sg,hsg⟩:∃c:List UInt8,c=(if b=true then [61] else [45]):=⟨_,rfl⟩
   have hsl:sg.length=1:=by rw[hsg];cases b<;>rfl
   have HD:Hid (∀W,Calls Tryz.prog 107 #[.int .i64 n] W fun e w'=>e=.returned (.string (S D))∧Ext W w'):=Lib.hid (fun W=>by rw[←hD];exact aAe n W (by omega))
   rw[hD] at hdl;obtain⟨L1,hL1⟩:∃L,T++sg=L:=⟨_,rfl⟩;obtain⟨L2,hL2⟩:∃L,L1++D=L:=⟨_,rfl⟩;obtain⟨L3,hL3⟩:∃L,L2++ [46]=L:=⟨_,rfl⟩;obtain⟨L4,hL4⟩:∃L,L3++t.placeAt qn=L:=⟨_,rfl⟩;have HL:=Lib.hid (⟨by rw[Lm,hL1],by rw[Lm,hL2],by rw[Lm,hL3],by rw[hqs,Lm,hL4]⟩:S T++S sg=S L1∧S L1++S D=S L2∧S L2++S [46]=S L3∧S L3++q=S L4)
   have Hts2:Hid (t.textTo a l (j+1)=L4):=Lib.hid (by rw[Hts.out,←hL4,←hL3,←hL2,←hL1,←hsg,hD];simp only[List.append_assoc])
   have hsz:((S T).size+(S sg).size≤1000000000)∧((S L1).size+(S D).size≤1000000000)∧((S L2).size+(S [46]).size≤1000000000)∧((S L3).size+q.size≤1000000000):=by
    rw[hqs];simp only[fD,←hL3,←hL2,←hL1,List.length_append,List.length_singleton];omega
   have Hsg:=Lib.hid hsg;clear hsg hL1 hL2 hL3 hL4 hD Hts hqs
   cases b
   ·obtain rfl:sg=[45]:=Hsg.out;go_wp2_with (first|((with_reducible refine aAr (d:=some 39) (p:=S T) (q:=S [45]) (r:=S L1) ?_ ?_ HL.out.1 hsz.1 ?_);rfl;rfl))
    apply eF [40,41,42,43,44,45,46,47,48,49,50,51,52,53,54,7] (fun x w'=>x 7=.string (S L4)∧Ext W5 w')
    case h=>
     have hXr:=Ext.todrew (Ext.refl W5);refine aR (.take 0 (.take 1 (.take 2 (.take 3 (.take 4 (.take 5 (.take 9 (.take 10 (.take 11 (.take 12 (.take 13 (.one 6 (.take 7 (.take 8 (.take 14 (.take 15 .nil)))))))))))))))) (fun w'=>Ext W5 w') ?_ (fun hHd=> ?_)
     ·assumption
     repeat' first|((with_reducible refine aB ?_);(first|((with_reducible refine aB (i:=5) ?_);refine tk (v:=.int .i64 n) ?_ hHd ?_;(·exact aA (by rfl) (rl Tryz.underlying3 cs)))|((with_reducible refine aB (i:=7) ?_);refine tk (v:=.string (S L2)) ?_ hHd ?_;(·exact nO (by rfl) (by rfl) HL.out.2.1 hsz.2.1))|((with_reducible refine aB (i:=8) ?_);refine tk (v:=.string (S L3)) ?_ hHd ?_;(·exact nO (q:=S [46]) (by rfl) (by rfl) HL.out.2.2.1 hsz.2.2.1))|((with_reducible refine aB (i:=10) ?_);refine tk (v:=.slice (some adp) t.places.length cp1) ?_ hHd ?_;(·exact aA (by rfl) (rl Tryz.underlying22 c30)))|((with_reducible refine aB (i:=13) ?_);refine tk (v:=.string q) ?_ hHd ?_;(·exact aA (by rfl) (rl Tryz.underlying9 ep)))|((with_reducible refine aB (i:=14) ?_);refine tk (v:=.string (S L4)) ?_ hHd ?_;(·exact nO (by rfl) (by rfl) HL.out.2.2.2 hsz.2.2.2))|(refine tk (v:= ?_) ?_ hHd ?_;rotate_left;(·(intro wq hSw;(try dsimp only at hSw);go_simp;(try with_reducible rfl)))));(try simp only[pS]))|((with_reducible refine bC ?_);refine aQ (by simp only[gS];rfl) ?_)|((with_reducible refine aH (d:=some 46) ?_);((refine bD (by rfl) (HD.out _) (by go_simp) ?_;rintro e W46 ⟨rfl,hE46⟩;refine⟨_,rfl,?_⟩;replace hXr:=hXr.trans hE46)))|((with_reducible refine bB ?_);clear hHd;refine aJ ?_ (fun hHd=> ?_);(·assumption);(try simp only[pS]))|(with_reducible refine aG ?_)
     all_goals
      refine⟨rfl,?_⟩;refine bL ?_ ?_
      ·simp only[Act.sets,Act.put,List.foldl_cons,List.foldl_nil,List.setIfInBounds_toArray,List.set_cons_zero,List.set_cons_succ,Act.get];rfl
      exact⟨rfl,hXr⟩
    rintro x9 W9 ⟨hx7,hE9⟩;simp only[Act.sets,Act.put,List.foldl_cons,List.foldl_nil,List.setIfInBounds_toArray,List.set_cons_zero,List.set_cons_succ,hx7];go_wp2
    go_roundw
    case rel=>exact⟨hX.trans hE9,j+1,by omega,by go_num,by rw[Hts2.out]⟩
    case measure=>simp[intOf];omega
   ·obtain rfl:sg=[61]:=Hsg.out;go_wp2_with (first|((with_reducible refine aAr (d:=some 37) (p:=S T) (q:=S [61]) (r:=S L1) ?_ ?_ HL.out.1 hsz.1 ?_);rfl;rfl))
    apply eF [40,41,42,43,44,45,46,47,48,49,50,51,52,53,54,7] (fun x w'=>x 7=.string (S L4)∧Ext W5 w')
    case h=>
     have hXr:=Ext.todrew (Ext.refl W5);refine aR (.take 0 (.take 1 (.take 2 (.take 3 (.take 4 (.take 5 (.take 9 (.take 10 (.take 11 (.take 12 (.take 13 (.one 6 (.take 7 (.take 8 (.take 14 (.take 15 .nil)))))))))))))))) (fun w'=>Ext W5 w') ?_ (fun hHd=> ?_)
     ·assumption
     repeat' first|((with_reducible refine aB ?_);(first|((with_reducible refine aB (i:=5) ?_);refine tk (v:=.int .i64 n) ?_ hHd ?_;(·exact aA (by rfl) (rl Tryz.underlying3 cs)))|((with_reducible refine aB (i:=7) ?_);refine tk (v:=.string (S L2)) ?_ hHd ?_;(·exact nO (by rfl) (by rfl) HL.out.2.1 hsz.2.1))|((with_reducible refine aB (i:=8) ?_);refine tk (v:=.string (S L3)) ?_ hHd ?_;(·exact nO (q:=S [46]) (by rfl) (by rfl) HL.out.2.2.1 hsz.2.2.1))|((with_reducible refine aB (i:=10) ?_);refine tk (v:=.slice (some adp) t.places.length cp1) ?_ hHd ?_;(·exact aA (by rfl) (rl Tryz.underlying22 c30)))|((with_reducible refine aB (i:=13) ?_);refine tk (v:=.string q) ?_ hHd ?_;(·exact aA (by rfl) (rl Tryz.underlying9 ep)))|((with_reducible refine aB (i:=14) ?_);refine tk (v:=.string (S L4)) ?_ hHd ?_;(·exact nO (by rfl) (by rfl) HL.out.2.2.2 hsz.2.2.2))|(refine tk (v:= ?_) ?_ hHd ?_;rotate_left;(·(intro wq hSw;(try dsimp only at hSw);go_simp;(try with_reducible rfl)))));(try simp only[pS]))|((with_reducible refine bC ?_);refine aQ (by simp only[gS];rfl) ?_)|((with_reducible refine aH (d:=some 46) ?_);((refine bD (by rfl) (HD.out _) (by go_simp) ?_;rintro e W46 ⟨rfl,hE46⟩;refine⟨_,rfl,?_⟩;replace hXr:=hXr.trans hE46)))|((with_reducible refine bB ?_);clear hHd;refine aJ ?_ (fun hHd=> ?_);(·assumption);(try simp only[pS]))|(with_reducible refine aG ?_)
     all_goals
      refine⟨rfl,?_⟩;refine bL ?_ ?_
      ·simp only[Act.sets,Act.put,List.foldl_cons,List.foldl_nil,List.setIfInBounds_toArray,List.set_cons_zero,List.set_cons_succ,Act.get];rfl
      exact⟨rfl,hXr⟩
    rintro x9 W9 ⟨hx7,hE9⟩;simp only[Act.sets,Act.put,List.foldl_cons,List.foldl_nil,List.setIfInBounds_toArray,List.set_cons_zero,List.set_cons_succ,hx7];go_wp2
    go_roundw
    case rel=>exact⟨hX.trans hE9,j+1,by omega,by go_num,by rw[Hts2.out]⟩
    case measure=>simp[intOf];omega
  ·obtain rfl:j=l.length:=by omega
   have Hr:=Lib.hid (Town.textTo_all (t:=t) a l);have hz:¬((l.length:Int)<(l.length:Int)):=by omega
   clear h4;go_wp2
   go_ret
   exact⟨by rw[Hr.out];rfl,hE.trans hX⟩
namespace Town
variable{t:Town}{a:Int}{l:List Step}
end Town
set_option maxHeartbeats 2000000 in
theorem aAd(tv lv:Value)(t:Town)(a:Int)(l:List Step)(w:World)(h:aM w tv t)(hl:bY w lv l):
 Calls Tryz.prog 31 #[tv,.int .i64 a,lv] w (Sd w (t.writeAns a l).1 (t.writeAns a l).2):=by
 obtain⟨pv,shv,tmv,xv,rfl,hT⟩:=h;obtain⟨A1,cp1,rfl,_,hc1,_,_⟩:=hT.places;have hL:=hl;clear hl;unfold maxLen at hc1;have hE:=Ext.refl w;by_cases hce:t.check.2.2=0
 ·have Hc:=Lib.hid (Town.check_zero hce);have hok:=Town.ok_of hce;have hp2:=hok.p2
  cases c1:inB a 0 (t.places.length-1) with
  |false=>
   have hans:=Lib.hid (Town.writeAns_4 (l:=l) hce c1);clear hce;go_enter Tryz.func31,Tryz.ntmps31
   go_wp2_with (first|((go_at_call 53;refine(cN _ _ _ _).mono ?_;rintro e w' ⟨rfl,rfl⟩))|(go_at_call 18;((with_reducible refine(dH _ t _ (by exact aM.of hT)).mono ?_);rintro e WcC ⟨rfl,hEcC⟩;(try replace hE:=hE.trans hEcC);(try replace hT:=hT.ext hEcC);(try replace hL:=hL.ext hEcC);(try replace hb3_0:=hEcC.c hb3_0);(try replace hb3_1:=hEcC.c hb3_1);(try replace hb3_2:=hEcC.c hb3_2);(try replace hb3_3:=hEcC.c hb3_3);rw[Hc.out]))|((with_reducible refine aF (d:=some 3) ?_);intro W3 g3 hE3 hB3 hg3;simp[Act.eval,Act.put,Value.cells] at hB3;(try replace hE:=hE.trans hE3);(try replace hT:=hT.ext hE3);(try replace hL:=hL.ext hE3);have hb3_0:=hB3.cell 0;have hb3_1:=hB3.cell 1;have hb3_2:=hB3.cell 2;have hb3_3:=hB3.cell 3;simp at hb3_0 hb3_1 hb3_2 hb3_3;clear hE3))
   go_ret2
   rw[hans.out];exact⟨rfl,hE⟩
  |true=>
   by_cases hse:(t.stepsErr a l).2=0
   ·have hans:=Lib.hid (Town.writeAns_0 hce c1 hse);obtain⟨hl11,hfo⟩:=Town.stepsErr_follow hse;have hv:=Town.follow_st l a hfo;have htm:=aV.1 c1;obtain⟨an,rfl⟩:∃n:Nat,a=n:=⟨a.toNat,by omega⟩
    have ha:an<t.places.length:=by omega
    have q1:((t.stepsErr an l).2 !=0)=false:=by simp[hse]
    clear hce hse hfo;go_enter Tryz.func31,Tryz.ntmps31
    go_wp2_with (first|((go_at_call 53;refine(cN _ _ _ _).mono ?_;rintro e w' ⟨rfl,rfl⟩))|(go_at_call 18;((with_reducible refine(dH _ t _ (by exact aM.of hT)).mono ?_);rintro e WcC ⟨rfl,hEcC⟩;(try replace hE:=hE.trans hEcC);(try replace hT:=hT.ext hEcC);(try replace hL:=hL.ext hEcC);(try replace hb3_0:=hEcC.c hb3_0);(try replace hb3_1:=hEcC.c hb3_1);(try replace hb3_2:=hEcC.c hb3_2);(try replace hb3_3:=hEcC.c hb3_3);rw[Hc.out]))|(go_at_call 60;((with_reducible refine(vE _ _ t an l _ (by exact aM.of hT) hok (by exact hL)).mono ?_);rintro e WcS ⟨rfl,hEcS⟩;(try replace hE:=hE.trans hEcS);(try replace hT:=hT.ext hEcS);(try replace hL:=hL.ext hEcS);(try replace hb3_0:=hEcS.c hb3_0);(try replace hb3_1:=hEcS.c hb3_1);(try replace hb3_2:=hEcS.c hb3_2);(try replace hb3_3:=hEcS.c hb3_3)))|(go_at_call 79;((with_reducible refine(Zw _ _ t an l _ (by exact aM.of hT) hok ha (by exact hL) hl11 hv).mono ?_);rintro e WcX ⟨rfl,hEcX⟩;(try replace hE:=hE.trans hEcX)))|((with_reducible refine aF (d:=some 3) ?_);intro W3 g3 hE3 hB3 hg3;simp[Act.eval,Act.put,Value.cells] at hB3;(try replace hE:=hE.trans hE3);(try replace hT:=hT.ext hE3);(try replace hL:=hL.ext hE3);have hb3_0:=hB3.cell 0;have hb3_1:=hB3.cell 1;have hb3_2:=hB3.cell 2;have hb3_3:=hB3.cell 3;simp at hb3_0 hb3_1 hb3_2 hb3_3;clear hE3))
    go_ret2
    rw[hans.out];exact⟨rfl,hE⟩
   ·have hans:=Lib.hid (Town.writeAns_s hce c1 hse);have q1:((t.stepsErr a l).2 !=0)=true:=by simp[hse]
    clear hce hse;go_enter Tryz.func31,Tryz.ntmps31
    go_wp2_with (first|((go_at_call 53;refine(cN _ _ _ _).mono ?_;rintro e w' ⟨rfl,rfl⟩))|(go_at_call 18;((with_reducible refine(dH _ t _ (by exact aM.of hT)).mono ?_);rintro e WcC ⟨rfl,hEcC⟩;(try replace hE:=hE.trans hEcC);(try replace hT:=hT.ext hEcC);(try replace hL:=hL.ext hEcC);(try replace hb3_0:=hEcC.c hb3_0);(try replace hb3_1:=hEcC.c hb3_1);(try replace hb3_2:=hEcC.c hb3_2);(try replace hb3_3:=hEcC.c hb3_3);rw[Hc.out]))|(go_at_call 60;((with_reducible refine(vE _ _ t a l _ (by exact aM.of hT) hok (by exact hL)).mono ?_);rintro e WcS ⟨rfl,hEcS⟩;(try replace hE:=hE.trans hEcS);(try replace hT:=hT.ext hEcS);(try replace hL:=hL.ext hEcS);(try replace hb3_0:=hEcS.c hb3_0);(try replace hb3_1:=hEcS.c hb3_1);(try replace hb3_2:=hEcS.c hb3_2);(try replace hb3_3:=hEcS.c hb3_3)))|((with_reducible refine aF (d:=some 3) ?_);intro W3 g3 hE3 hB3 hg3;simp[Act.eval,Act.put,Value.cells] at hB3;(try replace hE:=hE.trans hE3);(try replace hT:=hT.ext hE3);(try replace hL:=hL.ext hE3);have hb3_0:=hB3.cell 0;have hb3_1:=hB3.cell 1;have hb3_2:=hB3.cell 2;have hb3_3:=hB3.cell 3;simp at hb3_0 hb3_1 hb3_2 hb3_3;clear hE3))
    go_ret2
    rw[hans.out];exact⟨rfl,hE⟩
 ·have hans:=Lib.hid (Town.writeAns_c (a:=a) (l:=l) hce);have q1:(t.check.2.2==0)=false:=by simp[hce]
  have q2:(t.check.2.2 !=0)=true:=by simp[hce]
  clear hce;go_enter Tryz.func31,Tryz.ntmps31
  go_wp2_with (first|(go_at_call 18;((with_reducible refine(dH _ t _ (by exact aM.of hT)).mono ?_);rintro e WcC ⟨rfl,hEcC⟩;(try replace hE:=hE.trans hEcC);(try replace hT:=hT.ext hEcC);(try replace hL:=hL.ext hEcC);(try replace hb3_0:=hEcC.c hb3_0);(try replace hb3_1:=hEcC.c hb3_1);(try replace hb3_2:=hEcC.c hb3_2);(try replace hb3_3:=hEcC.c hb3_3)))|((with_reducible refine aF (d:=some 3) ?_);intro W3 g3 hE3 hB3 hg3;simp[Act.eval,Act.put,Value.cells] at hB3;(try replace hE:=hE.trans hE3);(try replace hT:=hT.ext hE3);(try replace hL:=hL.ext hE3);have hb3_0:=hB3.cell 0;have hb3_1:=hB3.cell 1;have hb3_2:=hB3.cell 2;have hb3_3:=hB3.cell 3;simp at hb3_0 hb3_1 hb3_2 hb3_3;clear hE3))
  go_ret2
  rw[hans.out];exact⟨rfl,hE⟩
end Go.St
end
section
namespace Go.Proofs.YtfjnacajjpaeiaaGreatDoor
open Go Go.Bp Go.St Go.RowKit Go.Proofs Go.ChangeShapes Go.WideShapes Go.ChangeAt
theorem ip7:(Rows.streetTextsRow.inPlace==Tryz.pinned.checked.prog.inPlace 7)=true:=by kernel_rfl
theorem uf7:(Rows.streetTextsRow.unfollowed==Tryz.pinned.checked.prog.unfollowed 7)=true:=by kernel_rfl
theorem rc7:(Rows.streetTextsRow.recurses==Tryz.pinned.checked.prog.recurses 7)=true:=by kernel_rfl
theorem nm7:(Rows.streetTextsRow.named==Tryz.pinned.checked.prog.varsNamed 7)=true:=by kernel_rfl
theorem aAz:joinedFacts Tryz.pinned.checked.prog 7 Tryz.f7 Rows.streetTextsSpec Rows.streetTextsRow=true:=by
 unfold joinedFacts;rw[ip7,uf7,rc7,nm7];kernel_rfl
end Go.Proofs.YtfjnacajjpaeiaaGreatDoor
end
section
namespace Go.Walk
open Go Go.Bp Go.St Go.RowKit Go.Proofs
class StrsB (w:outParam World) (v:Value) (l:outParam (List ByteArray)):Prop where h:Strs w v l
class StrsC (W:World) (v:Value) (l:outParam (List ByteArray)):Prop where h:Strs W v l
class CheckE (t:Town) (a b c:outParam Int):Prop where h:t.check=(a,b,c)
class StepsE (t:Town) (a:Int) (l:List Step) (b e:outParam Int):Prop where h:t.stepsErr a l=(b,e)∧t.Ok
class TextE (t:Town) (a:Int) (l:List Step) (s:outParam ByteArray):Prop where h:S (t.textOf a l)=s∧t.Ok∧inB a 0 (t.places.length-1)=true∧l.length≤1100∧∀x∈l,inB x.st 0 (t.streets.length-1)=true
class IdxE (l:List ByteArray) (s:ByteArray) (r:outParam Int):Prop where h:mQ (fun x=>decide (s=x)) l=r
class NumE (s:ByteArray) (r:outParam Int):Prop where h:Pv s=r∧s.size≤100000
class SplitE (s:ByteArray) (r:outParam (List ByteArray)):Prop where h:split s 46=r∧s.size≤100000
class WriteE (t:Town) (a:Int) (l:List Step) (s:outParam ByteArray) (e:outParam Int):Prop where h:∃b,t.writeAns a l=(b,e)∧S b=s
class ReadE (t:Town) (s:ByteArray) (a:outParam Int) (l:outParam (List Step)) (e:outParam Int):Prop where h:t.readAns s.data.toList=(a,l,e)∧s.size≤maxLen
abbrev RTx(W:World)(s:ByteArray)(n:Int)(e:Ending)(W':World):Prop:=e=.returned (.tuple #[.string s,.int .i64 n])∧StepC W W'
abbrev RIS(W:World)(a:Int)(l:List Step)(n:Int)(e:Ending)(W':World):Prop:=∃A c,e=.returned (.tuple #[.int .i64 a,.slice A l.length c,.int .i64 n])∧StepsB W' (.slice A l.length c) l∧StepC W W'
theorem ris{W W':World}{a n:Int}{l:List Step}{e:Ending}(h:yM W a l n e W'):RIS W a l n e W':=by
 obtain⟨v,rfl,hO,hE⟩:=h;obtain⟨A,c,rfl,_⟩:=id hO;exact⟨A,c,rfl,⟨hO⟩,⟨hE⟩⟩
section
variable{a W:World}{v u:Value}{t:Town}{l:List Step}{r:List ByteArray}{s s':ByteArray}{x y z n:Int}
instance[p:StrsB a v r][q:ExtC a W]:StrsC W v r:=⟨p.h.ext q.h⟩
instance[p:TownC W v t][i:CheckE t x y z]:FunC Tryz.prog 18 #[v] W (fun e W'=>e=.returned (.tuple #[.int .i64 x,.int .i64 y,.int .i64 z])∧StepC W W'):=⟨(dH _ _ _ p.h).mono fun e W' ⟨h,hE⟩=>⟨by rw[i.h] at h;exact h,⟨hE⟩⟩⟩
instance[p:TownC W v t][q:StepsC W u l][i:StepsE t x l y z]:FunC Tryz.prog 60 #[v,.int .i64 x,u] W (fun e W'=>e=.returned (.tuple #[.int .i64 y,.int .i64 z])∧StepC W W'):=⟨(vE _ _ _ _ _ _ p.h i.h.2 q.h).mono fun e W' ⟨h,hE⟩=>⟨by rw[i.h.1] at h;exact h,⟨hE⟩⟩⟩
instance[p:TownC W v t][q:StepsC W u l][i:TextE t x l s]:FunC Tryz.prog 79 #[v,.int .i64 x,u] W (fun e W'=>e=.returned (.string s)∧StepC W W'):=⟨by
 obtain⟨h1,h2,h3,h4,h5⟩:=i.h;have:=aV.1 h3;obtain⟨k,rfl⟩:∃k:Nat,x=k:=⟨x.toNat,by omega⟩
 exact(Zw _ _ _ k _ _ p.h h2 (by omega) q.h h4 h5).mono fun e W' ⟨h,hE⟩=>⟨by rw[h1] at h;exact h,⟨hE⟩⟩⟩
instance[p:StrsC W v r][i:IdxE r s x]:FunC Tryz.prog 88 #[v,.string s] W (RI W x):=⟨(wR _ _ _ _ p.h).mono fun e W' ⟨h,hE⟩=>⟨by rw[i.h] at h;exact h,⟨hE⟩⟩⟩
instance[i:NumE s x]:FunC Tryz.prog 89 #[.string s] W (RI W x):=⟨(aAb _ _ i.h.2).mono fun e W' ⟨h,hE⟩=>⟨by rw[i.h.1] at h;exact h,⟨hE▸Ext.refl _⟩⟩⟩
instance[i:SplitE s r]:FunC Tryz.prog 87 #[.string s,.int .u8 46] W (fun e W'=>∃A c,e=.returned (.slice A r.length c)∧StrsB W' (.slice A r.length c) r∧StepC W W'):=⟨(aAm s 46 W i.h.2).mono fun e W' ⟨v,h,hO,hE⟩=>by
 rw[i.h.1] at hO;subst h;have hS:=Sl.of_own hO;obtain⟨A,c,rfl,_⟩:=id hS;exact⟨A,c,rfl,⟨hS⟩,⟨hE⟩⟩⟩
instance[p:TownC W v t][q:StepsC W u l][i:WriteE t x l s n]:FunC Tryz.prog 31 #[v,.int .i64 x,u] W (RTx W s n):=⟨(aAd _ _ _ _ _ _ p.h q.h).mono fun e W' ⟨h,hE⟩=>by
 obtain⟨b,h1,h2⟩:=i.h;exact⟨by rw[h1] at h;rw[←h2];exact h,⟨hE⟩⟩⟩
instance[p:TownC W v t][q:StepsC W u l][i:WriteE t x l s n][j:EnvC W]:FunC Tryz.prog 30 #[v,.int .i64 x,u] W (RTx W s n):=⟨(pQ _ _ _ _ _ _ p.h q.h j.h).mono fun e W' ⟨h,hE⟩=>by
 obtain⟨b,h1,h2⟩:=i.h;exact⟨by rw[h1] at h;rw[←h2];exact h,⟨hE⟩⟩⟩
instance[p:TownC W v t][i:ReadE t s x l n][j:EnvC W]:FunC Tryz.prog 32 #[v,.string s] W (RIS W x l n):=⟨(Il _ _ _ _ p.h j.h i.h.2).mono fun e W' h=>ris (by rw[i.h.1] at h;exact h)⟩
end
/-! ### plain: the parts of the text -/
theorem Zp{b:UInt8}:∀{l p:List UInt8},p∈oN b l→p.length≤l.length
 | [],p,h=>by simp[oN] at h;simp[h]
 |x::l,p,h=>by
  rw[oN] at h;split at h
  ·rcases List.mem_cons.1 h with rfl|h
   ·simp
   ·have:=Zp h;simp;omega
  ·split at h
   ·rename_i h2;exact absurd h2 (aAa b l)
   ·rename_i q qs h2;rcases List.mem_cons.1 h with rfl|h
    ·have:=Zp (l:=l) (p:=q) (b:=b) (by rw[h2];simp);simp;omega
    ·have:=Zp (l:=l) (p:=p) (b:=b) (by rw[h2];simp[h]);simp;omega
theorem aAp{s:ByteArray}{l:List UInt8}(h:s.data.toList=l):s=S l:=by rw[←h,rO]
theorem aAo(p:ByteArray)(c:Nat)(hc:c≤p.size):p.extract 0 c=S (p.data.toList.take c):=aAp (by rw[ByteArray.data_extract,Array.toList_extract];simp[List.extract])
theorem aAq(p:ByteArray)(c:Nat):p.extract c p.size=S (p.data.toList.drop c):=aAp (by
 rw[ByteArray.data_extract,Array.toList_extract];simp only[List.extract];rw[List.take_of_length_le];rw[List.length_drop];exact Nat.le_refl _)
theorem Zx{p:ByteArray}{k:Nat}(hk:k<p.size){b1 b2:Bool}(h1:((p[k].toNat:Int)==45)=b1)(h2:((p[k].toNat:Int)==61)=b2):
 gE p.data.toList (k+1)=if(b1||b2)=true then k else gE p.data.toList k:=by
 have e:eQ (p.data.toList.getD k 0)=(b1||b2):=by
  rw[Zn hk,←h1,←h2];unfold eQ;have key:∀(a c:UInt8),((a.toNat:Int)==(c.toNat:Int))=decide (a=c):=by
   intro a c;by_cases h:a=c
   ·subst h;simp
   ·have:¬((a.toNat:Int)=(c.toNat:Int)):=fun e=>h (UInt8.toNat_inj.1 (by omega))
    simp[h,this]
  rw[←key,←key];rfl
 rw[gE,e]
end Go.Walk
end
