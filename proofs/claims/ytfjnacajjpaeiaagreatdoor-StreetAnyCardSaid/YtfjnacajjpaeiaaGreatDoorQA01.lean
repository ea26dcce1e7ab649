/- Chapter 03: contracts of functions of the program and of the reference, and plain laws (out of StE SR1 SR14). No condition of its own. -/
import Derived.Test.YtfjnacajjpaeiaaGreatDoorQC01
set_option maxRecDepth 100000
set_option linter.all false
section
namespace Go.St
def cZ(s:Int)(i:Nat):Bool:=(s.tdiv (2^i)).tmod 2==1
theorem mE(s:Nat)(i:Nat):cZ (s:Int) i=s.testBit i:=by
 unfold cZ;have e1:((2:Int)^i)=((2^i:Nat):Int):=by push_cast;rfl
 rw[e1,show((s:Int).tdiv ((2^i:Nat):Int))=((s/2^i:Nat):Int) from(Int.ofNat_tdiv _ _).symm,show(((s/2^i:Nat):Int).tmod 2)=((s/2^i%2:Nat):Int) from(Int.ofNat_tmod _ 2).symm,Nat.testBit_eq_decide_div_mod_eq]
 by_cases h:s/2^i%2=1
 ·simp[h]
 ·have:¬(((s/2^i%2:Nat):Int)=1):=by omega
  rw[beq_eq_false_iff_ne.2 this];simp[h]
def dO(f:Nat→Bool):Nat→Int
 |0=>0
 |k+1=>if f k=true then dO f k+2^k else dO f k
theorem rU{f:Nat→Bool}{n:Nat}:∀{k:Nat},(∀i,i<k→f i=n.testBit i)→dO f k=((n%2^k:Nat):Int)
 |0,_=>by simp[dO,Nat.mod_one]
 |k+1,h=>by
  have ih:=rU (f:=f) (n:=n) (k:=k) (fun i hi=>h i (by omega))
  unfold dO;have e1:n%2^(k+1)=n%2^k+2^k*(n/2^k%2):=by rw[Nat.pow_succ,Nat.mod_mul]
  rw[ih,h k (by omega),e1,Nat.testBit_eq_decide_div_mod_eq]
  by_cases hb:n/2^k%2=1
  ·simp[hb]
  ·have hb0:n/2^k%2=0:=by omega
   simp[hb0]
theorem rV{f:Nat→Bool}{n k:Nat}(h:∀i,i<k→f i=n.testBit i)(hn:n<2^k):dO f k=(n:Int):=by
 rw[rU h,Nat.mod_eq_of_lt hn]
def cH(a b:Int):Int:=dO (fun i=>cZ a i&& !(cZ b i)) 6
theorem dE{a b:Int}(h0:0≤a)(h:a<64)(h1:0≤b):cH a b=aE a b:=by
 obtain⟨m,rfl⟩:∃m:Nat,a=m:=⟨a.toNat,by omega⟩
 obtain⟨n,rfl⟩:∃m:Nat,b=m:=⟨b.toNat,by omega⟩
 unfold cH aE;simp only[Int.toNat_natCast];refine rV (fun i _=> ?_) (Ag (n:=6) (by omega))
 rw[mE,mE,dZ]
end Go.St
end
section
namespace Go.St
open Go Go.Bp Go.RowKit Go.Proofs
theorem Ep(s:Int)(n:Nat)(h0:0≤s)(h1:s≤1000000)(hn:n≤61)(w:World):Calls Tryz.prog 43 #[.int .i64 s,.int .i64 n] w fun e w'=>e=.returned (.bool (cZ s n))∧w=w':=by
 have hb:=iC hn (Nat.le_refl 61);obtain⟨hb1,hb2⟩:=hb;have Hh:=Lib.hid (show cZ s n=((s.tdiv (2^n)).tmod 2==1) from rfl)
 have hq0:0≤s.tdiv (2^n):=Int.tdiv_nonneg h0 (by omega)
 have hq1:s.tdiv (2^n)≤s:=by rw[Int.tdiv_eq_ediv_of_nonneg h0];exact Int.ediv_le_self _ h0
 obtain⟨p,hp⟩:∃p:Int,2^n=p:=⟨_,rfl⟩;have Hp:=Lib.hid hp;rw[hp] at hb1 hb2 hq0 hq1;rw[hp] at Hh;clear hp;have hc:=jP n hn;rw[show((2:Int)^n)=p from Hp.out] at hc
 have hp0:p≠0:=by omega
 obtain⟨q,hq⟩:∃q:Int,s.tdiv p=q:=⟨_,rfl⟩;rw[hq] at hq0 hq1 Hh;have z1:IntKind.i64.wrap q=q:=IntWalk.i64_in _ (by omega)
 go_enter Tryz.func43,Tryz.ntmps43
 go_wp2_with (go_at_call 42;refine(hc _).mono ?_;rintro e w' ⟨rfl,rfl⟩)
 go_ret
 exact⟨by rw[Hh.out,Int.tmod_eq_emod_of_nonneg hq0];rfl,rfl⟩
theorem lU(f:Nat→Bool)(k:Nat):dO f (k+1)=if f k=true then dO f k+2^k else dO f k:=rfl
theorem oP(f:Nat→Bool):∀k,0≤dO f k∧dO f k<2^k
 |0=>by simp[dO]
 |k+1=>by
  have ih:=oP f k;have:(2:Int)^(k+1)=2^k*2:=Int.pow_succ 2 k;rw[lU];split<;>omega
set_option maxHeartbeats 1000000 in
theorem fI(a b:Int)(ha:0≤a∧a≤1000000)(hb:0≤b∧b≤1000000)(w:World):Calls Tryz.prog 44 #[.int .i64 a,.int .i64 b] w fun e w'=>e=.returned (.int .i64 (cH a b))∧w=w':=by
 have Hl:=Lib.hid (show cH a b=dO (fun i=>cZ a i&& !(cZ b i)) 6 from rfl)
 go_enter Tryz.func44,Tryz.ntmps44
 go_wp2
 go_loop [5,6] (fun p i=>∃k:Nat,k≤6∧i=.int .i64 k∧p=.int .i64 (dO (fun i=>cZ a i&& !(cZ b i)) k)) (fun _ i=>6-(intOf i).toNat)
 case atStart=>exact⟨0,by omega,rfl,rfl⟩
 case round=>
  obtain⟨k,hk,rfl,rfl⟩:=hrel;have Hs:=Lib.hid (lU (fun i=>cZ a i&& !(cZ b i)) k)
  obtain⟨hb1,hb2⟩:=oP (fun i=>cZ a i&& !(cZ b i)) k
  have hp:=nP hk;have hp0:=(iC hk (by omega)).1
  obtain⟨x,hx⟩:∃x,dO (fun i=>cZ a i&& !(cZ b i)) k=x:=⟨_,rfl⟩
  have Hx:=Lib.hid hx;rw[hx] at hb1 hb2⊢;clear hx;have hk61:k≤61:=by omega
  have c3:=fun w=>jP k hk61 w
  obtain⟨p,hpp⟩:∃p:Int,2^k=p:=⟨_,rfl⟩;have Hp:=Lib.hid hpp;rw[hpp] at hb2 hp hp0 c3;clear hpp;by_cases hlt:k<6
  ·cases q1:cZ a k<;>cases q2:cZ b k
   all_goals
    have Q1:=Lib.hid q1;have Q2:=Lib.hid q2;go_wp2_with (first|(go_at_call 43;(with_reducible refine(Ep _ k (by first|exact ha.1|exact hb.1) (by first|exact ha.2|exact hb.2) hk61 _).mono ?_);rintro e w' ⟨rfl,rfl⟩)|(go_at_call 42;refine(c3 _).mono ?_;rintro e w' ⟨rfl,rfl⟩))
    go_round
    case rel=>exact⟨k+1,by omega,by go_num,by rw[Hs.out,Q1.out,Q2.out,Hx.out,Hp.out];rfl⟩
    case measure=>simp[intOf];omega
  ·obtain rfl:k=6:=by omega
   go_wp2
   go_ret
   exact⟨lI (by rw[Hl.out,Hx.out]),rfl⟩
end Go.St
end
section
namespace Go.St
open Go Go.Bp Go.RowKit Go.Proofs
theorem pT{α:Type}{P:α→Prop}{l:List α}{j:Nat}(hj:j<l.length):(∀x∈l.take (j+1),P x)↔(∀x∈l.take j,P x)∧P l[j]:=by
 rw[cI _ hj];constructor
 ·intro h;exact⟨fun x hx=>h x (List.mem_append.2 (.inl hx)),h _ (List.mem_append.2 (.inr (List.mem_singleton.2 rfl)))⟩
 ·rintro⟨h1,h2⟩ x hx;rcases List.mem_append.1 hx with h|h
  ·exact h1 x h
  ·simp at h;rw[h];exact h2
end Go.St
end
