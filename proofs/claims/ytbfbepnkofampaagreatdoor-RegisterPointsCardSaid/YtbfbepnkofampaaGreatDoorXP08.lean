import Derived.Shelf.Abstract
import Derived.Test.YtbfbepnkofampaaGreatDoorXP07
set_option maxRecDepth 100000
set_option linter.all false
section
namespace Go.Rg
open Go Go.Bp Go.RowKit Go.Walk Go.Proofs
class PredC (α:Type) [Enc α] (W:World) (fv:Value) (l:List α) (p:outParam (α→Bool)):Prop where
 h:∃F cap,fv=.func (.func F) #[] cap∧(∀(args:Array Value)(W:World),(callFunc F args).run Tryz.prog W=.ok (.enter F args) W)∧∀x∈l,∀W',Ext W W'→Calls Tryz.prog F (#[Enc.val x]++cap) W' fun e W2=>e=.returned (.bool (p x))∧Ext W' W2
set_option maxHeartbeats 1000000 in
theorem yI(v fv:Value)(l:List Int)(p:Int→Bool)(w:World)(h:ListV w v l)(hp:PredC Int w fv l p):
 Calls Tryz.prog 171 #[v,fv] w (RI w (idxP p l)):=by
 obtain⟨A,c,rfl,h2⟩:=h.form;unfold maxLen at h2;obtain⟨F,cap,rfl,hF,hp⟩:=hp.h;have Hp:=Lib.hid hp;clear hp;go_enter Tryz.func171,Tryz.ntmps171
 go_wp2
 go_loopw [8] (fun i wr=>Ext w wr∧∃k:Nat,k≤l.length∧i=.int .i64 k∧∀x∈l.take k,p x=false) (fun i _=>l.length-(intOf i).toNat)
 case atStart=>exact⟨Ext.refl _,0,by omega,rfl,by simp⟩
 case round=>
  obtain⟨hEr,k,hk,rfl,hn⟩:=hrel;have Hn:=Lib.hid hn;clear hn;by_cases hlt:k<l.length
  ·obtain⟨ad,rfl,hc⟩:=(h.ext hEr).elem hlt;have hcall:=Hp.out l[k] (List.getElem_mem hlt) wr hEr;obtain⟨x,hx⟩:∃x,l[k]=x:=⟨_,rfl⟩;rw[hx] at hc hcall;have i8:CellsB wr (ad.add (k)) [.int .i64 x]:=⟨by first|simpa [Enc.size,Enc.enc] using hc⟩
   have Hcall:=Lib.hid hcall;clear hc hcall;go_wp2_with (with_reducible refine aA ?_)
   refine Hcall.out.mono ?_;rintro e W1 ⟨rfl,hE1⟩;replace hEr:=hEr.trans hE1;rw[←hx];clear hx;by_cases hpk:p l[k]=true
   ·have hr:=fZ hlt hpk Hn.out;have Hr:=Lib.hid hr;clear hr;go_wp2
    go_ret
    exact⟨eP Hr.out.symm,⟨hEr⟩⟩
   ·simp only[Bool.not_eq_true] at hpk;go_wp2
    go_roundw
    case rel=>exact⟨hEr,k+1,by omega,by go_num,bV hlt Hn.out hpk⟩
    case measure=>simp[intOf];omega
  ·go_wp2
   go_ret
   obtain rfl:k=l.length:=by omega
   have:=Hn.out;rw[List.take_length] at this;exact⟨eP (dQ this).symm,⟨hEr⟩⟩
theorem rQ(v fv:Value)(l:List Int)(p:Int→Bool)(w:World)(h:ListV w v l)(hp:PredC Int w fv l p):
 Calls Tryz.prog 107 #[v,fv] w (RB w (l.any p)):=by
 have Hg:=Lib.hid (fY p l);go_enter Tryz.func107,Tryz.ntmps107
 go_wp2_with (go_at_call 171;refine(yI _ _ _ _ _ h hp).mono ?_;rintro e w' ⟨rfl,hE⟩)
 go_ret
 exact⟨fT Hg.out,hE⟩
instance{W:World}{v fv:Value}{l:List Int}{p:Int→Bool}[h:ListC Int W v l][q:PredC Int W fv l p]:FunC Tryz.prog 107 #[v,fv] W (RB W (l.any p)):=⟨rQ _ _ _ _ _ h.h q⟩
set_option maxHeartbeats 1000000 in
theorem rP(v fv:Value)(l:List Span)(p:Span→Bool)(w:World)(h:ListV w v l)(hp:PredC Span w fv l p):
 Calls Tryz.prog 250 #[v,fv] w (RI w (idxP p l)):=by
 obtain⟨A,c,rfl,h2⟩:=h.form;unfold maxLen at h2;obtain⟨F,cap,rfl,hF,hp⟩:=hp.h;have Hp:=Lib.hid hp;clear hp;go_enter Tryz.func250,Tryz.ntmps250
 go_wp2
 go_loopw [8] (fun i wr=>Ext w wr∧∃k:Nat,k≤l.length∧i=.int .i64 k∧∀x∈l.take k,p x=false) (fun i _=>l.length-(intOf i).toNat)
 case atStart=>exact⟨Ext.refl _,0,by omega,rfl,by simp⟩
 case round=>
  obtain⟨hEr,k,hk,rfl,hn⟩:=hrel;have Hn:=Lib.hid hn;clear hn;by_cases hlt:k<l.length
  ·obtain⟨ad,rfl,hc⟩:=(h.ext hEr).elem hlt;have hcall:=Hp.out l[k] (List.getElem_mem hlt) wr hEr;obtain⟨x,hx⟩:∃x,l[k]=x:=⟨_,rfl⟩;rw[hx] at hc hcall;have i8:CellsB wr (ad.add (k*2)) [.int .i64 x.lo,.int .i64 x.hi]:=⟨by first|exact hc⟩
   have Hcall:=Lib.hid hcall;clear hc hcall;go_wp2_with (with_reducible refine aA ?_)
   refine Hcall.out.mono ?_;rintro e W1 ⟨rfl,hE1⟩;replace hEr:=hEr.trans hE1;rw[←hx];clear hx;by_cases hpk:p l[k]=true
   ·have hr:=fZ hlt hpk Hn.out;have Hr:=Lib.hid hr;clear hr;go_wp2
    go_ret
    exact⟨eP Hr.out.symm,⟨hEr⟩⟩
   ·simp only[Bool.not_eq_true] at hpk;go_wp2
    go_roundw
    case rel=>exact⟨hEr,k+1,by omega,by go_num,bV hlt Hn.out hpk⟩
    case measure=>simp[intOf];omega
  ·go_wp2
   go_ret
   obtain rfl:k=l.length:=by omega
   have:=Hn.out;rw[List.take_length] at this;exact⟨eP (dQ this).symm,⟨hEr⟩⟩
theorem mX(v fv:Value)(l:List Span)(p:Span→Bool)(w:World)(h:ListV w v l)(hp:PredC Span w fv l p):
 Calls Tryz.prog 194 #[v,fv] w (RB w (l.any p)):=by
 have Hg:=Lib.hid (fY p l);go_enter Tryz.func194,Tryz.ntmps194
 go_wp2_with (go_at_call 250;refine(rP _ _ _ _ _ h hp).mono ?_;rintro e w' ⟨rfl,hE⟩)
 go_ret
 exact⟨fT Hg.out,hE⟩
instance{W:World}{v fv:Value}{l:List Span}{p:Span→Bool}[h:ListC Span W v l][q:PredC Span W fv l p]:FunC Tryz.prog 194 #[v,fv] W (RB W (l.any p)):=⟨mX _ _ _ _ _ h.h q⟩
set_option maxHeartbeats 1000000 in
theorem oR(v fv:Value)(l:List Right)(p:Right→Bool)(w:World)(h:ListV w v l)(hp:PredC Right w fv l p):
 Calls Tryz.prog 224 #[v,fv] w (RI w (idxP p l)):=by
 obtain⟨A,c,rfl,h2⟩:=h.form;unfold maxLen at h2;obtain⟨F,cap,rfl,hF,hp⟩:=hp.h;have Hp:=Lib.hid hp;clear hp;go_enter Tryz.func224,Tryz.ntmps224
 go_wp2
 go_loopw [8] (fun i wr=>Ext w wr∧∃k:Nat,k≤l.length∧i=.int .i64 k∧∀x∈l.take k,p x=false) (fun i _=>l.length-(intOf i).toNat)
 case atStart=>exact⟨Ext.refl _,0,by omega,rfl,by simp⟩
 case round=>
  obtain⟨hEr,k,hk,rfl,hn⟩:=hrel;have Hn:=Lib.hid hn;clear hn;by_cases hlt:k<l.length
  ·obtain⟨ad,rfl,hc⟩:=(h.ext hEr).elem hlt;have hcall:=Hp.out l[k] (List.getElem_mem hlt) wr hEr;obtain⟨x,hx⟩:∃x,l[k]=x:=⟨_,rfl⟩;rw[hx] at hc hcall;have i8:CellsB wr (ad.add (k*2)) [.int .i64 x.cls,.int .i64 x.codes]:=⟨by first|exact hc⟩
   have Hcall:=Lib.hid hcall;clear hc hcall;go_wp2_with (with_reducible refine aA ?_)
   refine Hcall.out.mono ?_;rintro e W1 ⟨rfl,hE1⟩;replace hEr:=hEr.trans hE1;rw[←hx];clear hx;by_cases hpk:p l[k]=true
   ·have hr:=fZ hlt hpk Hn.out;have Hr:=Lib.hid hr;clear hr;go_wp2
    go_ret
    exact⟨eP Hr.out.symm,⟨hEr⟩⟩
   ·simp only[Bool.not_eq_true] at hpk;go_wp2
    go_roundw
    case rel=>exact⟨hEr,k+1,by omega,by go_num,bV hlt Hn.out hpk⟩
    case measure=>simp[intOf];omega
  ·go_wp2
   go_ret
   obtain rfl:k=l.length:=by omega
   have:=Hn.out;rw[List.take_length] at this;exact⟨eP (dQ this).symm,⟨hEr⟩⟩
theorem lQ(v fv:Value)(l:List Right)(p:Right→Bool)(w:World)(h:ListV w v l)(hp:PredC Right w fv l p):
 Calls Tryz.prog 162 #[v,fv] w (RB w (l.any p)):=by
 have Hg:=Lib.hid (fY p l);go_enter Tryz.func162,Tryz.ntmps162
 go_wp2_with (go_at_call 224;refine(oR _ _ _ _ _ h hp).mono ?_;rintro e w' ⟨rfl,hE⟩)
 go_ret
 exact⟨fT Hg.out,hE⟩
instance{W:World}{v fv:Value}{l:List Right}{p:Right→Bool}[h:ListC Right W v l][q:PredC Right W fv l p]:FunC Tryz.prog 162 #[v,fv] W (RB W (l.any p)):=⟨lQ _ _ _ _ _ h.h q⟩
set_option maxHeartbeats 1000000 in
theorem sC(v fv:Value)(l:List ClsA)(p:ClsA→Bool)(w:World)(h:ListV w v l)(hp:PredC ClsA w fv l p):
 Calls Tryz.prog 151 #[v,fv] w (RI w (idxP p l)):=by
 obtain⟨A,c,rfl,h2⟩:=h.form;unfold maxLen at h2;obtain⟨F,cap,rfl,hF,hp⟩:=hp.h;have Hp:=Lib.hid hp;clear hp;go_enter Tryz.func151,Tryz.ntmps151
 go_wp2
 go_loopw [8] (fun i wr=>Ext w wr∧∃k:Nat,k≤l.length∧i=.int .i64 k∧∀x∈l.take k,p x=false) (fun i _=>l.length-(intOf i).toNat)
 case atStart=>exact⟨Ext.refl _,0,by omega,rfl,by simp⟩
 case round=>
  obtain⟨hEr,k,hk,rfl,hn⟩:=hrel;have Hn:=Lib.hid hn;clear hn;by_cases hlt:k<l.length
  ·obtain⟨ad,rfl,hc⟩:=(h.ext hEr).elem hlt;have hcall:=Hp.out l[k] (List.getElem_mem hlt) wr hEr;obtain⟨x,hx⟩:∃x,l[k]=x:=⟨_,rfl⟩;rw[hx] at hc hcall;have i8:CellsB wr (ad.add (k*5)) [.string x.c.name,.slice x.a x.c.incl.length x.k,.int .i64 x.c.needs,.int .i64 x.c.age,.int .i64 x.c.term]:=⟨by first|exact hc⟩
   have Hcall:=Lib.hid hcall;clear hc hcall;go_wp2_with (with_reducible refine aA ?_)
   refine Hcall.out.mono ?_;rintro e W1 ⟨rfl,hE1⟩;replace hEr:=hEr.trans hE1;rw[←hx];clear hx;by_cases hpk:p l[k]=true
   ·have hr:=fZ hlt hpk Hn.out;have Hr:=Lib.hid hr;clear hr;go_wp2
    go_ret
    exact⟨eP Hr.out.symm,⟨hEr⟩⟩
   ·simp only[Bool.not_eq_true] at hpk;go_wp2
    go_roundw
    case rel=>exact⟨hEr,k+1,by omega,by go_num,bV hlt Hn.out hpk⟩
    case measure=>simp[intOf];omega
  ·go_wp2
   go_ret
   obtain rfl:k=l.length:=by omega
   have:=Hn.out;rw[List.take_length] at this;exact⟨eP (dQ this).symm,⟨hEr⟩⟩
theorem nU(v fv:Value)(l:List ClsA)(p:ClsA→Bool)(w:World)(h:ListV w v l)(hp:PredC ClsA w fv l p):
 Calls Tryz.prog 225 #[v,fv] w (RB w (l.any p)):=by
 have Hg:=Lib.hid (fY p l);go_enter Tryz.func225,Tryz.ntmps225
 go_wp2_with (go_at_call 151;refine(sC _ _ _ _ _ h hp).mono ?_;rintro e w' ⟨rfl,hE⟩)
 go_ret
 exact⟨fT Hg.out,hE⟩
instance{W:World}{v fv:Value}{l:List ClsA}{p:ClsA→Bool}[h:ListC ClsA W v l][q:PredC ClsA W fv l p]:FunC Tryz.prog 225 #[v,fv] W (RB W (l.any p)):=⟨nU _ _ _ _ _ h.h q⟩
set_option maxHeartbeats 1000000 in
theorem nT(v fv:Value)(l:List Treaty)(p:Treaty→Bool)(w:World)(h:ListV w v l)(hp:PredC Treaty w fv l p):
 Calls Tryz.prog 148 #[v,fv] w (RI w (idxP p l)):=by
 obtain⟨A,c,rfl,h2⟩:=h.form;unfold maxLen at h2;obtain⟨F,cap,rfl,hF,hp⟩:=hp.h;have Hp:=Lib.hid hp;clear hp;go_enter Tryz.func148,Tryz.ntmps148
 go_wp2
 go_loopw [8] (fun i wr=>Ext w wr∧∃k:Nat,k≤l.length∧i=.int .i64 k∧∀x∈l.take k,p x=false) (fun i _=>l.length-(intOf i).toNat)
 case atStart=>exact⟨Ext.refl _,0,by omega,rfl,by simp⟩
 case round=>
  obtain⟨hEr,k,hk,rfl,hn⟩:=hrel;have Hn:=Lib.hid hn;clear hn;by_cases hlt:k<l.length
  ·obtain⟨ad,rfl,hc⟩:=(h.ext hEr).elem hlt;have hcall:=Hp.out l[k] (List.getElem_mem hlt) wr hEr;obtain⟨x,hx⟩:∃x,l[k]=x:=⟨_,rfl⟩;rw[hx] at hc hcall;have i8:CellsB wr (ad.add (k*5)) [.string x.name,.int .i64 x.right.cls,.int .i64 x.right.codes,.int .i64 x.days.lo,.int .i64 x.days.hi]:=⟨by first|exact hc⟩
   have Hcall:=Lib.hid hcall;clear hc hcall;go_wp2_with (with_reducible refine aA ?_)
   refine Hcall.out.mono ?_;rintro e W1 ⟨rfl,hE1⟩;replace hEr:=hEr.trans hE1;rw[←hx];clear hx;by_cases hpk:p l[k]=true
   ·have hr:=fZ hlt hpk Hn.out;have Hr:=Lib.hid hr;clear hr;go_wp2
    go_ret
    exact⟨eP Hr.out.symm,⟨hEr⟩⟩
   ·simp only[Bool.not_eq_true] at hpk;go_wp2
    go_roundw
    case rel=>exact⟨hEr,k+1,by omega,by go_num,bV hlt Hn.out hpk⟩
    case measure=>simp[intOf];omega
  ·go_wp2
   go_ret
   obtain rfl:k=l.length:=by omega
   have:=Hn.out;rw[List.take_length] at this;exact⟨eP (dQ this).symm,⟨hEr⟩⟩
theorem kX(v fv:Value)(l:List Treaty)(p:Treaty→Bool)(w:World)(h:ListV w v l)(hp:PredC Treaty w fv l p):
 Calls Tryz.prog 104 #[v,fv] w (RB w (l.any p)):=by
 have Hg:=Lib.hid (fY p l);go_enter Tryz.func104,Tryz.ntmps104
 go_wp2_with (go_at_call 148;refine(nT _ _ _ _ _ h hp).mono ?_;rintro e w' ⟨rfl,hE⟩)
 go_ret
 exact⟨fT Hg.out,hE⟩
instance{W:World}{v fv:Value}{l:List Treaty}{p:Treaty→Bool}[h:ListC Treaty W v l][q:PredC Treaty W fv l p]:FunC Tryz.prog 104 #[v,fv] W (RB W (l.any p)):=⟨kX _ _ _ _ _ h.h q⟩
set_option maxHeartbeats 1000000 in
theorem oS(v fv:Value)(l:List Grant)(p:Grant→Bool)(w:World)(h:ListV w v l)(hp:PredC Grant w fv l p):
 Calls Tryz.prog 276 #[v,fv] w (RI w (idxP p l)):=by
 obtain⟨A,c,rfl,h2⟩:=h.form;unfold maxLen at h2;obtain⟨F,cap,rfl,hF,hp⟩:=hp.h;have Hp:=Lib.hid hp;clear hp;go_enter Tryz.func276,Tryz.ntmps276
 go_wp2
 go_loopw [8] (fun i wr=>Ext w wr∧∃k:Nat,k≤l.length∧i=.int .i64 k∧∀x∈l.take k,p x=false) (fun i _=>l.length-(intOf i).toNat)
 case atStart=>exact⟨Ext.refl _,0,by omega,rfl,by simp⟩
 case round=>
  obtain⟨hEr,k,hk,rfl,hn⟩:=hrel;have Hn:=Lib.hid hn;clear hn;by_cases hlt:k<l.length
  ·obtain⟨ad,rfl,hc⟩:=(h.ext hEr).elem hlt;have hcall:=Hp.out l[k] (List.getElem_mem hlt) wr hEr;obtain⟨x,hx⟩:∃x,l[k]=x:=⟨_,rfl⟩;rw[hx] at hc hcall;have i8:CellsB wr (ad.add (k*5)) [.int .i64 x.day,.int .i64 x.right.cls,.int .i64 x.right.codes,.int .i64 x.reason,.int .i64 x.end_]:=⟨by first|exact hc⟩
   have Hcall:=Lib.hid hcall;clear hc hcall;go_wp2_with (with_reducible refine aA ?_)
   refine Hcall.out.mono ?_;rintro e W1 ⟨rfl,hE1⟩;replace hEr:=hEr.trans hE1;rw[←hx];clear hx;by_cases hpk:p l[k]=true
   ·have hr:=fZ hlt hpk Hn.out;have Hr:=Lib.hid hr;clear hr;go_wp2
    go_ret
    exact⟨eP Hr.out.symm,⟨hEr⟩⟩
   ·simp only[Bool.not_eq_true] at hpk;go_wp2
    go_roundw
    case rel=>exact⟨hEr,k+1,by omega,by go_num,bV hlt Hn.out hpk⟩
    case measure=>simp[intOf];omega
  ·go_wp2
   go_ret
   obtain rfl:k=l.length:=by omega
   have:=Hn.out;rw[List.take_length] at this;exact⟨eP (dQ this).symm,⟨hEr⟩⟩
theorem lR(v fv:Value)(l:List Grant)(p:Grant→Bool)(w:World)(h:ListV w v l)(hp:PredC Grant w fv l p):
 Calls Tryz.prog 240 #[v,fv] w (RB w (l.any p)):=by
 have Hg:=Lib.hid (fY p l);go_enter Tryz.func240,Tryz.ntmps240
 go_wp2_with (go_at_call 276;refine(oS _ _ _ _ _ h hp).mono ?_;rintro e w' ⟨rfl,hE⟩)
 go_ret
 exact⟨fT Hg.out,hE⟩
instance{W:World}{v fv:Value}{l:List Grant}{p:Grant→Bool}[h:ListC Grant W v l][q:PredC Grant W fv l p]:FunC Tryz.prog 240 #[v,fv] W (RB W (l.any p)):=⟨lR _ _ _ _ _ h.h q⟩
instance{W:World}{g:Nat}{a:Int}[p:BlkC W g 3 [.int .i64 a]]:ListC Int W (.slice (some ⟨g,0,none⟩) 1 1) [a]:=⟨ListV.blk p.h rfl rfl (by decide)⟩
instance{W:World}{g:Nat}{a b:Int}[p:BlkC W g 3 [.int .i64 a,.int .i64 b]]:ListC Int W (.slice (some ⟨g,0,none⟩) 2 2) [a,b]:=⟨ListV.blk p.h rfl rfl (by decide)⟩
def outB(lo hi:Int)(xs:List Int):Bool:=xs.any fun x=> !inB x lo hi
theorem bL(lo hi a:Int):outB lo hi [a]= !inB a lo hi:=by simp[outB]
theorem zT(lo hi a b:Int):outB lo hi [a,b]=(!inB a lo hi|| !inB b lo hi):=by simp[outB]
theorem enters_clsout:∀(args:Array Value)(W:World),(callFunc 161 args).run Tryz.prog W=.ok (.enter 161 args) W:=enters_of Tryz.func161 (by kernel_rfl) rfl
theorem xR(x:Int)(g1 g2:Nat)(lo hi:Int)(w:World)(h1:w.cell? ⟨g1,0,none⟩=some (.int .i64 lo))(h2:w.cell? ⟨g2,0,none⟩=some (.int .i64 hi)):
 Calls Tryz.prog 161 #[.int .i64 x,.pointer (some ⟨g1,0,none⟩),.pointer (some ⟨g2,0,none⟩)] w fun e w'=>e=.returned (.bool (!inB x lo hi))∧w=w':=by
 unfold inB;go_enter Tryz.func161,Tryz.ntmps161
 go_wp2
 all_goals(go_ret;exact⟨fT (by rw[Bool.eq_iff_iff];simp;try omega),rfl⟩)
instance{W:World}{g1 g2:Nat}{lo hi:Int}{l:List Int}[p:BlkC W g1 3 [.int .i64 lo]][q:BlkC W g2 3 [.int .i64 hi]]:PredC Int W (.func (.func 161) #[] #[.pointer (some ⟨g1,0,none⟩),.pointer (some ⟨g2,0,none⟩)]) l (fun x=> !inB x lo hi):=
 ⟨_,_,rfl,enters_clsout,fun x _ W' hE=>(xR x g1 g2 lo hi W' (by have:=(p.h.ext hE).cell 0;simpa using this) (by have:=(q.h.ext hE).cell 0;simpa using this)).mono fun e W2 h=>⟨h.1,h.2▸Ext.refl _⟩⟩
theorem Bi(lo hi:Int)(v:Value)(xs:List Int)(w:World)(h:ListV w v xs):Calls Tryz.prog 95 #[.int .i64 lo,.int .i64 hi,v] w (RB w (outB lo hi xs)):=by
 have i1:=ListB.mk h;go_enter Tryz.func95,Tryz.ntmps95
 go_wp2_with (first|(with_reducible refine aB ?_;first|rintro _ V ⟨rfl,(_:StepC _ _)⟩)|(with_reducible refine aH ?_;intro V g _ _ _))
 go_ret
 exact⟨rfl,⟨ExtC.h⟩⟩
instance{W:World}{lo hi:Int}{v:Value}{xs:List Int}[p:ListC Int W v xs]:FunC Tryz.prog 95 #[.int .i64 lo,.int .i64 hi,v] W (RB W (outB lo hi xs)):=⟨Bi _ _ _ _ _ p.h⟩
theorem enters_regout:∀(args:Array Value)(W:World),(callFunc 108 args).run Tryz.prog W=.ok (.enter 108 args) W:=enters_of Tryz.func108 (by kernel_rfl) rfl
theorem vZ(x:Int)(g1 g2:Nat)(lo hi:Int)(w:World)(h1:w.cell? ⟨g1,0,none⟩=some (.int .i64 lo))(h2:w.cell? ⟨g2,0,none⟩=some (.int .i64 hi)):
 Calls Tryz.prog 108 #[.int .i64 x,.pointer (some ⟨g1,0,none⟩),.pointer (some ⟨g2,0,none⟩)] w fun e w'=>e=.returned (.bool (!inB x lo hi))∧w=w':=by
 unfold inB;go_enter Tryz.func108,Tryz.ntmps108
 go_wp2
 all_goals(go_ret;exact⟨fT (by rw[Bool.eq_iff_iff];simp;try omega),rfl⟩)
instance{W:World}{g1 g2:Nat}{lo hi:Int}{l:List Int}[p:BlkC W g1 3 [.int .i64 lo]][q:BlkC W g2 3 [.int .i64 hi]]:PredC Int W (.func (.func 108) #[] #[.pointer (some ⟨g1,0,none⟩),.pointer (some ⟨g2,0,none⟩)]) l (fun x=> !inB x lo hi):=
 ⟨_,_,rfl,enters_regout,fun x _ W' hE=>(vZ x g1 g2 lo hi W' (by have:=(p.h.ext hE).cell 0;simpa using this) (by have:=(q.h.ext hE).cell 0;simpa using this)).mono fun e W2 h=>⟨h.1,h.2▸Ext.refl _⟩⟩
theorem zH(lo hi:Int)(v:Value)(xs:List Int)(w:World)(h:ListV w v xs):Calls Tryz.prog 57 #[.int .i64 lo,.int .i64 hi,v] w (RB w (outB lo hi xs)):=by
 have i1:=ListB.mk h;go_enter Tryz.func57,Tryz.ntmps57
 go_wp2_with (first|(with_reducible refine aB ?_;first|rintro _ V ⟨rfl,(_:StepC _ _)⟩)|(with_reducible refine aH ?_;intro V g _ _ _))
 go_ret
 exact⟨rfl,⟨ExtC.h⟩⟩
instance{W:World}{lo hi:Int}{v:Value}{xs:List Int}[p:ListC Int W v xs]:FunC Tryz.prog 57 #[.int .i64 lo,.int .i64 hi,v] W (RB W (outB lo hi xs)):=⟨zH _ _ _ _ _ p.h⟩
end Go.Rg
end
