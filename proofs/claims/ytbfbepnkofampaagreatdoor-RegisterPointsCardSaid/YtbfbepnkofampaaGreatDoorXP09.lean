import Derived.Test.YtbfbepnkofampaaGreatDoorXP08
set_option maxRecDepth 100000
set_option linter.all false
section
namespace Go.Rg
open Go Go.Bp Go.RowKit Go.Walk Go.Proofs
class ChkC (α:Type) [Enc α] (W:World) (fv:Value) (l:List α) (e:outParam (Nat→α→Int)):Prop where
 h:∃F bd cap,fv=.func (.func F) bd cap∧(∀(args:Array Value)(W:World),(callFunc F args).run Tryz.prog W=.ok (.enter F args) W)∧∀k(hk:k<l.length),∀W',Ext W W'→Calls Tryz.prog F (bd++(#[.int .i64 k,Enc.val l[k]]++cap)) W' fun o W2=>o=.returned (.int .i64 (e k l[k]))∧Ext W' W2
set_option maxHeartbeats 1000000 in
theorem Qm(v fv:Value)(l:List Treaty)(e:Nat→Treaty→Int)(w:World)(h:ListV w v l)(hp:ChkC Treaty w fv l e):
 Calls Tryz.prog 55 #[v,fv] w (RII w (firstE l e).1 (firstE l e).2):=by
 obtain⟨A,c,rfl,h2⟩:=h.form;unfold maxLen at h2;obtain⟨F,bd,cap,rfl,hF,hp⟩:=hp.h;have Hp:=Lib.hid hp;clear hp;go_enter Tryz.func55,Tryz.ntmps55
 go_wp2
 go_loopw [10] (fun i wr=>Ext w wr∧∃k:Nat,k≤l.length∧i=.int .i64 k∧∀j(hj:j<k)(hl:j<l.length),e j l[j]=0) (fun i _=>l.length-(intOf i).toNat)
 case atStart=>exact⟨Ext.refl _,0,by omega,rfl,fun j hj=>by omega⟩
 case round=>
  obtain⟨hEr,k,hk,rfl,hn⟩:=hrel;have Hn:=Lib.hid hn;clear hn;by_cases hlt:k<l.length
  ·obtain⟨ad,rfl,hc⟩:=(h.ext hEr).elem hlt;have hcall:=fun W' hW'=>Hp.out k hlt W' (hEr.trans hW')
   obtain⟨x,hx⟩:∃x,l[k]=x:=⟨_,rfl⟩;have Ht:=Lib.hid (show e k x=0→∀j(hj:j<k+1)(hl:j<l.length),e j l[j]=0 from fun h0 j hj hl=>by
    by_cases hjk:j=k
    ·subst hjk;rw[hx];exact h0
    ·exact Hn.out j (by omega) hl)
   have Hr:=Lib.hid (show e k x≠0→firstE l e=((k:Int),e k x) from fun h0=>by
    rw[←hx] at h0⊢;exact cN hlt h0 fun i hi=>Hn.out i hi (by omega))
   rw[hx] at hc hcall;clear hx;have i8:CellsB wr (ad.add (k*5)) [.string x.name,.int .i64 x.right.cls,.int .i64 x.right.codes,.int .i64 x.days.lo,.int .i64 x.days.hi]:=⟨by first|exact hc⟩
   have Hcall:=Lib.hid hcall;clear hc hcall;obtain⟨r,hr⟩:∃r,e k x=r:=⟨_,rfl⟩;rw[hr] at Hcall Ht Hr;clear hr;go_wp2_with (first|(with_reducible refine aA ?_)|(with_reducible refine aR ?_;intro V g _ _ _)|(with_reducible refine aI ?_;intro V _ _))
   refine Calls.mono (Hcall.out _ ?_) ?_
   ·exact ExtC.h
   rintro o W1 ⟨rfl,hE1⟩;have iE:StepC _ W1:=⟨hE1⟩;by_cases hpk:r=0
   ·have Ht2:=Lib.hid (Ht.out hpk);clear Ht Hr;subst hpk;go_wp2
    go_roundw
    case rel=>exact⟨hEr.trans ExtC.h,k+1,by omega,by go_num,Ht2.out⟩
    case measure=>simp[intOf];omega
   ·have q0:(r !=0)=true:=by simp[hpk]
    have Hr2:=Lib.hid (Hr.out hpk);clear hpk Hr Ht;go_wp2
    go_ret2
    exact⟨by rw[Hr2.out];rfl,⟨hEr.trans ExtC.h⟩⟩
  ·go_wp2
   go_ret2
   exact⟨by rw[bU (f:=e) fun i hi=>Hn.out i (by omega) hi];rfl,⟨hEr⟩⟩
instance{W:World}{v fv:Value}{l:List Treaty}{e:Nat→Treaty→Int}[h:ListC Treaty W v l][q:ChkC Treaty W fv l e]:FunC Tryz.prog 55 #[v,fv] W (RII W (firstE l e).1 (firstE l e).2):=⟨Qm _ _ _ _ _ h.h q⟩
set_option maxHeartbeats 1000000 in
theorem Qq(v fv:Value)(l:List Drive)(e:Nat→Drive→Int)(w:World)(h:ListV w v l)(hp:ChkC Drive w fv l e):
 Calls Tryz.prog 79 #[v,fv] w (RII w (firstE l e).1 (firstE l e).2):=by
 obtain⟨A,c,rfl,h2⟩:=h.form;unfold maxLen at h2;obtain⟨F,bd,cap,rfl,hF,hp⟩:=hp.h;have Hp:=Lib.hid hp;clear hp;go_enter Tryz.func79,Tryz.ntmps79
 go_wp2
 go_loopw [10] (fun i wr=>Ext w wr∧∃k:Nat,k≤l.length∧i=.int .i64 k∧∀j(hj:j<k)(hl:j<l.length),e j l[j]=0) (fun i _=>l.length-(intOf i).toNat)
 case atStart=>exact⟨Ext.refl _,0,by omega,rfl,fun j hj=>by omega⟩
 case round=>
  obtain⟨hEr,k,hk,rfl,hn⟩:=hrel;have Hn:=Lib.hid hn;clear hn;by_cases hlt:k<l.length
  ·obtain⟨ad,rfl,hc⟩:=(h.ext hEr).elem hlt;have hcall:=fun W' hW'=>Hp.out k hlt W' (hEr.trans hW')
   obtain⟨x,hx⟩:∃x,l[k]=x:=⟨_,rfl⟩;have Ht:=Lib.hid (show e k x=0→∀j(hj:j<k+1)(hl:j<l.length),e j l[j]=0 from fun h0 j hj hl=>by
    by_cases hjk:j=k
    ·subst hjk;rw[hx];exact h0
    ·exact Hn.out j (by omega) hl)
   have Hr:=Lib.hid (show e k x≠0→firstE l e=((k:Int),e k x) from fun h0=>by
    rw[←hx] at h0⊢;exact cN hlt h0 fun i hi=>Hn.out i hi (by omega))
   rw[hx] at hc hcall;clear hx;have i8:CellsB wr (ad.add (k*3)) [.int .i64 x.day,.int .i64 x.cls,.int .i64 x.features]:=⟨by first|exact hc⟩
   have Hcall:=Lib.hid hcall;clear hc hcall;obtain⟨r,hr⟩:∃r,e k x=r:=⟨_,rfl⟩;rw[hr] at Hcall Ht Hr;clear hr;go_wp2_with (first|(with_reducible refine aA ?_)|(with_reducible refine aR ?_;intro V g _ _ _)|(with_reducible refine aI ?_;intro V _ _))
   refine Calls.mono (Hcall.out _ ?_) ?_
   ·exact ExtC.h
   rintro o W1 ⟨rfl,hE1⟩;have iE:StepC _ W1:=⟨hE1⟩;by_cases hpk:r=0
   ·have Ht2:=Lib.hid (Ht.out hpk);clear Ht Hr;subst hpk;go_wp2
    go_roundw
    case rel=>exact⟨hEr.trans ExtC.h,k+1,by omega,by go_num,Ht2.out⟩
    case measure=>simp[intOf];omega
   ·have q0:(r !=0)=true:=by simp[hpk]
    have Hr2:=Lib.hid (Hr.out hpk);clear hpk Hr Ht;go_wp2
    go_ret2
    exact⟨by rw[Hr2.out];rfl,⟨hEr.trans ExtC.h⟩⟩
  ·go_wp2
   go_ret2
   exact⟨by rw[bU (f:=e) fun i hi=>Hn.out i (by omega) hi];rfl,⟨hEr⟩⟩
instance{W:World}{v fv:Value}{l:List Drive}{e:Nat→Drive→Int}[h:ListC Drive W v l][q:ChkC Drive W fv l e]:FunC Tryz.prog 79 #[v,fv] W (RII W (firstE l e).1 (firstE l e).2):=⟨Qq _ _ _ _ _ h.h q⟩
set_option maxHeartbeats 1000000 in
theorem Qp(v fv:Value)(l:List Event)(e:Nat→Event→Int)(w:World)(h:ListV w v l)(hp:ChkC Event w fv l e):
 Calls Tryz.prog 116 #[v,fv] w (RII w (firstE l e).1 (firstE l e).2):=by
 obtain⟨A,c,rfl,h2⟩:=h.form;unfold maxLen at h2;obtain⟨F,bd,cap,rfl,hF,hp⟩:=hp.h;have Hp:=Lib.hid hp;clear hp;go_enter Tryz.func116,Tryz.ntmps116
 go_wp2
 go_loopw [10] (fun i wr=>Ext w wr∧∃k:Nat,k≤l.length∧i=.int .i64 k∧∀j(hj:j<k)(hl:j<l.length),e j l[j]=0) (fun i _=>l.length-(intOf i).toNat)
 case atStart=>exact⟨Ext.refl _,0,by omega,rfl,fun j hj=>by omega⟩
 case round=>
  obtain⟨hEr,k,hk,rfl,hn⟩:=hrel;have Hn:=Lib.hid hn;clear hn;by_cases hlt:k<l.length
  ·obtain⟨ad,rfl,hc⟩:=(h.ext hEr).elem hlt;have hcall:=fun W' hW'=>Hp.out k hlt W' (hEr.trans hW')
   obtain⟨x,hx⟩:∃x,l[k]=x:=⟨_,rfl⟩;have Ht:=Lib.hid (show e k x=0→∀j(hj:j<k+1)(hl:j<l.length),e j l[j]=0 from fun h0 j hj hl=>by
    by_cases hjk:j=k
    ·subst hjk;rw[hx];exact h0
    ·exact Hn.out j (by omega) hl)
   have Hr:=Lib.hid (show e k x≠0→firstE l e=((k:Int),e k x) from fun h0=>by
    rw[←hx] at h0⊢;exact cN hlt h0 fun i hi=>Hn.out i hi (by omega))
   rw[hx] at hc hcall;clear hx;have i8:CellsB wr (ad.add (k*9)) [.int .i64 x.kind,.int .i64 x.day,.int .i64 x.right.cls,.int .i64 x.right.codes,.int .i64 x.treaty,.int .i64 x.cls,.int .i64 x.points,.int .i64 x.until_,.int .i64 x.minute]:=⟨by first|exact hc⟩
   have Hcall:=Lib.hid hcall;clear hc hcall;obtain⟨r,hr⟩:∃r,e k x=r:=⟨_,rfl⟩;rw[hr] at Hcall Ht Hr;clear hr;go_wp2_with (first|(with_reducible refine aA ?_)|(with_reducible refine aR ?_;intro V g _ _ _)|(with_reducible refine aI ?_;intro V _ _))
   refine Calls.mono (Hcall.out _ ?_) ?_
   ·exact ExtC.h
   rintro o W1 ⟨rfl,hE1⟩;have iE:StepC _ W1:=⟨hE1⟩;by_cases hpk:r=0
   ·have Ht2:=Lib.hid (Ht.out hpk);clear Ht Hr;subst hpk;go_wp2
    go_roundw
    case rel=>exact⟨hEr.trans ExtC.h,k+1,by omega,by go_num,Ht2.out⟩
    case measure=>simp[intOf];omega
   ·have q0:(r !=0)=true:=by simp[hpk]
    have Hr2:=Lib.hid (Hr.out hpk);clear hpk Hr Ht;go_wp2
    go_ret2
    exact⟨by rw[Hr2.out];rfl,⟨hEr.trans ExtC.h⟩⟩
  ·go_wp2
   go_ret2
   exact⟨by rw[bU (f:=e) fun i hi=>Hn.out i (by omega) hi];rfl,⟨hEr⟩⟩
instance{W:World}{v fv:Value}{l:List Event}{e:Nat→Event→Int}[h:ListC Event W v l][q:ChkC Event W fv l e]:FunC Tryz.prog 116 #[v,fv] W (RII W (firstE l e).1 (firstE l e).2):=⟨Qp _ _ _ _ _ h.h q⟩
set_option maxHeartbeats 1000000 in
theorem Qr(v fv:Value)(l:List ClsA)(e:Nat→ClsA→Int)(w:World)(h:ListV w v l)(hp:ChkC ClsA w fv l e):
 Calls Tryz.prog 165 #[v,fv] w (RII w (firstE l e).1 (firstE l e).2):=by
 obtain⟨A,c,rfl,h2⟩:=h.form;unfold maxLen at h2;obtain⟨F,bd,cap,rfl,hF,hp⟩:=hp.h;have Hp:=Lib.hid hp;clear hp;go_enter Tryz.func165,Tryz.ntmps165
 go_wp2
 go_loopw [10] (fun i wr=>Ext w wr∧∃k:Nat,k≤l.length∧i=.int .i64 k∧∀j(hj:j<k)(hl:j<l.length),e j l[j]=0) (fun i _=>l.length-(intOf i).toNat)
 case atStart=>exact⟨Ext.refl _,0,by omega,rfl,fun j hj=>by omega⟩
 case round=>
  obtain⟨hEr,k,hk,rfl,hn⟩:=hrel;have Hn:=Lib.hid hn;clear hn;by_cases hlt:k<l.length
  ·obtain⟨ad,rfl,hc⟩:=(h.ext hEr).elem hlt;have hcall:=fun W' hW'=>Hp.out k hlt W' (hEr.trans hW')
   obtain⟨x,hx⟩:∃x,l[k]=x:=⟨_,rfl⟩;have Ht:=Lib.hid (show e k x=0→∀j(hj:j<k+1)(hl:j<l.length),e j l[j]=0 from fun h0 j hj hl=>by
    by_cases hjk:j=k
    ·subst hjk;rw[hx];exact h0
    ·exact Hn.out j (by omega) hl)
   have Hr:=Lib.hid (show e k x≠0→firstE l e=((k:Int),e k x) from fun h0=>by
    rw[←hx] at h0⊢;exact cN hlt h0 fun i hi=>Hn.out i hi (by omega))
   rw[hx] at hc hcall;clear hx;have i8:CellsB wr (ad.add (k*5)) [.string x.c.name,.slice x.a x.c.incl.length x.k,.int .i64 x.c.needs,.int .i64 x.c.age,.int .i64 x.c.term]:=⟨by first|exact hc⟩
   have Hcall:=Lib.hid hcall;clear hc hcall;obtain⟨r,hr⟩:∃r,e k x=r:=⟨_,rfl⟩;rw[hr] at Hcall Ht Hr;clear hr;go_wp2_with (first|(with_reducible refine aA ?_)|(with_reducible refine aR ?_;intro V g _ _ _)|(with_reducible refine aI ?_;intro V _ _))
   refine Calls.mono (Hcall.out _ ?_) ?_
   ·exact ExtC.h
   rintro o W1 ⟨rfl,hE1⟩;have iE:StepC _ W1:=⟨hE1⟩;by_cases hpk:r=0
   ·have Ht2:=Lib.hid (Ht.out hpk);clear Ht Hr;subst hpk;go_wp2
    go_roundw
    case rel=>exact⟨hEr.trans ExtC.h,k+1,by omega,by go_num,Ht2.out⟩
    case measure=>simp[intOf];omega
   ·have q0:(r !=0)=true:=by simp[hpk]
    have Hr2:=Lib.hid (Hr.out hpk);clear hpk Hr Ht;go_wp2
    go_ret2
    exact⟨by rw[Hr2.out];rfl,⟨hEr.trans ExtC.h⟩⟩
  ·go_wp2
   go_ret2
   exact⟨by rw[bU (f:=e) fun i hi=>Hn.out i (by omega) hi];rfl,⟨hEr⟩⟩
instance{W:World}{v fv:Value}{l:List ClsA}{e:Nat→ClsA→Int}[h:ListC ClsA W v l][q:ChkC ClsA W fv l e]:FunC Tryz.prog 165 #[v,fv] W (RII W (firstE l e).1 (firstE l e).2):=⟨Qr _ _ _ _ _ h.h q⟩
set_option maxHeartbeats 1000000 in
theorem Qn(v fv:Value)(l:List ByteArray)(e:Nat→ByteArray→Int)(w:World)(h:ListV w v l)(hp:ChkC ByteArray w fv l e):
 Calls Tryz.prog 167 #[v,fv] w (RII w (firstE l e).1 (firstE l e).2):=by
 obtain⟨A,c,rfl,h2⟩:=h.form;unfold maxLen at h2;obtain⟨F,bd,cap,rfl,hF,hp⟩:=hp.h;have Hp:=Lib.hid hp;clear hp;go_enter Tryz.func167,Tryz.ntmps167
 go_wp2
 go_loopw [10] (fun i wr=>Ext w wr∧∃k:Nat,k≤l.length∧i=.int .i64 k∧∀j(hj:j<k)(hl:j<l.length),e j l[j]=0) (fun i _=>l.length-(intOf i).toNat)
 case atStart=>exact⟨Ext.refl _,0,by omega,rfl,fun j hj=>by omega⟩
 case round=>
  obtain⟨hEr,k,hk,rfl,hn⟩:=hrel;have Hn:=Lib.hid hn;clear hn;by_cases hlt:k<l.length
  ·obtain⟨ad,rfl,hc⟩:=(h.ext hEr).elem hlt;have hcall:=fun W' hW'=>Hp.out k hlt W' (hEr.trans hW')
   obtain⟨x,hx⟩:∃x,l[k]=x:=⟨_,rfl⟩;have Ht:=Lib.hid (show e k x=0→∀j(hj:j<k+1)(hl:j<l.length),e j l[j]=0 from fun h0 j hj hl=>by
    by_cases hjk:j=k
    ·subst hjk;rw[hx];exact h0
    ·exact Hn.out j (by omega) hl)
   have Hr:=Lib.hid (show e k x≠0→firstE l e=((k:Int),e k x) from fun h0=>by
    rw[←hx] at h0⊢;exact cN hlt h0 fun i hi=>Hn.out i hi (by omega))
   rw[hx] at hc hcall;clear hx;have i8:CellsB wr (ad.add (k)) [.string x]:=⟨by first|simpa [Enc.size,Enc.enc] using hc⟩
   have Hcall:=Lib.hid hcall;clear hc hcall;obtain⟨r,hr⟩:∃r,e k x=r:=⟨_,rfl⟩;rw[hr] at Hcall Ht Hr;clear hr;go_wp2_with (first|(with_reducible refine aA ?_))
   refine Calls.mono (Hcall.out _ ?_) ?_
   ·exact ExtC.h
   rintro o W1 ⟨rfl,hE1⟩;have iE:StepC _ W1:=⟨hE1⟩;by_cases hpk:r=0
   ·have Ht2:=Lib.hid (Ht.out hpk);clear Ht Hr;subst hpk;go_wp2
    go_roundw
    case rel=>exact⟨hEr.trans ExtC.h,k+1,by omega,by go_num,Ht2.out⟩
    case measure=>simp[intOf];omega
   ·have q0:(r !=0)=true:=by simp[hpk]
    have Hr2:=Lib.hid (Hr.out hpk);clear hpk Hr Ht;go_wp2
    go_ret2
    exact⟨by rw[Hr2.out];rfl,⟨hEr.trans ExtC.h⟩⟩
  ·go_wp2
   go_ret2
   exact⟨by rw[bU (f:=e) fun i hi=>Hn.out i (by omega) hi];rfl,⟨hEr⟩⟩
instance{W:World}{v fv:Value}{l:List ByteArray}{e:Nat→ByteArray→Int}[h:ListC ByteArray W v l][q:ChkC ByteArray W fv l e]:FunC Tryz.prog 167 #[v,fv] W (RII W (firstE l e).1 (firstE l e).2):=⟨Qn _ _ _ _ _ h.h q⟩
set_option maxHeartbeats 1000000 in
theorem Qo(v fv:Value)(l:List Right)(e:Nat→Right→Int)(w:World)(h:ListV w v l)(hp:ChkC Right w fv l e):
 Calls Tryz.prog 222 #[v,fv] w (RII w (firstE l e).1 (firstE l e).2):=by
 obtain⟨A,c,rfl,h2⟩:=h.form;unfold maxLen at h2;obtain⟨F,bd,cap,rfl,hF,hp⟩:=hp.h;have Hp:=Lib.hid hp;clear hp;go_enter Tryz.func222,Tryz.ntmps222
 go_wp2
 go_loopw [10] (fun i wr=>Ext w wr∧∃k:Nat,k≤l.length∧i=.int .i64 k∧∀j(hj:j<k)(hl:j<l.length),e j l[j]=0) (fun i _=>l.length-(intOf i).toNat)
 case atStart=>exact⟨Ext.refl _,0,by omega,rfl,fun j hj=>by omega⟩
 case round=>
  obtain⟨hEr,k,hk,rfl,hn⟩:=hrel;have Hn:=Lib.hid hn;clear hn;by_cases hlt:k<l.length
  ·obtain⟨ad,rfl,hc⟩:=(h.ext hEr).elem hlt;have hcall:=fun W' hW'=>Hp.out k hlt W' (hEr.trans hW')
   obtain⟨x,hx⟩:∃x,l[k]=x:=⟨_,rfl⟩;have Ht:=Lib.hid (show e k x=0→∀j(hj:j<k+1)(hl:j<l.length),e j l[j]=0 from fun h0 j hj hl=>by
    by_cases hjk:j=k
    ·subst hjk;rw[hx];exact h0
    ·exact Hn.out j (by omega) hl)
   have Hr:=Lib.hid (show e k x≠0→firstE l e=((k:Int),e k x) from fun h0=>by
    rw[←hx] at h0⊢;exact cN hlt h0 fun i hi=>Hn.out i hi (by omega))
   rw[hx] at hc hcall;clear hx;have i8:CellsB wr (ad.add (k*2)) [.int .i64 x.cls,.int .i64 x.codes]:=⟨by first|exact hc⟩
   have Hcall:=Lib.hid hcall;clear hc hcall;obtain⟨r,hr⟩:∃r,e k x=r:=⟨_,rfl⟩;rw[hr] at Hcall Ht Hr;clear hr;go_wp2_with (first|(with_reducible refine aA ?_)|(with_reducible refine aR ?_;intro V g _ _ _)|(with_reducible refine aI ?_;intro V _ _))
   refine Calls.mono (Hcall.out _ ?_) ?_
   ·exact ExtC.h
   rintro o W1 ⟨rfl,hE1⟩;have iE:StepC _ W1:=⟨hE1⟩;by_cases hpk:r=0
   ·have Ht2:=Lib.hid (Ht.out hpk);clear Ht Hr;subst hpk;go_wp2
    go_roundw
    case rel=>exact⟨hEr.trans ExtC.h,k+1,by omega,by go_num,Ht2.out⟩
    case measure=>simp[intOf];omega
   ·have q0:(r !=0)=true:=by simp[hpk]
    have Hr2:=Lib.hid (Hr.out hpk);clear hpk Hr Ht;go_wp2
    go_ret2
    exact⟨by rw[Hr2.out];rfl,⟨hEr.trans ExtC.h⟩⟩
  ·go_wp2
   go_ret2
   exact⟨by rw[bU (f:=e) fun i hi=>Hn.out i (by omega) hi];rfl,⟨hEr⟩⟩
instance{W:World}{v fv:Value}{l:List Right}{e:Nat→Right→Int}[h:ListC Right W v l][q:ChkC Right W fv l e]:FunC Tryz.prog 222 #[v,fv] W (RII W (firstE l e).1 (firstE l e).2):=⟨Qo _ _ _ _ _ h.h q⟩
theorem jF(n lo hi:Int)(w:World):Calls Tryz.prog 109 #[.int .i64 n,.int .i64 lo,.int .i64 hi] w fun e w'=>e=.returned (.bool (inB n lo hi))∧w=w':=by
 unfold inB;go_enter Tryz.func109,Tryz.ntmps109
 go_wp2
 all_goals(go_ret;exact⟨by simp;omega,rfl⟩)
theorem xC(n lo hi:Int)(w:World):Calls Tryz.prog 60 #[.int .i64 n,.int .i64 lo,.int .i64 hi] w fun e w'=>e=.returned (.bool (inB n lo hi))∧w=w':=by
 unfold inB;go_enter Tryz.func60,Tryz.ntmps60
 go_wp2
 all_goals(go_ret;exact⟨by simp;omega,rfl⟩)
instance{W:World}{n lo hi:Int}:FunC Tryz.prog 109 #[.int .i64 n,.int .i64 lo,.int .i64 hi] W (RB W (inB n lo hi)):=⟨(jF _ _ _ _).mono fun e W' ⟨h,hE⟩=>⟨h,⟨hE▸Ext.refl _⟩⟩⟩
instance{W:World}{n lo hi:Int}:FunC Tryz.prog 60 #[.int .i64 n,.int .i64 lo,.int .i64 hi] W (RB W (inB n lo hi)):=⟨(xC _ _ _ _).mono fun e W' ⟨h,hE⟩=>⟨h,⟨hE▸Ext.refl _⟩⟩⟩
theorem qR{s:ByteArray}(h:inB s.size 1 16=false):isName s=false:=by simp[isName,h]
theorem sV{s:ByteArray}(h0:0<s.size)(h:inB s[0].toNat 97 122=false):isName s=false:=by
 unfold isName
 cases hl:s.data.toList with
 |nil=>simp
 |cons b r=>
  have:s[0]=b:=by
   have:s.data.toList[0]'(by rw[hl];simp)=b:=by simp[hl]
   show s.data[0]=b;simpa using this
  rw[this] at h;simp[h]
theorem sW{s:ByteArray}{k:Nat}(hk:k<s.size)(h:nameCh s[k]=false):isName s=false:=by
 unfold isName;have:s.data.toList.all nameCh=false:=by
  rw[List.all_eq_false];exact⟨s[k],by rw[List.mem_iff_getElem];exact⟨k,by simpa using hk,rfl⟩,by simp[h]⟩
 simp[this]
theorem qQ{s:ByteArray}(h1:inB s.size 1 16=true)(h0:0<s.size)(h:inB s[0].toNat 97 122=true)(ha:∀k(hk:k<s.size),nameCh s[k]=true):isName s=true:=by
 unfold isName
 cases hl:s.data.toList with
 |nil=>
  have:s.data.toList.length=0:=by rw[hl];rfl
  rw[Array.length_toList] at this;exact absurd h0 (by show¬0<s.data.size;omega)
 |cons b r=>
  have hb:s[0]=b:=by
   have:s.data.toList[0]'(by rw[hl];simp)=b:=by simp[hl]
   show s.data[0]=b;simpa using this
  have:(b::r).all nameCh=true:=by
   rw[←hl,List.all_eq_true];intro x hx;obtain⟨k,hk,rfl⟩:=List.mem_iff_getElem.1 hx;exact ha k (by simpa using hk)
  rw[hb] at h;simp only[h1,h,this,Bool.and_self]
set_option maxHeartbeats 1000000 in
theorem tG(s:ByteArray)(w:World)(hs:s.size≤maxLen):Calls Tryz.prog 111 #[.string s] w fun e w'=>e=.returned (.bool (isName s))∧w=w':=by
 unfold maxLen at hs;by_cases h1:inB s.size 1 16=true
 ·have hz:=inB_t.1 h1;obtain⟨hz1,hz2⟩:=hz;have hb0:s[0].toNat<256:=UInt8.toNat_lt _;by_cases h2:inB s[0].toNat 97 122=true
  ·go_enter Tryz.func111,Tryz.ntmps111
   go_wp2_with (go_at_call 109;refine(jF _ _ _ _).mono ?_;rintro e w' ⟨rfl,rfl⟩)
   go_loop [3] (fun i=>∃k:Nat,k≤s.size∧i=.int .i64 k∧∀j(hj:j<s.size),j<k→nameCh s[j]=true) (fun i=>s.size-(intOf i).toNat)
   case atStart=>exact⟨0,by omega,rfl,by omega⟩
   case round=>
    obtain⟨k,hk,rfl,hn⟩:=hrel;have Hn:=Lib.hid hn;clear hn;by_cases hlt:k<s.size
    ·have hbk:s[k].toNat<256:=UInt8.toNat_lt _;by_cases h3:inB s[k].toNat 97 122=true
     ·go_wp2_with (go_at_call 109;refine(jF _ _ _ _).mono ?_;rintro e w' ⟨rfl,rfl⟩)
      go_round
      case rel=>exact⟨k+1,by omega,by go_num,fun j hj hjk=>by
       by_cases e:j=k;·subst e;simp[nameCh,h3]
       ·exact Hn.out j hj (by omega)⟩
      case measure=>simp[intOf];omega
     ·simp only[Bool.not_eq_true] at h3;by_cases h4:inB s[k].toNat 48 57=true
      ·go_wp2_with (go_at_call 109;refine(jF _ _ _ _).mono ?_;rintro e w' ⟨rfl,rfl⟩)
       go_round
       case rel=>exact⟨k+1,by omega,by go_num,fun j hj hjk=>by
        by_cases e:j=k;·subst e;simp[nameCh,h4]
        ·exact Hn.out j hj (by omega)⟩
       case measure=>simp[intOf];omega
      ·simp only[Bool.not_eq_true] at h4;have hf:=sW hlt (by simp[nameCh,h3,h4])
       go_wp2_with (go_at_call 109;refine(jF _ _ _ _).mono ?_;rintro e w' ⟨rfl,rfl⟩)
       go_ret
       exact⟨by simp[hf],rfl⟩
    ·go_wp2
     go_ret
     have:=qQ h1 (by omega) h2 (fun j hj=>Hn.out j hj (by omega))
     exact⟨by simp[this],rfl⟩
  ·simp only[Bool.not_eq_true] at h2;have hf:=sV (by omega) h2
   go_enter Tryz.func111,Tryz.ntmps111
   go_wp2_with (go_at_call 109;refine(jF _ _ _ _).mono ?_;rintro e w' ⟨rfl,rfl⟩)
   go_ret
   exact⟨by simp[hf],rfl⟩
 ·simp only[Bool.not_eq_true] at h1;have hf:=qR h1;go_enter Tryz.func111,Tryz.ntmps111
  go_wp2_with (go_at_call 109;refine(jF _ _ _ _).mono ?_;rintro e w' ⟨rfl,rfl⟩)
  go_ret
  exact⟨by simp[hf],rfl⟩
def chAt(k:Nat)(b:UInt8):Bool:=if k=0 then inB b.toNat 97 122 else nameCh b
theorem An{s:ByteArray}{k:Nat}(hk:k<s.size)(h:chAt k s[k]=false):isName s=false:=by
 unfold chAt at h;split at h
 ·rename_i h0;subst h0;exact sV hk h
 ·exact sW hk h
theorem xB{s:ByteArray}(h1:inB s.size 1 16=true)(h:∀k(hk:k<s.size),chAt k s[k]=true):isName s=true:=by
 have h0:0<s.size:=by have:=inB_t.1 h1;omega
 refine qQ h1 h0 (by simpa [chAt] using h 0 h0) fun k hk=> ?_
 by_cases e:k=0
 ·subst e;have:=h 0 h0;simp only[chAt,if_true] at this;simp[nameCh,this]
 ·have:=h k hk;simpa [chAt,e] using this
theorem gH(w:World)(s:ByteArray)(k:Nat):Ext w (w.iter s k):=Ext.ofAlloc _ _
set_option maxHeartbeats 2000000 in
theorem Gn(s:ByteArray)(w:World)(hs:s.size≤maxLen):Calls Tryz.prog 103 #[.string s] w fun e w'=>e=.returned (.bool (isName s))∧Ext w w':=by
 unfold maxLen at hs;go_enter Tryz.func103,Tryz.ntmps103
 go_wp2
 go_loopw [3] (fun i wr=>∃k:Nat,k≤s.size∧wr=w.iter s k∧∀j(hj:j<s.size),j<k→chAt j s[j]=true) (fun _ wr=>s.size-wr.iterPos w.heap.size)
 case atStart=>exact⟨0,by omega,rfl,by omega⟩
 case round=>
  obtain⟨k,hk,rfl,hn⟩:=hrel;have Hn:=Lib.hid hn;clear hn;by_cases hlt:k<s.size
  ·by_cases hc:chAt k s[k]=true
   ·have ha:s[k].toNat<128:=by
     unfold chAt at hc;split at hc
     ·have:=inB_t.1 hc;omega
     ·unfold nameCh at hc;rw[Bool.or_eq_true] at hc;rcases hc with hc|hc<;>(have:=inB_t.1 hc;omega)
    have hx:=run_next_ascii (P:=Tryz.prog) w s k 0 hlt ha;obtain⟨r,hr⟩:∃r:Nat,s[k].toNat=r:=⟨_,rfl⟩;have Hc:=Lib.hid hc;rw[hr] at hx ha;have key:(97≤r∧r≤122)∨(k≠0∧48≤r∧r≤57):=by
     unfold chAt at hc;split at hc
     ·have:=inB_t.1 hc;omega
     ·rename_i hk0;unfold nameCh at hc;rw[Bool.or_eq_true] at hc;rcases hc with hc|hc
      ·have:=inB_t.1 hc;omega
      ·have:=inB_t.1 hc;exact .inr ⟨hk0,by omega⟩
    clear hr hc;rcases key with ⟨c1,c2⟩|⟨c0,c1,c2⟩
    ·have d1:¬((r:Int)<97):=by omega
     have d2:¬((122:Int)<r):=by omega
     go_wp2
     go_roundw
     case rel=>exact⟨k+1,by omega,rfl,fun j hj hjk=>by
      by_cases e:j=k;·subst e;exact Hc.out
      ·exact Hn.out j hj (by omega)⟩
     case measure=>simp;omega
    ·have d0:((k:Int)==0)=false:=by simp;omega
     have d1:(r:Int)<97:=by omega
     have d2:¬((r:Int)<48):=by omega
     have d3:¬((57:Int)<r):=by omega
     go_wp2
     go_roundw
     case rel=>exact⟨k+1,by omega,rfl,fun j hj hjk=>by
      by_cases e:j=k;·subst e;exact Hc.out
      ·exact Hn.out j hj (by omega)⟩
     case measure=>simp;omega
   ·simp only[Bool.not_eq_true] at hc;have Hf:=Lib.hid (An hlt hc);have hx:=run_next_any (P:=Tryz.prog) w s k 0 hlt;have key:((Utf8.decode s k).1<97∨122<(Utf8.decode s k).1)∧(k=0∨(Utf8.decode s k).1<48∨57<(Utf8.decode s k).1):=by
     by_cases ha:s[k].toNat<128
     ·rw[decode_ascii s k hlt ha];unfold chAt at hc;split at hc
      ·rename_i h0;have:=inB_f.1 hc;exact⟨by omega,.inl h0⟩
      ·unfold nameCh at hc;rw[Bool.or_eq_false_iff] at hc;have h1:=inB_f.1 hc.1;have h2:=inB_f.1 hc.2;exact⟨by omega,by omega⟩
     ·have:=(decode_high s k hlt (by omega)).1
      exact⟨by omega,by omega⟩
    have hle:=decode_le s k;obtain⟨r,hr⟩:∃r,(Utf8.decode s k).1=r:=⟨_,rfl⟩;obtain⟨dd,hd⟩:∃d,(Utf8.decode s k).2=d:=⟨_,rfl⟩;rw[hr] at hx key hle;rw[hd] at hx;clear hr hd hc;obtain⟨k1,k2⟩:=key;have fin:∀W,W=w.iter s (k+dd)→Ext w W:=fun W h=>h▸gH _ _ _
    by_cases c0:k=0
    ·have d0:((k:Int)==0)=true:=by simp[c0]
     have C0:=Lib.hid c0;clear c0;rcases k1 with c1|c1
     ·have d1:(r:Int)<97:=by omega
      go_wp2
      go_ret
      exact⟨fT Hf.out.symm,gH _ _ _⟩
     ·have d1:¬((r:Int)<97):=by omega
      have d2:(122:Int)<r:=by omega
      go_wp2
      go_ret
      exact⟨fT Hf.out.symm,gH _ _ _⟩
    ·have d0:((k:Int)==0)=false:=by simp;omega
     rcases k1 with c1|c1
     ·have d1:(r:Int)<97:=by omega
      by_cases c2:r<48
      ·have d2:(r:Int)<48:=by omega
       go_wp2
       go_ret
       exact⟨fT Hf.out.symm,gH _ _ _⟩
      ·have d2:¬((r:Int)<48):=by omega
       have d3:(57:Int)<r:=by omega
       go_wp2
       go_ret
       exact⟨fT Hf.out.symm,gH _ _ _⟩
     ·have d1:¬((r:Int)<97):=by omega
      have d2:(122:Int)<r:=by omega
      have d3:¬((r:Int)<48):=by omega
      have d4:(57:Int)<r:=by omega
      go_wp2
      go_ret
      exact⟨fT Hf.out.symm,gH _ _ _⟩
  ·obtain rfl:k=s.size:=by omega
   have hx:=run_next_end (P:=Tryz.prog) w s s.size 0 (by omega)
   have hEi:=gH w s s.size;obtain⟨Wl,hWl⟩:∃W,W=w.iter s s.size:=⟨_,rfl⟩;have hr:isName s=inB s.size 1 16:=by
    cases hz:inB s.size 1 16 with
    |true=>exact xB hz (fun j hj=>Hn.out j hj hj)
    |false=>exact qR hz
   have Hr:=Lib.hid hr;clear hr;rw[←hWl] at hEi hx⊢;clear hWl;obtain⟨W0,hW0⟩:∃W,W=w:=⟨_,rfl⟩;have iE:StepC w Wl:=⟨hEi⟩;clear hW0;go_wp2_with (first|(with_reducible refine aB ?_;first|rintro _ V ⟨rfl,(_:StepC _ _)⟩)|(with_reducible refine aD ?_;intro V g _ _ _))
   go_ret
   exact⟨fT (by rw[Hr.out,bL];simp),ExtC.h⟩
end Go.Rg
end
section
namespace Go.Rg
open Go.Bp
namespace Rules
variable{r:Rules}
theorem jH{born:Int}{l:List Event}{g:Grant}:∀(xs:List Event)(o:List Grant),g∈r.grantsTo born l xs o→
 g∈o∨∃x∈xs,(x.kind=0∨x.kind=1)∧g.day=x.day∧g.right=r.rightOf x∧∃o',g.reason=r.reasonOf born l o' x (r.rightOf x)
 | [],o,h=>.inl h
 |x::xs,o,h=>by
  unfold grantsTo at h;split at h
  ·rename_i hk;rcases jH xs _ h with h|⟨y,hy,h⟩
   ·rcases List.mem_append.1 h with h|h
    ·exact .inl h
    ·rw[List.mem_singleton] at h;subst h;exact .inr ⟨x,List.mem_cons_self,hk,rfl,rfl,o,rfl⟩
   ·exact .inr ⟨y,List.mem_cons_of_mem _ hy,h⟩
  ·rcases jH xs _ h with h|⟨y,hy,h⟩
   ·exact .inl h
   ·exact .inr ⟨y,List.mem_cons_of_mem _ hy,h⟩
end Rules
end Go.Rg
end
section
namespace Go.Rg
open Go.Bp
namespace Sys
variable{s:Sys}
def one(s:Sys)(r:Right)(c f:Int):Bool:=s.covers r.cls c&&decide (r.codes.toNat&&&f.toNat=0)
theorem allow_any(l:List Right)(c f:Int):s.allow l c f=l.any fun r=>s.one r c f:=rfl
theorem right_in{r:Right}(h:s.rightErr r=0):(0≤r.cls∧r.cls<s.classes.length)∧0≤r.codes∧r.codes<s.sets:=by
 obtain⟨h1,h2⟩:=right_0 h;have h1:=inB_t.1 h1;have h2:=inB_t.1 h2;omega
theorem rights_0{l:List Right}(hn:l.length≤40)(hl:∀r∈l,s.rightErr r=0):s.rightsErr l=0:=by
 unfold rightsErr;rw[if_neg (by omega),bU (fun i hi=>hl _ (List.getElem_mem hi))]
theorem least_len{l:List Right}(hl:∀r∈l,s.rightErr r=0):(s.least l).length≤l.length:=by
 have h2:(s.ordered l).Nodup:=(ordered_sorted l).imp (fun{a b}h e=>by subst e;exact qN _ h)
 have:(s.ordered l).length≤l.length:=List.Nodup.length_le_of_subset h2 fun y hy=>(ordered_mem hl y).1 hy
 exact Nat.le_trans (List.length_filter_le _ _) this
end Sys
namespace Rules
variable{r:Rules}
theorem right_event(ho:r.Ok){born:Int}{x:Event}(h:r.eventErr born x=0)(hk:x.kind=0∨x.kind=1):r.sys.rightErr (r.rightOf x)=0:=by
 obtain⟨_,hs⟩:=bI h;rcases hs with ⟨y,m,e,hy,_⟩|⟨i,e,h1,h2⟩|⟨i,e,_⟩|⟨i,e,_⟩|⟨i,e,_⟩<;>rw[e] at hk⊢
 ·exact hy
 ·unfold rightOf;rw[if_pos rfl];obtain⟨hi,e2⟩:=sG (r:=r) ⟨h1,h2⟩;simp only;rw[e2];exact(treatyErr_0 (ho.treaty _ hi)).2.2.1
 ·simp at hk
 ·simp at hk
 ·simp at hk
theorem grants_len(born:Int)(l:List Event):∀(xs:List Event)(o:List Grant),(r.grantsTo born l xs o).length≤o.length+xs.length
 | [],o=>by simp[grantsTo]
 |x::xs,o=>by
  unfold grantsTo;split
  ·have:=grants_len born l xs (o++ [⟨x.day,r.rightOf x,r.reasonOf born l o x (r.rightOf x),r.renewed l (r.rightOf x) x.day l (r.endOf x.day (r.rightOf x).cls)⟩]);simp at this⊢;omega
  ·have:=grants_len born l xs o;simp;omega
theorem held_ok{p:Person}(h:r.personErr p=0)(day:Int):(∀y∈heldL (r.grants p.born (sortE p.events)) day,r.sys.rightErr y=0)∧(heldL (r.grants p.born (sortE p.events)) day).length≤30:=by
 obtain⟨h1,_,h3,h4⟩:=person_ok h;constructor
 ·intro y hy;unfold heldL at hy;obtain⟨g,hg,rfl⟩:=List.mem_map.1 hy;unfold grants at hg;rcases jH _ _ (List.mem_filter.1 hg).1 with h|⟨x,hx,hk,_,hr,_⟩
  ·cases h
  ·rw[hr];exact right_event (ok_of h1) (h4 x ((cZ _ _).1 hx)) hk
 ·unfold heldL;rw[List.length_map];refine Nat.le_trans (List.length_filter_le _ _) (Nat.le_trans (grants_len _ _ _ []) ?_);have:=sortE_len p.events;simp;omega
theorem reason_in{born:Int}{l:List Event}{o:List Grant}{x:Event}{y:Right}:r.reasonOf born l o x y=0∨4≤r.reasonOf born l o x y∧r.reasonOf born l o x y≤7:=by
 unfold reasonOf;simp only;split;·omega
 split;·omega
 split;·omega
 split<;>omega
theorem drive_ok{p:Person}{d:Drive}(h:r.driveErr p d=0):(0≤d.day∧d.day≤40000)∧p.born≤d.day∧(0≤d.cls∧d.cls<r.sys.classes.length)∧0≤d.features∧d.features<r.sys.sets:=by
 unfold driveErr at h;split at h;·omega
 split at h;·omega
 split at h;·omega
 split at h;·omega
 rename_i h1 h2 h3 h4;simp only[Bool.not_eq_false] at h1 h3 h4;have:=inB_t.1 h1;have:=inB_t.1 h3;have:=inB_t.1 h4;omega
end Rules
end Go.Rg
end
section
namespace Go.Rg
open Go.Bp
namespace Rules
variable{r:Rules}
theorem endOf_le{day cls:Int}(ht:0≤(r.sys.at_ cls).term∧(r.sys.at_ cls).term≤100)(h0:0≤day)(h:day≤40000):r.endOf day cls≤40001:=by
 unfold endOf;simp only;split
 ·omega
 ·split
  ·rename_i h1;rcases eV h0 h ht.1 ht.2 with ⟨e1,_⟩|⟨_,e1,e2⟩
   ·rw[e1] at h1;simp at h1
   ·omega
  ·omega
theorem endOf_gt{day cls:Int}(ht:0≤(r.sys.at_ cls).term∧(r.sys.at_ cls).term≤100)(h0:0≤day)(h:day≤40000):day<r.endOf day cls:=by
 unfold endOf;simp only;split
 ·omega
 ·split
  ·rename_i hne hn;rcases eV h0 h ht.1 ht.2 with ⟨e1,_⟩|⟨hy,e1,_⟩
   ·rw[e1] at hn;simp at hn
   rw[e1];simp only;obtain⟨v,v2,v3⟩:=fG h0 h;have V:=kB h0 h ht.1 (by omega)
   rcases Int.lt_or_le day (ord ((dateOf day).year+(r.sys.at_ cls).term) (dateOf day).month (min (dateOf day).day (monthLen (leap ((dateOf day).year+(r.sys.at_ cls).term)) (dateOf day).month))) with h|h
   ·exact h
   ·have:=(qH V v).1 (by omega)
    omega
  ·omega
theorem isOff_filter(l:List Event)(d:Int):ptsOn l d=sumL (((l.filter isOff).filter fun x=>decide (x.day=d)).map fun x=>x.points):=by
 unfold ptsOn;rw[List.filter_filter];congr 2
 apply List.filter_congr;intro x _;rw[Bool.and_comm]
theorem renewed_filter{l:List Event}{y:Right}{day:Int}:∀(zs:List Event)(e:Int),r.renewed l y day zs e=r.renewed l y day (zs.filter fun x=>decide (x.kind=2)) e
 | [],e=>rfl
 |z::zs,e=>by
  rw[List.filter_cons];by_cases hk:z.kind=2
  ·rw[if_pos (by simpa using hk),renewed,renewed];exact renewed_filter zs _
  ·rw[if_neg (by simpa using hk),renewed,if_neg (fun h=>hk h.1)];exact renewed_filter zs _
end Rules
end Go.Rg
end
section
namespace Go.Rg
open Go.Bp
structure Cut(D:Int)(a b:List Event):Prop where
 le:∀x∈a,x.day≤D
 gt:∀x∈b,D<x.day
namespace Rules
variable{r:Rules}{D:Int}{a b:List Event}
theorem renewed_append{l:List Event}{y:Right}{day:Int}:∀(zs ws:List Event)(e:Int),r.renewed l y day (zs++ws) e=r.renewed l y day ws (r.renewed l y day zs e)
 | [],_,_=>rfl
 |z::zs,ws,e=>by rw[List.cons_append,renewed,renewed];exact renewed_append zs ws _
theorem grants_append{born:Int}{l:List Event}:∀(xs ys:List Event)(o:List Grant),r.grantsTo born l (xs++ys) o=r.grantsTo born l ys (r.grantsTo born l xs o)
 | [],_,_=>rfl
 |x::xs,ys,o=>by
  rw[List.cons_append,grantsTo,grantsTo];split<;>exact grants_append xs ys _
end Rules
end Go.Rg
end
section
namespace Go.Rg
open Go.Bp
theorem sE{s:Sys}(h:s.Ok){r:Right}(hr:s.rightErr r=0):(s.wordL r).length≤152:=by
 obtain⟨h1,h2⟩:=Sys.right_0 hr;have hc:=inB_t.1 h1;have hn:=eK (h.name (i:=r.cls) (by omega))
 have hk:(s.codesOf r).length≤8:=by
  have:=List.length_filter_le (fun k=>r.codes.toNat.testBit k) (List.range s.codes.length)
  rw[List.length_range] at this;unfold Sys.codesOf;have:=h.c;omega
 have hf:=xG (f:=fun k=>46::s.codeL k) (B:=17) (s.codesOf r) (fun k hk=>by
  have:=eK (Sys.nameErr_0 (h.code k (Sys.codesOf_lt r k hk))).1;rw[List.length_cons];unfold Sys.codeL;omega)
 unfold Sys.wordL;rw[List.length_append];unfold Sys.nameL;have:17*(s.codesOf r).length≤17*8:=Nat.mul_le_mul_left _ hk;omega
theorem dT{day:Int}(h0:0≤day)(h:day≤40000):(datedL day).length≤14:=by
 obtain⟨v,v2,_⟩:=fG h0 h;have hm:=inB_t.1 v.hm;have hd:=inB_t.1 v.hd;have hy:=v.hy;have:=(bW (leap (dateOf day).year) v.hm).2;have a:=(pad4 (n:=(dateOf day).year.toNat) (by omega) (by omega)).2.2.2.2
 have b:=(pad2 (n:=(dateOf day).month.toNat) (by omega)).2.2.2.2
 have c:=(pad2 (n:=(dateOf day).day.toNat) (by omega)).2.2.2.2
 unfold datedL;simp only[List.length_append,List.length_cons];omega
namespace Rules
variable{r:Rules}
theorem line_len(ho:r.Ok){born:Int}{x:Event}(h:r.eventErr born x=0):(r.lineL x).length≤190:=by
 obtain⟨hd,hs⟩:=bI h;have h1:=dT (day:=x.day) hd.1 hd.2.1;unfold lineL wordsOf;rcases hs with ⟨y,m,e,hy,m0,m1⟩|⟨i,e,i1,i2⟩|⟨i,e,i1,i2⟩|⟨n,e,n1,n2⟩|⟨u,e,u1,u2⟩
 ·have hk:x.kind=0:=by rw[e]
  have hr:x.right=y:=by rw[e]
  have hm:x.minute=m:=by rw[e]
  rw[if_pos hk,hr,hm];have:=sE ho.sys hy;have p1:=(pad2 (n:=(m/60).toNat) (by omega)).2.2.2.2
  have p2:=(pad2 (n:=(m%60).toNat) (by omega)).2.2.2.2
  have e3:r.sys.rightsL [y]=r.sys.wordL y:=by simp[Sys.rightsL]
  simp only[joinW,List.length_append,List.length_cons,List.length_nil,passW,e3];omega
 ·have hk:x.kind=1:=by rw[e]
  have hi:x.treaty=i:=by rw[e]
  rw[if_neg (by omega),if_pos hk,hi]
  obtain⟨hlt,e2⟩:=sG (r:=r) ⟨i1,i2⟩;have:=eK (treatyErr_0 (ho.treaty _ hlt)).1;have e3:(r.treatyL i).length≤16:=by unfold treatyL;rw[e2];exact this
  simp only[joinW,List.length_append,List.length_cons,List.length_nil,exchangeW];omega
 ·have hk:x.kind=2:=by rw[e]
  have hi:x.cls=i:=by rw[e]
  rw[if_neg (by omega),if_neg (by omega),if_pos hk,hi]
  have:=eK (ho.sys.name (i:=i) ⟨i1,i2⟩);simp only[joinW,List.length_append,List.length_cons,List.length_nil,renewW,Sys.nameL];omega
 ·have hk:x.kind=3:=by rw[e]
  have hn:x.points=n:=by rw[e]
  rw[if_neg (by omega),if_neg (by omega),if_neg (by omega),if_pos hk,hn]
  have:=(pad1 (n:=n.toNat) (by omega)).2.2.2.2
  rw[tZ] at this;simp only[joinW,List.length_append,List.length_cons,List.length_nil,offenceW];omega
 ·have hk:x.kind=4:=by rw[e]
  have hu:x.until_=u:=by rw[e]
  rw[if_neg (by omega),if_neg (by omega),if_neg (by omega),if_neg (by omega),hu]
  have:=dT (day:=u) (by omega) u2
  simp only[joinW,List.length_append,List.length_cons,List.length_nil,banW];omega
end Rules
end Go.Rg
end
