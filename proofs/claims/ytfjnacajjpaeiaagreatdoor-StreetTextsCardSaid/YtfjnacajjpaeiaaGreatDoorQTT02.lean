/- Chapter 03: contracts of functions of the program and of the reference, and plain laws (out of NSL7). No condition of its own. -/
import Derived.Test.YtfjnacajjpaeiaaGreatDoorQH01
import Derived.Test.YtfjnacajjpaeiaaGreatDoorQTT01
set_option maxRecDepth 100000
set_option linter.all false
section
namespace Go.Walk
open Go Go.Bp Go.St Go.RowKit Go.Proofs
def Zl(P:List (List UInt8))(i:Nat):List Step:=if P.length≤1 then [] else(P.take i).map tF
theorem aAl{P:List (List UInt8)}{i:Nat}(h1:¬P.length≤1)(hi:i<P.length):Zl P (i+1)=Zl P i++ [tF P[i]]:=by
 unfold Zl;rw[if_neg h1,if_neg h1,List.take_succ_eq_append_getElem hi,List.map_append];rfl
theorem aAu{P:List (List UInt8)}{i:Nat}(hi:i≤P.length):(Zl P i).length≤i:=by
 unfold Zl;split
 ·simp
 ·simp;omega
theorem aAv{T:List UInt8}{i:Nat}(h1:1≤i)(h2:(mA T).length≤i+1)(h3:i<(mA T).length∨(mA T).length=1):Zl (mA T) i=mU T:=by
 unfold Zl mU;split
 ·rfl
 ·rw[List.dropLast_eq_take,show(mA T).length-1=i by omega]
theorem aAt{P:List (List UInt8)}(h:P.length≤1)(i j:Nat):Zl P i=Zl P j:=by unfold Zl;rw[if_pos h,if_pos h]
theorem Zv{t:Town}{T:List UInt8}{P:List (List UInt8)}{p:ByteArray}{cc i:Nat}{fr:Int}(h1:mA T=P)(h2:t.placeIdx (lN T)=fr)(i0:i=0)(hi:i<P.length)(hp:p.data.toList=P[i])(hc:gE p.data.toList p.size=cc)(hcc:cc≤p.size):IdxE t.places (p.extract 0 cc) fr:=⟨by
 subst i0;have e:lN T=p.data.toList.take cc:=by
  unfold lN;rw[h1]
  cases P with
  |nil=>simp at hi
  |cons x l=>
   simp only[List.getElem_cons_zero] at hp;simp only[List.headD_cons];rw[←hp,←Lib.size_eq,hc]
 rw[aAo p cc hcc,←h2];unfold Town.placeIdx;rw[e]⟩
theorem aAi{P:List (List UInt8)}{p:ByteArray}{cc i:Nat}(hi:i<P.length)(hp:p.data.toList=P[i])(hc:gE p.data.toList p.size=cc):
 (cc<p.size→∀b,(((p.data.toList.getD cc 0).toNat:Int)==61)=b→tF P[i]=⟨Pv (p.extract (cc+1) p.size),b⟩)∧(¬cc<p.size→tF P[i]=⟨-1,false⟩):=by
 rw[←hp];unfold tF;rw[←Lib.size_eq,hc];refine⟨fun h b hb=> ?_,fun h=>if_neg h⟩
 rw[if_pos h,aAq p (cc+1)];congr 1
 rw[←hb];have key:∀a:UInt8,decide (a=61)=((a.toNat:Int)==61):=by
  intro a;by_cases h:a=61
  ·subst h;rfl
  ·have:¬((a.toNat:Int)=61):=fun e=>h (UInt8.toNat_inj.1 (by show a.toNat=61;omega))
   simp[h,this]
 exact key _
def RRd(w:World)(a:Int)(l:List Step)(n:Int)(e:Ending)(w':World):Prop:=∃A c,e=.returned (.tuple #[.int .i64 a,.slice A l.length c,.int .i64 n])∧Go.St.bY w' (.slice A l.length c) l∧Ext w w'
theorem Zm(W:World):Go.St.bY W (.slice none 0 0) []:=Sl.none_ W 2
instance:ZeroT Tryz.prog 9 [.string ByteArray.empty]:=⟨.string ByteArray.empty,16,by kernel_rfl,by simp[Value.cells],by decide⟩
theorem Zo{W b:World}{A:Option Addr}{n c:Nat}{cs:List Value}{l:List Step}(h:RowC W (.slice A n c) b 82 2 n cs)(e:cs=dJ l):Value.slice A n c=.slice A l.length c∧RowC W (.slice A l.length c) b 82 2 l.length (dJ l):=by
 subst e;have h1:=h.h.1;rw[Gp] at h1;have:n=l.length:=by omega
 subst this;exact⟨rfl,h⟩
theorem Town.read_some{t:Town}{T:List UInt8}(hc:t.check.2.2=0)(hl:T.length≤23000){a b:Int}{l:List Step}(h1:t.placeIdx (lN T)=a)(h2:mU T=l)(h3:0≤a)(h4:t.stepsErr a l=(b,0))(h5:t.textOf a l=T):t.readAns T=(a,l,0):=by
 have hok:=Town.ok_of hc;unfold Town.readAns;rw[if_neg (by rw[hc];simp),if_neg (by omega),←Town.Sg hok.names hok.endsOk hok.st]
 unfold Town.refL;rw[h1,h2,if_pos ⟨h3,by rw[h4],h5⟩]
theorem Town.read_none{t:Town}{T:List UInt8}(hc:t.check.2.2=0)(hl:T.length≤23000){a:Int}{l:List Step}(h1:t.placeIdx (lN T)=a)(h2:mU T=l)(h:¬(0≤a∧(t.stepsErr a l).2=0∧t.textOf a l=T)):t.readAns T=(0,[],6):=by
 have hok:=Town.ok_of hc;unfold Town.readAns;rw[if_neg (by rw[hc];simp),if_neg (by omega),←Town.Sg hok.names hok.endsOk hok.st]
 unfold Town.refL;rw[h1,h2,if_neg h]
set_option synthInstance.maxSize 2000
set_option synthInstance.maxHeartbeats 400000
set_option maxHeartbeats 8000000
theorem aAn(tv:Value)(t:Town)(text:ByteArray)(a:Int)(l:List Step)(n:Int)(w:World)(h:aM w tv t)(hsz:text.size≤maxLen)(hans:t.readAns text.data.toList=(a,l,n)):
 Calls Tryz.prog 33 #[tv,.string text] w (RRd w a l n):=by
 obtain⟨pv,sv,tmv,xv,rfl,hT⟩:=id h;obtain⟨A1,cp1,rfl,_,hc1,_,_⟩:=hT.places;obtain⟨A2,cp2,rfl,_,hc2,_,_⟩:=hT.shows;obtain⟨A3,cp3,rfl,_,_,_,_⟩:=hT.times;obtain⟨A4,cp4,rfl,_,hc4,_⟩:=id hT.streets;have i1:=TownB.mk h;have i2:=StrsB.mk hT.places;clear hT;unfold maxLen at hsz;obtain⟨⟨ca,cb,ce⟩,hck⟩:∃r,t.check=r:=⟨_,rfl⟩;have f1:=CheckE.mk hck;by_cases hce:ce=0
 ·subst hce;have hc0:t.check.2.2=0:=by rw[hck]
  have hok:=Town.ok_of hc0;by_cases hlen:23000<text.size
  ·have z1:(23000:Int)<(text.size:Int):=by omega
   have e0:t.readAns text.data.toList=(0,[],3):=by unfold Town.readAns;rw[if_neg (by rw[hc0];simp),if_pos (by rw[←Lib.size_eq];exact hlen)]
   rw[e0] at hans;injection hans with e1 e2
   injection e2 with e2 e3
   subst e1 e2 e3;clear hck hc0 hok e0 hlen;go_enter Tryz.func33,Tryz.ntmps33
   go_wp2_with (first|go_skip|(with_reducible refine pZ ?_)|(with_reducible refine pY ?_)|(with_reducible refine qA ?_;first|rintro _ W ⟨rfl,_⟩|rintro _ W ⟨_,_,rfl,_,_⟩)|(with_reducible refine oQ ?_;intro W g _ _ _)|(with_reducible refine pX ?_;intro W _ _)|(with_reducible refine Tq ?_;intro W g _ _ _)|(with_reducible refine oR ?_;intro W g _ _ _)|(with_reducible refine oS ?_;intro _ _ W hR _))
   go_ret3
   exact⟨none,0,rfl,Zm _,ExtC.h⟩
  ·have z1:¬((23000:Int)<(text.size:Int)):=by omega
   obtain⟨T,hT⟩:∃T,text.data.toList=T:=⟨_,rfl⟩;rw[hT] at hans;have hTl:T.length≤23000:=by rw[←hT,←Lib.size_eq];omega
   obtain⟨parts,hparts⟩:∃p,split text 46=p:=⟨_,rfl⟩;obtain⟨P,hP⟩:∃p,mA T=p:=⟨_,rfl⟩;have hmap:parts.map (·.data.toList)=P:=by rw[←hparts,←hP,aAg,hT];rfl
   have hlenP:parts.length=P.length:=by rw[←hmap];simp
   have f2:SplitE text parts:=⟨hparts,by omega⟩
   have hP1:1≤P.length:=by rw[←hP];have:=aAa 46 T;unfold mA;cases h:oN 46 T with|nil=>exact absurd h this|cons _ _=>simp
   have hPb:∀p∈P,p.length≤23000:=fun p hp=>Nat.le_trans (Zp (b:=46) (by rw[←hP] at hp;exact hp)) hTl
   have hPn:P.length≤23001:=by have:=(aAf text 46).2;rw[hparts,hlenP] at this;omega
   obtain⟨fr,hfr⟩:∃r,t.placeIdx (lN T)=r:=⟨_,rfl⟩;have HP:=Lib.hid hP;have Hm:=Lib.hid hmap;have Hl:=Lib.hid hlenP;have Hfr:=Lib.hid hfr;have Hb:=Lib.hid hPb;have Hok:=Lib.hid hok;have Hc0:=Lib.hid hc0;have HT:=Lib.hid hT;have Hans:=Lib.hid hans;have H1:=Lib.hid hP1;have HTl:=Lib.hid hTl;have hpn:parts.length≤23001:=by omega
   have hp1:1≤parts.length:=by omega
   clear hck hc0 hok hlen hT hparts hP hmap hlenP hfr hPb hTl hans hP1 hPn;go_enter Tryz.func33,Tryz.ntmps33
   go_wp2_with (first|(go_at_call 87;with_reducible refine qA ?_;rintro _ W8 ⟨AP,cP9,rfl,hPt,_⟩)|(first|go_skip|(with_reducible refine pZ ?_)|(with_reducible refine pY ?_)|(with_reducible refine qA ?_;first|rintro _ V ⟨rfl,_⟩|rintro _ V ⟨_,_,rfl,_,_⟩)|(with_reducible refine oQ ?_;intro V g _ _ _)|(with_reducible refine pX ?_;intro V _ _)|(with_reducible refine Tq ?_;intro V g _ _ _)|(with_reducible refine oR ?_;intro V g _ _ _)|(with_reducible refine oS ?_;intro _ _ V hR _)))
   go_loopw [11,12,13,14,15,16] (fun lv fv iv _ _ _ wr=>StepC W8 wr∧∃(i:Nat)(A:Option Addr)(c:Nat)(F:Int),(i<parts.length∨(parts.length=1∧i=1))∧iv=.int .i64 i∧fv=.int .i64 F∧Hid (i≠0→F=fr)∧lv=.slice A (Zl P i).length c∧RowC wr (.slice A (Zl P i).length c) W8 82 2 (Zl P i).length (dJ (Zl P i))) (fun _ _ iv _ _ _ _=>parts.length+1-(intOf iv).toNat)
   case atStart=>
    refine⟨⟨ExtC.h⟩,0,none,0,-1,.inl (by omega),rfl,rfl,Lib.hid (fun h=>absurd rfl h),?_,?_⟩
    ·unfold Zl;split<;>rfl
    ·have:Zl P 0=[]:=by unfold Zl;split<;>rfl
     rw[this];exact RowC.nil
   case round=>
    obtain⟨_,i,A,c,F,hi,rfl,rfl,hF,rfl,hRo⟩:=hrel;have hPl:i<parts.length∨i=1:=by omega
    by_cases hgo:i+1<parts.length∨i=0
    ·have hil:i<parts.length:=by omega
     obtain⟨APd,cPd,ePp,vP1,vP2,_,vP4⟩:=hPt.h;unfold maxLen at vP2;injection ePp with ePp _ ePp2
     subst ePp ePp2;obtain⟨adP,rfl,cPs⟩:=vP4 (by omega)
     obtain⟨p,hp⟩:∃p,parts[i]=p:=⟨_,rfl⟩;have i5:CellsB W8 (adP.add i) [.string p]:=⟨by
      intro j u hu
      cases j with
      |zero=>simp at hu;rw[rN,←hu,←hp];exact cPs i _ (Av _ _ hil)
      |succ j=>simp at hu⟩
     have hiP:i<P.length:=by rw[←Hl.out];exact hil
     have hpP:p.data.toList=P[i]:=by rw[←hp];have:=Hm.out;simp[←this]
     have hpb:p.size≤23000:=by rw[Lib.size_eq,hpP];exact Hb.out _ (List.getElem_mem hiP)
     have Hp:=Lib.hid hpP;have zi:(i:Int)<(parts.length:Int):=by omega
     obtain⟨q,hq⟩:∃b,((i:Int)==0)=b:=⟨_,rfl⟩;have Hq:=Lib.hid (show i=0↔q=true by rw[←hq];simp)
     have Hcs:Hid ((((i:Int)+1<(parts.length:Int)))∨(¬((i:Int)+1<(parts.length:Int))∧q=true)):=Lib.hid (by rw[←Hq.out];omega)
     have hpb2:p.size≤23000:=hpb;clear hp hpP cPs vP4 hi hgo hPl;obtain⟨cc,hcc⟩:∃c,gE p.data.toList p.size=c:=⟨_,rfl⟩;have hcc2:cc≤p.size:=by rw[←hcc];have:=Zs p.data.toList p.size (by rw[Lib.size_eq];exact Nat.le_refl _);rw[Lib.size_eq];exact this
     have Hcc:=Lib.hid hcc;clear hcc;rcases Hcs.out with y1|⟨y1,yq⟩
     all_goals
      go_wp2_with (first|go_skip|(with_reducible refine pZ ?_)|(with_reducible refine pY ?_)|(with_reducible refine qA ?_;first|rintro _ V ⟨rfl,_⟩|rintro _ V ⟨_,_,rfl,_,_⟩)|(with_reducible refine oQ ?_;intro V g _ _ _)|(with_reducible refine pX ?_;intro V _ _)|(with_reducible refine Tq ?_;intro V g _ _ _)|(with_reducible refine oR ?_;intro V g _ _ _)|(with_reducible refine oS ?_;intro _ _ V hR _))
      go_loopw [14,15] (fun av kv wq=>StepC wr wq∧∃k:Nat,k≤p.size∧kv=.int .i64 k∧av=.int .i64 ((gE p.data.toList k:Nat):Int)) (fun _ kv _=>p.size-(intOf kv).toNat)
      case atStart=>exact⟨⟨ExtC.h⟩,0,by omega,rfl,by rw[gE,←Lib.size_eq]⟩
      case round=>
       obtain⟨_,k,hk,rfl,rfl⟩:=hrel;by_cases hlt:k<p.size
       ·have zk:(k:Int)<(p.size:Int):=by omega
        obtain⟨b1,hb1⟩:∃b,((p[k].toNat:Int)==45)=b:=⟨_,rfl⟩;obtain⟨b2,hb2⟩:∃b,((p[k].toNat:Int)==61)=b:=⟨_,rfl⟩;have Hn:=Lib.hid (Zx hlt hb1 hb2);obtain⟨m,hm⟩:∃m,gE p.data.toList k=m:=⟨_,rfl⟩;rw[hm];have Hm2:=Lib.hid hm;clear hm
        cases b1<;>cases b2
        all_goals
         go_wp2_with (first|go_skip|(with_reducible refine pZ ?_)|(with_reducible refine pY ?_)|(with_reducible refine qA ?_;first|rintro _ V ⟨rfl,_⟩|rintro _ V ⟨_,_,rfl,_,_⟩)|(with_reducible refine oQ ?_;intro V g _ _ _)|(with_reducible refine pX ?_;intro V _ _)|(with_reducible refine Tq ?_;intro V g _ _ _)|(with_reducible refine oR ?_;intro V g _ _ _)|(with_reducible refine oS ?_;intro _ _ V hR _))
         go_roundw
         case rel=>exact⟨⟨ExtC.h⟩,k+1,by omega,by go_num,by rw[Hn.out,Hm2.out];rfl⟩
         case measure=>simp[intOf];omega
       ·obtain rfl:k=p.size:=by omega
        have zk:¬((p.size:Int)<(p.size:Int)):=by omega
        rw[Hcc.out];have hll:=aAu (P:=P) (i:=i) (by rw[←Hl.out];omega)
        by_cases n1:1<parts.length
        ·have z20:(1:Int)<(parts.length:Int):=by omega
         first
         |(exfalso;have:=Hq.out.2 yq;omega)
         |have hPl2:¬P.length≤1:=by rw[←Hl.out];omega
          have Hls:=Lib.hid (aAl hPl2 hiP);obtain⟨e1,e2⟩:=aAi hiP Hp.out Hcc.out;have hnum:∀c,(p.extract c p.size).size≤100000:=fun c=>by rw[ByteArray.size_extract];omega
          cases q
          ·have z00:¬(i=0):=fun e=>by have:=Hq.out.1 e;cases this
           have HF:=Lib.hid (hF.out z00);clear z00 hF;by_cases c1:cc<p.size
           ·have zc:(cc:Int)<(p.size:Int):=by omega
            obtain⟨b,hb⟩:∃b,((p[cc].toNat:Int)==61)=b:=⟨_,rfl⟩;obtain⟨c2,hc2⟩:∃n,cc+1=n:=⟨_,rfl⟩;obtain⟨m,hm⟩:∃m,Pv (p.extract c2 p.size)=m:=⟨_,rfl⟩;have Hst:=Lib.hid (show tF P[i]=⟨m,b⟩ by rw[←hm,←hc2];exact e1 c1 b (by rw[Zn c1];exact hb))
            have f4:NumE (p.extract c2 p.size) m:=⟨hm,hnum _⟩;have w1:IntKind.i64.wrap ((cc:Int)+1)=(c2:Int):=by rw[←hc2];rw[Dy (by omega) (by omega)];push_cast;rfl
            have z31:c2≤p.size:=by omega
            have z32:(c2:Int)≤(p.size:Int):=by omega
            clear hm hc2 e1 e2;go_wp2_with (first|(with_reducible refine Wh (uu:=16) ?_;rintro W21 rfl W22 g16 _ hB16 hA16)|(first|go_skip|(with_reducible refine pZ ?_)|(with_reducible refine pY ?_)|(with_reducible refine qA ?_;first|rintro _ V ⟨rfl,_⟩|rintro _ V ⟨_,_,rfl,_,_⟩)|(with_reducible refine oQ ?_;intro V g _ _ _)|(with_reducible refine pX ?_;intro V _ _)|(with_reducible refine Tq ?_;intro V g _ _ _)|(with_reducible refine oR ?_;intro V g _ _ _)|(with_reducible refine oS ?_;intro _ _ V hR _)))
            refine aR (.take 0 (.take 1 (.take 2 (.take 3 (.take 4 (.take 5 (.take 6 (.take 8 (.take 9 (.take 10 (.take 11 (.take 12 (.take 13 (.take 14 (.one 7 (.take 15 (.one 16 .nil))))))))))))))))) (fun w'=>Ext W21 w') ?_ (fun hHd=> ?_) (hQ:=by intro _ _ _ _ _ h;exact h)
            ·exact ExtC.h
            repeat' first|((with_reducible refine aB ?_);(first|(refine tk (v:= ?_) ?_ hHd ?_;rotate_left;(·(intro W' h;have:=StepC.mk h;with_reducible exact Ue)))|(refine tk (v:= ?_) ?_ hHd ?_;rotate_left;(·(intro wq hSw;go_simp;(try with_reducible rfl)))));(try simp only[pS]))|((with_reducible refine bC ?_);refine aQ (by simp only[gS];rfl) ?_)|((with_reducible refine fQ ?_);refine dI (by simp only[gS];rfl) (by simp only[gS];rfl) ?_ ?_)|(with_reducible refine Ua ?_;intro V g _ _ _)|(with_reducible refine pX ?_;intro V _ _)|((with_reducible refine Tx ?_);first|(rintro _ V ⟨rfl,_⟩;refine⟨_,rfl,?_⟩)|(rintro _ V ⟨_,_,rfl,_,_⟩;refine⟨_,rfl,?_⟩))|((with_reducible refine bB ?_);clear hHd;refine aJ ExtC.h (fun hHd=> ?_);(try simp only[pS]))|(with_reducible refine aG ?_)
            go_wp2_with (first|go_skip|(with_reducible refine pZ ?_)|(with_reducible refine pY ?_)|(with_reducible refine qA ?_;first|rintro _ V ⟨rfl,_⟩|rintro _ V ⟨_,_,rfl,_,_⟩)|(with_reducible refine oQ ?_;intro V g _ _ _)|(with_reducible refine pX ?_;intro V _ _)|(with_reducible refine Tq ?_;intro V g _ _ _)|(with_reducible refine oR ?_;intro V g _ _ _)|(with_reducible refine oS ?_;intro _ _ V hR _))
            go_roundw
            case rel=>
             obtain⟨e1,e2⟩:=Zo hR (show _=dJ (Zl P (i+1)) by rw[Hls.out,Hst.out,rI];rfl)
             exact⟨⟨ExtC.h⟩,i+1,_,_,_,.inl (by omega),by go_num,rfl,Lib.hid (fun _=>HF.out),e1,e2⟩
            case measure=>simp[intOf];omega
           ·have zc:¬((cc:Int)<(p.size:Int)):=by omega
            have Hst:=Lib.hid (e2 c1);clear e1 e2 c1;go_wp2_with (first|(with_reducible refine Wh (uu:=16) ?_;rintro W21 rfl W22 g16 _ hB16 hA16)|(first|go_skip|(with_reducible refine pZ ?_)|(with_reducible refine pY ?_)|(with_reducible refine qA ?_;first|rintro _ V ⟨rfl,_⟩|rintro _ V ⟨_,_,rfl,_,_⟩)|(with_reducible refine oQ ?_;intro V g _ _ _)|(with_reducible refine pX ?_;intro V _ _)|(with_reducible refine Tq ?_;intro V g _ _ _)|(with_reducible refine oR ?_;intro V g _ _ _)|(with_reducible refine oS ?_;intro _ _ V hR _)))
            go_roundw
            case rel=>
             obtain⟨e1,e2⟩:=Zo hR (show _=dJ (Zl P (i+1)) by rw[Hls.out,Hst.out,rI];rfl)
             exact⟨⟨ExtC.h⟩,i+1,_,_,_,.inl (by omega),by go_num,rfl,Lib.hid (fun _=>HF.out),e1,e2⟩
            case measure=>simp[intOf];omega
          ·have i0:=Hq.out.2 rfl;have f3:=Zv HP.out Hfr.out i0 hiP Hp.out Hcc.out hcc2;have z00:0<parts.length:=by omega
           have i50:CellsB W8 adP [.string p]:=by have h:=i5;rw[i0,rN] at h;exact h
           clear i0;go_wp2_with (first|go_skip|(with_reducible refine pZ ?_)|(with_reducible refine pY ?_)|(with_reducible refine qA ?_;first|rintro _ V ⟨rfl,_⟩|rintro _ V ⟨_,_,rfl,_,_⟩)|(with_reducible refine oQ ?_;intro V g _ _ _)|(with_reducible refine pX ?_;intro V _ _)|(with_reducible refine Tq ?_;intro V g _ _ _)|(with_reducible refine oR ?_;intro V g _ _ _)|(with_reducible refine oS ?_;intro _ _ V hR _))
           refine aR (.take 0 (.take 1 (.take 2 (.take 3 (.take 4 (.take 5 (.take 6 (.one 7 (.take 8 .nil))))))))) (fun w'=>Ext wr w') ?_ (fun hHd=> ?_) (hQ:=by intro _ _ _ _ _ h;exact h)
           ·exact ExtC.h
           repeat' first|((with_reducible refine aB ?_);(first|(refine tk (v:= ?_) ?_ hHd ?_;rotate_left;(·(intro W' h;have:=StepC.mk h;with_reducible exact Ue)))|(refine tk (v:= ?_) ?_ hHd ?_;rotate_left;(·(intro wq hSw;go_simp;(try with_reducible rfl)))));(try simp only[pS]))|((with_reducible refine bC ?_);refine aQ (by simp only[gS];rfl) ?_)|((with_reducible refine fQ ?_);refine dI (by simp only[gS];rfl) (by simp only[gS];rfl) ?_ ?_)|(with_reducible refine Ua ?_;intro V g _ _ _)|(with_reducible refine pX ?_;intro V _ _)|((with_reducible refine Tx ?_);first|(rintro _ V ⟨rfl,_⟩;refine⟨_,rfl,?_⟩)|(rintro _ V ⟨_,_,rfl,_,_⟩;refine⟨_,rfl,?_⟩))|((with_reducible refine bB ?_);clear hHd;refine aJ ExtC.h (fun hHd=> ?_);(try simp only[pS]))|(with_reducible refine aG ?_)
           by_cases c1:cc<p.size
           ·have zc:(cc:Int)<(p.size:Int):=by omega
            obtain⟨b,hb⟩:∃b,((p[cc].toNat:Int)==61)=b:=⟨_,rfl⟩;obtain⟨c2,hc2⟩:∃n,cc+1=n:=⟨_,rfl⟩;obtain⟨m,hm⟩:∃m,Pv (p.extract c2 p.size)=m:=⟨_,rfl⟩;have Hst:=Lib.hid (show tF P[i]=⟨m,b⟩ by rw[←hm,←hc2];exact e1 c1 b (by rw[Zn c1];exact hb))
            have f4:NumE (p.extract c2 p.size) m:=⟨hm,hnum _⟩;have w1:IntKind.i64.wrap ((cc:Int)+1)=(c2:Int):=by rw[←hc2];rw[Dy (by omega) (by omega)];push_cast;rfl
            have z31:c2≤p.size:=by omega
            have z32:(c2:Int)≤(p.size:Int):=by omega
            clear hm hc2 e1 e2;go_wp2_with (first|(with_reducible refine Wh (uu:=16) ?_;rintro W21 rfl W22 g16 _ hB16 hA16)|(first|go_skip|(with_reducible refine pZ ?_)|(with_reducible refine pY ?_)|(with_reducible refine qA ?_;first|rintro _ V ⟨rfl,_⟩|rintro _ V ⟨_,_,rfl,_,_⟩)|(with_reducible refine oQ ?_;intro V g _ _ _)|(with_reducible refine pX ?_;intro V _ _)|(with_reducible refine Tq ?_;intro V g _ _ _)|(with_reducible refine oR ?_;intro V g _ _ _)|(with_reducible refine oS ?_;intro _ _ V hR _)))
            refine aR (.take 0 (.take 1 (.take 2 (.take 3 (.take 4 (.take 5 (.take 6 (.take 8 (.take 9 (.take 10 (.take 11 (.take 12 (.take 13 (.take 14 (.one 7 (.take 15 (.one 16 .nil))))))))))))))))) (fun w'=>Ext W21 w') ?_ (fun hHd=> ?_) (hQ:=by intro _ _ _ _ _ h;exact h)
            ·exact ExtC.h
            repeat' first|((with_reducible refine aB ?_);(first|(refine tk (v:= ?_) ?_ hHd ?_;rotate_left;(·(intro W' h;have:=StepC.mk h;with_reducible exact Ue)))|(refine tk (v:= ?_) ?_ hHd ?_;rotate_left;(·(intro wq hSw;go_simp;(try with_reducible rfl)))));(try simp only[pS]))|((with_reducible refine bC ?_);refine aQ (by simp only[gS];rfl) ?_)|((with_reducible refine fQ ?_);refine dI (by simp only[gS];rfl) (by simp only[gS];rfl) ?_ ?_)|(with_reducible refine Ua ?_;intro V g _ _ _)|(with_reducible refine pX ?_;intro V _ _)|((with_reducible refine Tx ?_);first|(rintro _ V ⟨rfl,_⟩;refine⟨_,rfl,?_⟩)|(rintro _ V ⟨_,_,rfl,_,_⟩;refine⟨_,rfl,?_⟩))|((with_reducible refine bB ?_);clear hHd;refine aJ ExtC.h (fun hHd=> ?_);(try simp only[pS]))|(with_reducible refine aG ?_)
            go_wp2_with (first|go_skip|(with_reducible refine pZ ?_)|(with_reducible refine pY ?_)|(with_reducible refine qA ?_;first|rintro _ V ⟨rfl,_⟩|rintro _ V ⟨_,_,rfl,_,_⟩)|(with_reducible refine oQ ?_;intro V g _ _ _)|(with_reducible refine pX ?_;intro V _ _)|(with_reducible refine Tq ?_;intro V g _ _ _)|(with_reducible refine oR ?_;intro V g _ _ _)|(with_reducible refine oS ?_;intro _ _ V hR _))
            go_roundw
            case rel=>
             obtain⟨e1,e2⟩:=Zo hR (show _=dJ (Zl P (i+1)) by rw[Hls.out,Hst.out,rI];rfl)
             exact⟨⟨ExtC.h⟩,i+1,_,_,_,.inl (by omega),by go_num,rfl,Lib.hid (fun _=>rfl),e1,e2⟩
            case measure=>simp[intOf];omega
           ·have zc:¬((cc:Int)<(p.size:Int)):=by omega
            have Hst:=Lib.hid (e2 c1);clear e1 e2 c1;go_wp2_with (first|(with_reducible refine Wh (uu:=16) ?_;rintro W21 rfl W22 g16 _ hB16 hA16)|(first|go_skip|(with_reducible refine pZ ?_)|(with_reducible refine pY ?_)|(with_reducible refine qA ?_;first|rintro _ V ⟨rfl,_⟩|rintro _ V ⟨_,_,rfl,_,_⟩)|(with_reducible refine oQ ?_;intro V g _ _ _)|(with_reducible refine pX ?_;intro V _ _)|(with_reducible refine Tq ?_;intro V g _ _ _)|(with_reducible refine oR ?_;intro V g _ _ _)|(with_reducible refine oS ?_;intro _ _ V hR _)))
            go_roundw
            case rel=>
             obtain⟨e1,e2⟩:=Zo hR (show _=dJ (Zl P (i+1)) by rw[Hls.out,Hst.out,rI];rfl)
             exact⟨⟨ExtC.h⟩,i+1,_,_,_,.inl (by omega),by go_num,rfl,Lib.hid (fun _=>rfl),e1,e2⟩
            case measure=>simp[intOf];omega
        ·first
         |(exfalso;omega)
         |have z20:¬((1:Int)<(parts.length:Int)):=by omega
          have i0:i=0:=by omega
          have hq1:=Hq.out.1 i0;have f3:=Zv HP.out Hfr.out i0 hiP Hp.out Hcc.out hcc2;have z00:0<parts.length:=by omega
          have i50:CellsB W8 adP [.string p]:=by have h:=i5;rw[i0,rN] at h;exact h
          clear n1 i0;subst hq1;go_wp2_with (first|go_skip|(with_reducible refine pZ ?_)|(with_reducible refine pY ?_)|(with_reducible refine qA ?_;first|rintro _ V ⟨rfl,_⟩|rintro _ V ⟨_,_,rfl,_,_⟩)|(with_reducible refine oQ ?_;intro V g _ _ _)|(with_reducible refine pX ?_;intro V _ _)|(with_reducible refine Tq ?_;intro V g _ _ _)|(with_reducible refine oR ?_;intro V g _ _ _)|(with_reducible refine oS ?_;intro _ _ V hR _))
          refine aR (.take 0 (.take 1 (.take 2 (.take 3 (.take 4 (.take 5 (.take 6 (.one 7 (.take 8 .nil))))))))) (fun w'=>Ext wr w') ?_ (fun hHd=> ?_) (hQ:=by intro _ _ _ _ _ h;exact h)
          ·exact ExtC.h
          repeat' first|((with_reducible refine aB ?_);(first|(refine tk (v:= ?_) ?_ hHd ?_;rotate_left;(·(intro W' h;have:=StepC.mk h;with_reducible exact Ue)))|(refine tk (v:= ?_) ?_ hHd ?_;rotate_left;(·(intro wq hSw;go_simp;(try with_reducible rfl)))));(try simp only[pS]))|((with_reducible refine bC ?_);refine aQ (by simp only[gS];rfl) ?_)|((with_reducible refine fQ ?_);refine dI (by simp only[gS];rfl) (by simp only[gS];rfl) ?_ ?_)|(with_reducible refine Ua ?_;intro V g _ _ _)|(with_reducible refine pX ?_;intro V _ _)|((with_reducible refine Tx ?_);first|(rintro _ V ⟨rfl,_⟩;refine⟨_,rfl,?_⟩)|(rintro _ V ⟨_,_,rfl,_,_⟩;refine⟨_,rfl,?_⟩))|((with_reducible refine bB ?_);clear hHd;refine aJ ExtC.h (fun hHd=> ?_);(try simp only[pS]))|(with_reducible refine aG ?_)
          go_wp2_with (first|go_skip|(with_reducible refine pZ ?_)|(with_reducible refine pY ?_)|(with_reducible refine qA ?_;first|rintro _ V ⟨rfl,_⟩|rintro _ V ⟨_,_,rfl,_,_⟩)|(with_reducible refine oQ ?_;intro V g _ _ _)|(with_reducible refine pX ?_;intro V _ _)|(with_reducible refine Tq ?_;intro V g _ _ _)|(with_reducible refine oR ?_;intro V g _ _ _)|(with_reducible refine oS ?_;intro _ _ V hR _))
          go_roundw
          case rel=>
           have e:=aAt (P:=P) (by rw[←Hl.out];omega) (i+1) i
           exact⟨⟨ExtC.h⟩,i+1,A,c,fr,.inr (by omega),by go_num,rfl,Lib.hid (fun _=>rfl),by rw[e],by rw[e];infer_instance⟩
          case measure=>simp[intOf];omega
    ·have hi1:1≤i:=by omega
     have z1:¬((i:Int)+1<(parts.length:Int)):=by omega
     have z2:((i:Int)==0)=false:=by simp;omega
     have hF1:=hF.out (by omega)
     subst hF1;have hend:Zl P i=mU T:=by rw[←HP.out];exact aAv hi1 (by rw[HP.out,←Hl.out];omega) (by rw[HP.out,←Hl.out];omega)
     obtain⟨ls,hls⟩:∃l,mU T=l:=⟨_,rfl⟩;rw[hend,hls] at hRo⊢;have hok:=Hok.out;have hlb:T.length≤23000:=HTl.out;obtain⟨⟨b,e⟩,hse⟩:∃r,t.stepsErr F ls=r:=⟨_,rfl⟩;by_cases hf0:0≤F
     ·have z3:¬(F<0):=by omega
      have f5:StepsE t F ls b e:=⟨hse,hok⟩;by_cases he:e=0
      ·subst he;obtain⟨hl11,hst⟩:ls.length≤1100∧∀x∈ls,inB x.st 0 (t.streets.length-1)=true:=by
        unfold Town.stepsErr at hse;by_cases h11:1100<ls.length
        ·rw[if_pos h11] at hse;injection hse with _ hse;exact absurd hse (by decide)
        ·rw[if_neg h11] at hse;exact⟨by omega,Town.follow_st ls F (by rw[hse])⟩
       have hFi:inB F 0 (t.places.length-1)=true:=by have:=(Town.kW (t:=t) (l:=lN T) (by rw[Hfr.out];exact hf0)).2;rwa [Hfr.out] at this
       obtain⟨s,hs⟩:∃s,S (t.textOf F ls)=s:=⟨_,rfl⟩;have f6:TextE t F ls s:=⟨hs,hok,hFi,hl11,hst⟩;by_cases hst2:s=text
       ·have e0:=Town.read_some Hc0.out hlb Hfr.out hls hf0 hse (by rw[←HT.out,←hst2,←hs];simp[S])
        have hans:=Hans.out;rw[e0] at hans;injection hans with e1 e2
        injection e2 with e2 e3
        subst e1 e2 e3 hst2;clear e0 hse hs hst hok hend hls hFi;go_wp2_with (first|go_skip|(with_reducible refine pZ ?_)|(with_reducible refine pY ?_)|(with_reducible refine qA ?_;first|rintro _ V ⟨rfl,_⟩|rintro _ V ⟨_,_,rfl,_,_⟩)|(with_reducible refine oQ ?_;intro V g _ _ _)|(with_reducible refine pX ?_;intro V _ _)|(with_reducible refine Tq ?_;intro V g _ _ _)|(with_reducible refine oR ?_;intro V g _ _ _)|(with_reducible refine oS ?_;intro _ _ V hR _))
        go_ret3
        exact⟨A,c,rfl,StepsC.h,ExtC.h⟩
       ·have hne:(s.toList==text.toList)=false:=by rw[Bf];simp[hst2]
        have e0:=Town.read_none Hc0.out hlb Hfr.out hls (fun h=>hst2 (by rw[←hs,h.2.2,←HT.out];exact rO text))
        have hans:=Hans.out;rw[e0] at hans;injection hans with e1 e2
        injection e2 with e2 e3
        subst e1 e2 e3;clear e0 hse hok hend hls;go_wp2_with (first|go_skip|(with_reducible refine pZ ?_)|(with_reducible refine pY ?_)|(with_reducible refine qA ?_;first|rintro _ V ⟨rfl,_⟩|rintro _ V ⟨_,_,rfl,_,_⟩)|(with_reducible refine oQ ?_;intro V g _ _ _)|(with_reducible refine pX ?_;intro V _ _)|(with_reducible refine Tq ?_;intro V g _ _ _)|(with_reducible refine oR ?_;intro V g _ _ _)|(with_reducible refine oS ?_;intro _ _ V hR _))
        go_ret3
        exact⟨none,0,rfl,Zm _,ExtC.h⟩
      ·have he1:(e !=0)=true:=by simpa using he
       have e0:=Town.read_none Hc0.out hlb Hfr.out hls (fun h=>he (by have:=h.2.1;rw[hse] at this;exact this))
       have hans:=Hans.out;rw[e0] at hans;injection hans with e1 e2
       injection e2 with e2 e3
       subst e1 e2 e3;clear e0 hse hok hend hls;go_wp2_with (first|go_skip|(with_reducible refine pZ ?_)|(with_reducible refine pY ?_)|(with_reducible refine qA ?_;first|rintro _ V ⟨rfl,_⟩|rintro _ V ⟨_,_,rfl,_,_⟩)|(with_reducible refine oQ ?_;intro V g _ _ _)|(with_reducible refine pX ?_;intro V _ _)|(with_reducible refine Tq ?_;intro V g _ _ _)|(with_reducible refine oR ?_;intro V g _ _ _)|(with_reducible refine oS ?_;intro _ _ V hR _))
       go_ret3
       exact⟨none,0,rfl,Zm _,ExtC.h⟩
     ·have z3:F<0:=by omega
      have hse2:True:=trivial;have e0:=Town.read_none Hc0.out hlb Hfr.out hls (fun h=>hf0 h.1)
      have hans:=Hans.out;rw[e0] at hans;injection hans with e1 e2
      injection e2 with e2 e3
      subst e1 e2 e3;clear e0 hse hok hend hls;go_wp2_with (first|go_skip|(with_reducible refine pZ ?_)|(with_reducible refine pY ?_)|(with_reducible refine qA ?_;first|rintro _ V ⟨rfl,_⟩|rintro _ V ⟨_,_,rfl,_,_⟩)|(with_reducible refine oQ ?_;intro V g _ _ _)|(with_reducible refine pX ?_;intro V _ _)|(with_reducible refine Tq ?_;intro V g _ _ _)|(with_reducible refine oR ?_;intro V g _ _ _)|(with_reducible refine oS ?_;intro _ _ V hR _))
      go_ret3
      exact⟨none,0,rfl,Zm _,ExtC.h⟩
 ·have e0:t.readAns text.data.toList=(0,[],ce):=by unfold Town.readAns;rw[if_pos (by rw[hck];exact hce),hck]
  rw[e0] at hans;injection hans with e1 e2
  injection e2 with e2 e3
  subst e1 e2 e3;have q1:(ce==0)=false:=by simpa using hce
  have q2:(ce !=0)=true:=by simpa using hce
  clear hck hce e0;go_enter Tryz.func33,Tryz.ntmps33
  go_wp2_with (first|go_skip|(with_reducible refine pZ ?_)|(with_reducible refine pY ?_)|(with_reducible refine qA ?_;first|rintro _ W ⟨rfl,_⟩|rintro _ W ⟨_,_,rfl,_,_⟩)|(with_reducible refine oQ ?_;intro W g _ _ _)|(with_reducible refine pX ?_;intro W _ _)|(with_reducible refine Tq ?_;intro W g _ _ _)|(with_reducible refine oR ?_;intro W g _ _ _)|(with_reducible refine oS ?_;intro _ _ W hR _))
  go_ret3
  exact⟨none,0,rfl,Zm _,ExtC.h⟩
instance{W:World}{v:Value}{t:Town}{s:ByteArray}{x n:Int}{l:List Step}[p:TownC W v t][i:ReadE t s x l n]:FunC Tryz.prog 33 #[v,.string s] W (RIS W x l n):=⟨(aAn _ _ _ _ _ _ _ p.h i.h.2 i.h.1).mono fun e W' ⟨A,c,h1,h2,h3⟩=>⟨A,c,h1,⟨h2⟩,⟨h3⟩⟩⟩
theorem LTexts(tv lv:Value)(t:Town)(a:Int)(xs:List Step)(text:ByteArray)(w:World)(h:aM w tv t)(hl:Go.St.bY w lv xs)(hsz:text.size≤maxLen)(hv:Env w):
 Calls Tryz.prog 7 #[tv,.agg #[.int .i64 a,lv],.string text] w (dB w true):=by
 obtain⟨pv,sv,tmv,xv,rfl,hT⟩:=id h;obtain⟨A1,cp1,rfl,_,hc1,_,_⟩:=hT.places;obtain⟨A2,cp2,rfl,_,hc2,_,_⟩:=hT.shows;obtain⟨A3,cp3,rfl,_,_,_,_⟩:=hT.times;obtain⟨A4,cp4,rfl,_,hc4,_⟩:=id hT.streets;obtain⟨A5,cp5,rfl,_⟩:=id hl;have i1:=TownB.mk h;have i2:=StepsB.mk hl;have i3:=EnvB.mk hv;clear hT;obtain⟨⟨b,e⟩,hw⟩:∃r,t.writeAns a xs=r:=⟨_,rfl⟩;obtain⟨s,hs⟩:∃s,S b=s:=⟨_,rfl⟩;have f1:WriteE t a xs s e:=⟨b,hw,hs⟩;obtain⟨⟨p,l,f⟩,hr⟩:∃r,t.readAns text.data.toList=r:=⟨_,rfl⟩;have f2:ReadE t text p l f:=⟨hr,hsz⟩;clear hw hs hr hsz;go_enter Tryz.func7,Tryz.ntmps7
 go_wp2_with (first|go_skip|(with_reducible refine pZ ?_)|(with_reducible refine pY ?_)|(with_reducible refine qA ?_;first|rintro _ V ⟨rfl,_⟩|rintro _ V ⟨_,_,rfl,_,_⟩)|(with_reducible refine oQ ?_;intro V g _ _ _)|(with_reducible refine pX ?_;intro V _ _)|(with_reducible refine Tq ?_;intro V g _ _ _)|(with_reducible refine oR ?_;intro V g _ _ _)|(with_reducible refine oS ?_;intro _ _ V hR _))
 go_ret
 exact⟨rfl,ExtC.h⟩
end Go.Walk
end
