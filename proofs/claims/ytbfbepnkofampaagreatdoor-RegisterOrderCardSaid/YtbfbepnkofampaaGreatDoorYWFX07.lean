/- Chapter 11: contracts of functions of the program and of the reference, and plain laws (out of RZl7). No condition of its own. -/
import Derived.Test.YtbfbepnkofampaaGreatDoorYWFX01
import Derived.Test.YtbfbepnkofampaaGreatDoorYWFX02
set_option maxRecDepth 100000
set_option linter.all false
section
namespace Go.Rg
open Go Go.Bp Go.RowKit Go.Walk Go.Proofs
set_option synthInstance.maxSize 4000
set_option synthInstance.maxHeartbeats 400000
set_option maxHeartbeats 4000000
set_option maxHeartbeats 16000000 in
theorem OrderR5(r:Rules)(p:Person)(dd dc df:Int)(A9':Option Addr)(ct:Nat)(us:List U8)(xk xd xc xo xt xq xp xu xm:Int)(w:World)(A1:Option Addr)(n1 c1:Nat)(A2:Option Addr)(n2 c2:Nat)(A3:Option Addr)(n3 c3:Nat)(A:Option Addr)(c:Nat)(k1:Whole)(h:RulesV w (Value.agg #[Value.slice A1 n1 c1,Value.slice A2 n2 c2,Value.slice A3 n3 c3,Value.int IntKind.i64 r.limit,Value.int IntKind.i64 r.fall,Value.int IntKind.i64 r.ban]) r)(hp:PersonV w (.agg #[.int .i64 p.born,.slice A p.events.length c]) p)(hl:ListV w (.slice A p.events.length c) p.events)(hf:FewE p)(hv:EnvC w)(hus:ListV w (.slice A9' us.length ct) us)(hub:∀u∈us,0≤u.v∧u.v≤255)(j1:ValE r p ⟨dd,dc,df⟩ true)(hz:r.personErr p=0)(hdr:r.driveErr p ⟨dd,dc,df⟩=0)(m1:WholeE r p ⟨dd,dc,df⟩ k1):(OrderPack r p dd dc df A9' ct us xk xd xc xo xt xq xp xu xm w A1 n1 c1 A2 n2 c2 A3 n3 c3 A c k1 h hp hl hf hv hus hub j1 hz hdr m1).2.2.2.2.1:=by
 delta OrderPack
 dsimp only;have i1:=RulesB.mk h;have i2:=PersonB.mk hp;have i4:=ListB.mk hl;have i7:=ListB.mk hus;have i0:=EnvB.mk hv.h;have hcu:=hus.caps.2;have hn30:=(Rules.person_ok hz).2.2.1;have Hub:=Lib.hid hub;have Hz:=Lib.hid hz;have Hdr:=Lib.hid hdr;intro Wa ga s1 s2 s3 Wb gb s4 s5 s6 Wc g s7 s8 s9 V s10 V9 g9 hE9 hB9 hA9 KK aK wr u11 u44 u45 u46 u47 u48 u49 u50 u51 u52 u53 u54 u55 u56 u57 u58 u59 u60 u61 u62 u63 u64 u65 u66 u67 u68 u69 u70 u71 u72 u73 u74 u75 u76 u77 u78 u79 u80 u81 u82 u83 u84 u85 u86 u87 u88 hEV k o Ao co B hk hb9 hRo hok hm lk k0 k30;clear hub hz hdr;have e0:StepC V wr:=⟨hEV⟩;have e1:BlkC wr g9 31 [.int .i64 p.born,.slice Ao k co]:=⟨hb9⟩;have hcap:=(hRo.list (l:=o) rfl rfl hok.symm).caps.2;have hkl:k=p.events.length:=by omega
 rw[hkl,List.take_length] at hm;have hk30:k≤30:=by omega
 have qlt:decide ((k:Int)<(p.events.length:Int))=false:=by simp;omega
 obtain⟨q0,hq0⟩:∃q:Person,q=⟨p.born,o⟩:=⟨_,rfl⟩;have iP:∀(W:World) [RowC W (.slice Ao k co) B 80 9 k (encL o)],PersonC W (.agg #[.int .i64 p.born,.slice Ao k co]) q0:=fun W r=>by
  subst hq0;exact⟨⟨Ao,co,by simp only[hok],by simp only[hok];exact r.list rfl rfl hok.symm⟩⟩
 obtain⟨q3,hq3⟩:∃q:Person,q=⟨p.born,p.events++ [⟨xk,xd,⟨xc,xo⟩,xt,xq,xp,xu,xm⟩]⟩:=⟨_,rfl⟩;have i3:=WithE.mk hq3;obtain⟨e3,he3⟩:∃e,r.personErr q3=e:=⟨_,rfl⟩;have j3:=RPerE.mk he3;have H3:=Lib.hid (show e3=0→∃t3,r.writeAns q3=(t3,0)∧((S t3).toList==(S k1.text).toList)=decide ((⟨xk,xd,⟨xc,xo⟩,xt,xq,xp,xu,xm⟩:Event)∈p.events) from fun h=>order_ready hq3 Hz.out (by rw[he3];exact h) m1)
 have n0:r.personErr q0=0:=Rules.person_same Hz.out (by rw[hq0]) (by rw[hq0];simp only;omega) (by rw[hq0];exact hm)
 have m2:WholeE r q0 ⟨dd,dc,df⟩ k1:=whole_same Hz.out n0 (by rw[hq0]) (by rw[hq0];exact hm) m1
 have Hok:=Lib.hid hok;have Hm:=Lib.hid hm;have Hkl:=Lib.hid hkl;have Hq0:=Lib.hid hq0;clear hok hm hkl hb9 hEV hq3 he3 n0 hq0;have q5:decide ((k:Int)>0)=true:=by simp;omega
 have q6:0<k:=by omega
 have q7:decide ((k:Int)<30)=true:=by simp;omega
 obtain⟨j,hj⟩:∃j,us.length%k=j:=⟨_,rfl⟩;have hjk:j<k:=by rw[←hj];exact Nat.mod_lt _ q6
 have Hj:=Lib.hid (show j<o.length by rw[Hok.out];exact hjk)
 have qj:(us.length:Int).tmod (k:Int)=(j:Int):=by rw[←hj,Int.tmod_eq_emod_of_nonneg (by omega)];push_cast;rfl
 have q8:((k:Int)==0)=false:=beq_eq_false_iff_ne.2 (by omega)
 have q9:¬(k=0):=k0;obtain⟨ao,rfl,_⟩:=(hRo.list (l:=o) rfl rfl Hok.out.symm).elem Hj.out;obtain⟨⟨zk,zd,⟨zc,zo⟩,zt,zq,zp,zu,zm⟩,hx⟩:∃x,o[j]'Hj.out=x:=⟨_,rfl⟩;have Hx:=Lib.hid hx;obtain⟨q2,hq2⟩:∃q:Person,q=⟨q0.born,q0.events++ [⟨zk,zd,⟨zc,zo⟩,zt,zq,zp,zu,zm⟩]⟩:=⟨_,rfl⟩;have i32:=WithE.mk hq2;have hmem:(⟨zk,zd,⟨zc,zo⟩,zt,zq,zp,zu,zm⟩:Event)∈p.events:=by
  rw[←Hm.out,←hx];exact List.getElem_mem _
 have hlen:q0.events.length=k:=by rw[Hq0.out];exact Hok.out
 have i33:FewE q0:=⟨by rw[hlen];omega⟩
 have hm2:∀x,x∈q2.events↔x∈p.events:=fun x=>by
  rw[hq2,Hq0.out];simp only[List.mem_append,List.mem_singleton];rw[Hm.out x];exact⟨fun h=>h.elim id fun e=>e▸hmem,.inl⟩
 have hb2:q2.born=p.born:=by rw[hq2,Hq0.out]
 have n2:r.personErr q2=0:=Rules.person_same Hz.out hb2 (by rw[hq2];simp only[List.length_append,List.length_cons,List.length_nil];omega) hm2
 have m3:WholeE r q2 ⟨dd,dc,df⟩ k1:=whole_same Hz.out n2 hb2 hm2 m1;clear hj hx hq2 hmem hlen hm2 hb2 n2 k0 m2;go_wp2_with (first|(with_reducible refine load_c ?_))
 refine wp_rt ((.take 1 (.take 3 (.take 4 (.take 5 (.take 6 (.take 7 (.two 0 (.one 2 (.take 8 (.take 9 (.one 10 (.one 11 .nil))))) 2 (.take 8 (.take 9 (.one 0 (.one 10 (.one 11 .nil))))))))))))) (fun w'=>Ext V w'∧Cells w' (ao.add (j*9)) [.int .i64 zk,.int .i64 zd,.int .i64 zc,.int .i64 zo,.int .i64 zt,.int .i64 zq,.int .i64 zp,.int .i64 zu,.int .i64 zm]) ?_ (fun hHd=> ?_) (hQ:=by intro _ _ _ _ _ h;exact h)
 ·exact⟨ExtC.h,cells_row (inferInstance:RowC _ (.slice (some ao) k co) B 80 9 k (encL o)) Hok.out Hj.out Hx.out⟩
 repeat' first|((with_reducible refine t_tk ?_);(first|(refine tk (v:= ?_) ?_ hHd ?_;rotate_left;(·(intro W' h;obtain⟨h,ha⟩:=h;have:=StepC.mk h;have i9:CellsB W' (ao.add (j*9)) [.int .i64 zk,.int .i64 zd,.int .i64 zc,.int .i64 zo,.int .i64 zt,.int .i64 zq,.int .i64 zp,.int .i64 zu,.int .i64 zm]:=⟨ha⟩;first|with_reducible exact run_lc)))|(refine tk (v:= ?_) ?_ hHd ?_;rotate_left;(·(intro wq hSw;go_simp;(try with_reducible rfl)))));(try simp only[pS]))|((with_reducible refine t_on ?_);refine t_one (by simp only[gS];rfl) ?_)|((with_reducible refine t_tw ?_);refine t_two (by simp only[gS];rfl) (by simp only[gS];rfl) ?_ ?_)|(with_reducible refine load_c ?_)|(with_reducible refine store_c ?_;intro Vs hS hSB)|((with_reducible refine callop_c ?_);(rintro _ Vw ⟨A9,k9,B9,rfl,(_:RowC _ _ _ 80 _ _ _),(_:StepC _ _)⟩;refine⟨_,rfl,?_⟩))|((with_reducible refine q_nl ?_);clear hHd;refine t_next ⟨ExtC.h,cells_row (inferInstance:RowC _ (.slice (some ao) k co) B 80 9 k (encL o)) Hok.out Hj.out Hx.out⟩ (fun hHd=> ?_);(try simp only[pS]))|(with_reducible refine t_done ?_)
 all_goals
  by_cases z3:e3=0
  ·subst z3;obtain⟨t3,w3,ht3⟩:=H3.out rfl;have j8:=WriteRE.mk w3;have HT:=Lib.hid ht3;clear w3 ht3;go_wp2_with (first|(with_reducible refine call_c ?_;rintro _ Vk ⟨Ab,cb,Bb,fb,rfl,(_:ListB Span _ _ _),(_:ListB Right _ _ _),(_:StepC _ _)⟩)|(with_reducible refine call_c ?_;rintro _ Vw ⟨A9,k9,B9,rfl,(_:RowC _ _ _ 80 _ _ _),(_:StepC _ _)⟩)|((first|with_reducible refine call_c ?_);rintro _ V ⟨rfl,(_:StepC _ _)⟩;(try simp only[eq_self,decide_true]))|(with_reducible refine newvar_c (uu:=13) ?_;intro V13 g13 hE13 hB13 hA13)|(with_reducible refine newvar_c (uu:=15) ?_;intro V15 g15 hE15 hB15 hA15)|(with_reducible refine newvar_c (uu:=17) ?_;intro V17 g17 hE17 hB17 hA17)|(first|(with_reducible refine load_c ?_)|(with_reducible refine load_g ?_)))
   (try clear lk);(try clear qlt);(try clear q5);(try clear q6);(try clear q7);(try clear hk30)
   go_loopw [18,19] (fun tv jv wr2=>StepC V17 wr2∧∃j:Nat,j≤p.events.length∧tv=.bool (decide ((⟨xk,xd,⟨xc,xo⟩,xt,xq,xp,xu,xm⟩:Event)∈p.events.take j))∧jv=.int .i64 j) (fun _ jv _=>p.events.length-(RowKit.intOf jv).toNat)
   case atStart=>exact⟨⟨ExtC.h⟩,0,by omega,by simp,rfl⟩
   case round=>
    obtain⟨_,j,hj,rfl,rfl⟩:=hrel;by_cases lj:j<p.events.length
    ·have hmt:=mem_take2 (x:=(⟨xk,xd,⟨xc,xo⟩,xt,xq,xp,xu,xm⟩:Event)) lj;obtain⟨ae,rfl,hb⟩:=hl.elem lj;obtain⟨t0,ht0⟩:∃t0,decide ((⟨xk,xd,⟨xc,xo⟩,xt,xq,xp,xu,xm⟩:Event)∈p.events.take j)=t0:=⟨_,rfl⟩;rw[ht0] at hmt⊢;obtain⟨⟨yk,yd,⟨yc,yo⟩,yt,yq,yp,yu,ym⟩,hy⟩:∃x,p.events[j]=x:=⟨_,rfl⟩;rw[hy] at hb hmt;have hE:=fun W=>eql80 W yk yd yc yo yt yq yp yu ym xk xd xc xo xt xq xp xu xm
     obtain⟨b,hbb⟩:∃b,decide ((⟨yk,yd,⟨yc,yo⟩,yt,yq,yp,yu,ym⟩:Event)=⟨xk,xd,⟨xc,xo⟩,xt,xq,xp,xu,xm⟩)=b:=⟨_,rfl⟩;simp only[hbb] at hE;rw[hbb] at hmt;have i6:CellsB w (ae.add (j*9)) [.int .i64 yk,.int .i64 yd,.int .i64 yc,.int .i64 yo,.int .i64 yt,.int .i64 yq,.int .i64 yp,.int .i64 yu,.int .i64 ym]:=⟨hb⟩;have zj:IntKind.i64.wrap ((j:Int)+1)=(j:Int)+1:=IntWalk.i64_in _ (by omega)
     have Hmt:=Lib.hid hmt;clear hmt ht0 hy hbb hb
     cases t0
     ·go_wp2_with (first|(with_reducible refine load_c ?_))
      refine wp_rd ((.take 0 (.take 1 (.take 2 (.take 3 (.take 4 (.take 5 (.take 6 (.take 7 (.take 8 (.take 9 (.take 10 (.take 11 .nil))))))))))))) (fun hHd=> ?_) (hQ:=by intro _ _ _ _ _ h;exact h)
      repeat' first|((with_reducible refine t_tk ?_);(first|(refine tk (v:= ?_) ?_ hHd ?_;rotate_left;(·(intro wq hSw;go_simp;(try with_reducible rfl))))|(refine tw (v:= ?_) ?_ hHd ?_;rotate_left;(·(intro W' h;have:=StepC.mk h;first|with_reducible exact run_lc)))|(refine tw (v:= ?_) ?_ hHd ?_;rotate_left;(·(intro wq hSw;go_simp;(try with_reducible rfl)))));(try simp only[pS]))|(with_reducible refine t_done ?_)
      all_goals
       go_wp2
       exact⟨⟨⟨ExtC.h⟩,j+1,by omega,by rw[Hmt.out];simp,by push_cast;rfl⟩,by simp[RowKit.intOf];omega⟩
     ·go_wp2_with (first|(with_reducible refine load_c ?_))
      refine wp_rd ((.take 0 (.take 1 (.take 2 (.take 3 (.take 4 (.take 5 (.take 6 (.take 7 (.take 8 (.take 9 (.take 10 (.take 11 .nil))))))))))))) (fun hHd=> ?_) (hQ:=by intro _ _ _ _ _ h;exact h)
      repeat' first|((with_reducible refine t_tk ?_);(first|(refine tk (v:= ?_) ?_ hHd ?_;rotate_left;(·(intro wq hSw;go_simp;(try with_reducible rfl))))|(refine ts hHd ?_));(try simp only[pS]))|(with_reducible refine t_done ?_)
      all_goals
       go_wp2
       exact⟨⟨⟨ExtC.h⟩,j+1,by omega,by rw[Hmt.out];simp,by push_cast;rfl⟩,by simp[RowKit.intOf];omega⟩
    ·obtain rfl:j=p.events.length:=by omega
     obtain⟨tw,htw⟩:∃t0,decide ((⟨xk,xd,⟨xc,xo⟩,xt,xq,xp,xu,xm⟩:Event)∈p.events.take p.events.length)=t0:=⟨_,rfl⟩;have hT:=HT.out;rw[List.take_length] at htw;rw[htw] at hT;rw[List.take_length,htw];clear htw
     cases tw
     ·go_wp2_with (first|((first|with_reducible refine call_c ?_);rintro _ V ⟨rfl,(_:StepC _ _)⟩;(try simp only[eq_self,decide_true]))|(first|(with_reducible refine load_c ?_)|(with_reducible refine load_g ?_)))
      all_goals
       go_ret
       exact⟨rfl,⟨ExtC.h⟩⟩
     ·go_wp2_with (first|((first|with_reducible refine call_c ?_);rintro _ V ⟨rfl,(_:StepC _ _)⟩;(try simp only[eq_self,decide_true]))|(first|(with_reducible refine load_c ?_)|(with_reducible refine load_g ?_)))
      all_goals
       go_ret
       exact⟨rfl,⟨ExtC.h⟩⟩
  ·have q13:(e3 !=0)=true:=by simpa using z3
   clear z3;go_wp2_with (first|(with_reducible refine call_c ?_;rintro _ Vk ⟨Ab,cb,Bb,fb,rfl,(_:ListB Span _ _ _),(_:ListB Right _ _ _),(_:StepC _ _)⟩)|(with_reducible refine call_c ?_;rintro _ Vw ⟨A9,k9,B9,rfl,(_:RowC _ _ _ 80 _ _ _),(_:StepC _ _)⟩)|((first|with_reducible refine call_c ?_);rintro _ V ⟨rfl,(_:StepC _ _)⟩;(try simp only[eq_self,decide_true]))|(with_reducible refine newvar_c (uu:=13) ?_;intro V13 g13 hE13 hB13 hA13)|(with_reducible refine newvar_c (uu:=15) ?_;intro V15 g15 hE15 hB15 hA15)|(with_reducible refine newvar_c (uu:=17) ?_;intro V17 g17 hE17 hB17 hA17)|(first|(with_reducible refine load_c ?_)|(with_reducible refine load_g ?_)))
   all_goals
    go_ret
    exact⟨rfl,⟨ExtC.h⟩⟩
end Go.Rg
end
