import Derived.Test.YtbfbepnkofampaaGreatDoorXP26
import Derived.Test.YtbfbepnkofampaaGreatDoorXP29
import Derived.Test.YtbfbepnkofampaaGreatDoorXPX09
import Derived.Test.YtbfbepnkofampaaGreatDoorXPX10
import Derived.Test.YtbfbepnkofampaaGreatDoorXPX11
set_option maxRecDepth 100000
set_option synthInstance.maxSize 2000
set_option synthInstance.maxHeartbeats 400000
set_option maxHeartbeats 8000000
set_option linter.all false
section
namespace Go.Rg
open Go Go.Bp Go.RowKit Go.Walk Go.Proofs
class WhyAE (r:Rules) (p:Person) (d:Drive) (m n:outParam Int):Prop where h:r.whyAns p d=(m,n)
theorem Kn{r:Rules}{p:Person}{d:Drive}(h:r.driveErr p d=0):DrvC r.sys d:=by
 obtain⟨_,_,h3,h4⟩:=Rules.drive_ok h;exact⟨h3,h4⟩
theorem Oe(r:Rules)(p:Person)(v pv:Value)(dd dc df:Int)(m n:Int)(w:World)(h:RulesV w v r)(hp:PersonV w pv p)(hs:r.whyAns p ⟨dd,dc,df⟩=(m,n)):Calls Tryz.prog 30 #[v,pv,.agg #[.int .i64 dd,.int .i64 dc,.int .i64 df]] w (RII w m n):=by
 obtain⟨A1,n1,c1,A2,n2,c2,A3,n3,c3,rfl⟩:=h.form;obtain⟨A,c,rfl,hl⟩:=hp.h;have i1:=RulesB.mk h;have i0:=SysB.mk h.sys;have i2:=PersonB.mk hp;unfold Rules.whyAns at hs;by_cases hz:r.personErr p=0
 ·rw[if_neg (by simp[hz])] at hs
  have i3:PersOk r p:=⟨hz⟩;have hso:SysOk r.sys:=fH (Rules.person_ok hz).1;have hgb:=kQ hz;obtain⟨e,he⟩:∃x,r.driveErr p ⟨dd,dc,df⟩=x:=⟨_,rfl⟩;have i4:DrvE r p.born ⟨dd,dc,df⟩ e:=⟨he⟩;rw[he] at hs;by_cases hq:e=0
  ·subst hq;rw[if_neg (by simp)] at hs
   injection hs with m1 m2
   subst m1 m2;have i5:WhyE r (courts (sortE p.events)) (r.offs (sortE p.events)).bans (r.grants p.born (sortE p.events)) ⟨dd,dc,df⟩ (r.whyL p.born (sortE p.events) ⟨dd,dc,df⟩):=⟨⟨hgb,Kn he⟩,rfl⟩;clear hz hgb he;go_enter Tryz.func30,Tryz.ntmps30
   go_wp2_with (first|(with_reducible refine aB ?_;rintro _ Vo ⟨gf,gt,Ae,ce,Ac,cc,Ap,cp,Ag,cg,tkn,rfl,(_:BlkC _ _ _ _),(_:RowC _ _ _ _ _ _ _),(_:RowC _ _ _ _ _ _ _),(_:RowC _ _ _ _ _ _ _),(_:RowC _ _ _ _ _ _ _),(_:MapC _ _ _ _),hTk,hagf,hagt,(_:StepC _ _)⟩)|(first|(with_reducible refine aA ?_)|(with_reducible refine aB ?_;first|rintro _ V ⟨rfl,(_:StepC _ _)⟩)|(with_reducible refine aH ?_;intro V g _ _ _)))
   go_ret2
   exact⟨rfl,⟨ExtC.h⟩⟩
  ·rw[if_pos hq] at hs;injection hs with m1 m2
   subst m1 m2;have q:(e !=0)=true:=by simpa using hq
   clear hz hgb he hq;go_enter Tryz.func30,Tryz.ntmps30
   go_wp2_with (first|(with_reducible refine aB ?_;rintro _ Vo ⟨gf,gt,Ae,ce,Ac,cc,Ap,cp,Ag,cg,tkn,rfl,(_:BlkC _ _ _ _),(_:RowC _ _ _ _ _ _ _),(_:RowC _ _ _ _ _ _ _),(_:RowC _ _ _ _ _ _ _),(_:RowC _ _ _ _ _ _ _),(_:MapC _ _ _ _),hTk,hagf,hagt,(_:StepC _ _)⟩)|(first|(with_reducible refine aA ?_)|(with_reducible refine aB ?_;first|rintro _ V ⟨rfl,(_:StepC _ _)⟩)|(with_reducible refine aH ?_;intro V g _ _ _)))
   go_ret2
   exact⟨rfl,⟨ExtC.h⟩⟩
 ·rw[if_pos hz] at hs;injection hs with m1 m2
  subst m1 m2;have i3:PersBad r p _:=⟨rfl,hz⟩;have q:(r.personErr p !=0)=true:=by simpa using hz
  obtain⟨er,her⟩:∃e,r.personErr p=e:=⟨_,rfl⟩;rw[her] at i3 q⊢;clear hz her;go_enter Tryz.func30,Tryz.ntmps30
  go_wp2_with (first|(first|(with_reducible refine aA ?_)|(with_reducible refine aB ?_;first|rintro _ V ⟨rfl,(_:StepC _ _)⟩)|(with_reducible refine aH ?_;intro V g _ _ _)))
  go_ret2
  exact⟨rfl,⟨ExtC.h⟩⟩
instance{W:World}{v pv:Value}{r:Rules}{p:Person}{dd dc df m n:Int}[h:RulesC W v r][hp:PersonC W pv p][q:WhyAE r p ⟨dd,dc,df⟩ m n]:FunC Tryz.prog 30 #[v,pv,.agg #[.int .i64 dd,.int .i64 dc,.int .i64 df]] W (RII W m n):=⟨Oe r p v pv dd dc df m n W h.h hp.h q.h⟩
class WrongE (r:Rules) (p:Person) (ds:List Drive) (l:outParam (List (Int×Int))) (n:outParam Int):Prop where h:r.wrongAns p ds=(l,n)
theorem Gh(r:Rules)(p:Person)(v pv dv:Value)(ds:List Drive)(l:List (Int×Int))(n:Int)(w:World)(h:RulesV w v r)(hp:PersonV w pv p)(hd:ListV w dv ds)(hs:r.wrongAns p ds=(l,n)):Calls Tryz.prog 32 #[v,pv,dv] w (RLI w l n):=by
 obtain⟨A1,n1,c1,A2,n2,c2,A3,n3,c3,rfl⟩:=h.form;obtain⟨A,c,rfl,hl⟩:=hp.h;obtain⟨B,kb,rfl,-⟩:=hd.form;have hcap:=hd.caps;have i1:=RulesB.mk h;have i0:=SysB.mk h.sys;have i2:=PersonB.mk hp;have i7:=ListB.mk hd;unfold Rules.wrongAns at hs;by_cases hz:r.personErr p=0
 ·rw[if_neg (by simp[hz])] at hs
  have i3:PersOk r p:=⟨hz⟩;have hso:SysOk r.sys:=fH (Rules.person_ok hz).1;have hgb:=kQ hz;by_cases hn:30<ds.length
  ·rw[if_pos hn] at hs;injection hs with m1 m2
   subst m1 m2;have q:decide ((ds.length:Int)>30)=true:=by simp;omega
   clear hz hgb hn;go_enter Tryz.func32,Tryz.ntmps32
   go_wp2_with (first|(with_reducible refine aB ?_;rintro _ Vo ⟨gf,gt,Ae,ce,Ac,cc,Ap,cp,Ag,cg,tkn,rfl,(_:BlkC _ _ _ _),(_:RowC _ _ _ _ _ _ _),(_:RowC _ _ _ _ _ _ _),(_:RowC _ _ _ _ _ _ _),(_:RowC _ _ _ _ _ _ _),(_:MapC _ _ _ _),hTk,hagf,hagt,(_:StepC _ _)⟩)|(first|(with_reducible refine aA ?_)|(with_reducible refine aH ?_;intro V g _ _ _)))
   go_ret2
   exact⟨none,0,rfl,⟨ListV.nil⟩,⟨ExtC.h⟩⟩
  rw[if_neg hn] at hs;have q:decide ((ds.length:Int)>30)=false:=by simp;omega
  obtain⟨⟨fa,fe⟩,hf⟩:∃x,(firstE ds fun _ d=>r.driveErr p d)=x:=⟨_,rfl⟩
  have hf':(firstE ds fun _ d=>r.driveErr ⟨p.born,[]⟩ d)=(fa,fe):=hf
  rw[hf] at hs;simp only at hs;by_cases hq:fe=0
  ·subst hq;rw[if_neg (by simp)] at hs
   injection hs with m1 m2
   subst m1 m2;have hdr:∀k(hk:k<ds.length),r.driveErr p ds[k]=0:=fun k hk=>dH (f:=fun _ d=>r.driveErr p d) (by rw[hf]) k hk
   have Hdr:=Lib.hid hdr;have Hgb:=Lib.hid hgb;have Hwa:=Lib.hid (uU r p ds);clear hz hgb hf hdr;go_enter Tryz.func32,Tryz.ntmps32
   go_wp2_with (first|(with_reducible refine aB ?_;rintro _ Vo ⟨gf,gt,Ae,ce,Ac,cc,Ap,cp,Ag,cg,tkn,rfl,(_:BlkC _ _ _ _),(_:RowC _ _ _ _ _ _ _),(_:RowC _ _ _ _ _ _ _),(_:RowC _ _ _ _ _ _ _),(_:RowC _ _ _ _ _ _ _),(_:MapC _ _ _ _),hTk,hagf,hagt,(_:StepC _ _)⟩)|(first|(with_reducible refine aA ?_)|(with_reducible refine aB ?_;first|rintro _ V ⟨rfl,(_:StepC _ _)⟩)|(with_reducible refine aH ?_;intro V g _ _ _)))
   obtain⟨f,hf⟩:∃f,r.whyL p.born (sortE p.events)=f:=⟨_,rfl⟩;rw[hf] at Hwa;have Hf:=Lib.hid hf;clear hf;go_loopw [38,6] (fun iv lv wr=>StepC V wr∧∃(k:Nat)(o:List (Int×Int))(Ao:Option Addr)(co:Nat),k≤ds.length∧iv=.int .i64 k∧o=wrongTo f ds k∧lv=.slice Ao o.length co∧RowC wr (.slice Ao o.length co) V 97 2 o.length (encL o)∧o.length≤k) (fun iv _ _=>ds.length-(RowKit.intOf iv).toNat)
   case atStart=>exact⟨⟨ExtC.h⟩,0,[],none,0,by omega,rfl,(tJ _ _).symm,rfl,RowC.nil,by simp⟩
   case round=>
    obtain⟨_,k,o,Ao,co,hk,rfl,ho,rfl,hRo,hok⟩:=hrel;by_cases lk:k<ds.length
    ·obtain⟨ad,rfl,hc⟩:=hd.elem lk;have hsu:=tK f ds lk;rw[←ho] at hsu;have hdk:=Hdr.out k lk;obtain⟨⟨dd,dc,df⟩,hx⟩:∃x,ds[k]=x:=⟨_,rfl⟩;rw[hx] at hc hsu hdk;obtain⟨nw,hnw⟩:∃n,f ⟨dd,dc,df⟩=n:=⟨_,rfl⟩;rw[hnw] at hsu;have i5:WhyE r (courts (sortE p.events)) (r.offs (sortE p.events)).bans (r.grants p.born (sortE p.events)) ⟨dd,dc,df⟩ nw:=⟨⟨Hgb.out,Kn hdk⟩,by rw[←hnw,←Hf.out];rfl⟩
     have i9:CellsB w (ad.add (k*3)) [.int .i64 dd,.int .i64 dc,.int .i64 df]:=⟨hc⟩;have zk:IntKind.i64.wrap ((k:Int)+1)=(k:Int)+1:=IntWalk.i64_in _ (by omega)
     clear hc hx ho hdk hnw;by_cases c1:nw=0
     ·rw[if_neg (by simp[c1])] at hsu
      subst c1;simp only[List.append_nil] at hsu;have Hsu:=Lib.hid hsu;clear hsu;go_wp2_with (first|(first|(with_reducible refine aA ?_)|(with_reducible refine aB ?_;first|rintro _ V1 ⟨rfl,(_:StepC _ _)⟩)|(with_reducible refine aI ?_;intro V1 _ _)|(with_reducible refine aR ?_;intro V1 g _ _ _)))
      exact⟨⟨⟨ExtC.h⟩,k+1,o,Ao,co,lk,by push_cast;rfl,Hsu.out.symm,rfl,inferInstance,by omega⟩,by simp[RowKit.intOf];omega⟩
     ·rw[if_pos c1] at hsu;have q5:(nw !=0)=true:=by simpa using c1
      have Hsu:=Lib.hid hsu;clear hsu c1;go_wp2_with (first|(first|(with_reducible refine aA ?_)|(with_reducible refine aB ?_;first|rintro _ V1 ⟨rfl,(_:StepC _ _)⟩)|(with_reducible refine aI ?_;intro V1 _ _)|(with_reducible refine aR ?_;intro V1 g _ _ _)|(with_reducible refine aD ?_;intro V1 g _ _ _)|(with_reducible refine bR ?_;intro _ _ V1 hR _)))
      obtain⟨A8,c8,e8,h8⟩:=cV (l:=o) (x:=(((k:Int),nw):Int×Int)) Hsu.out hR;exact⟨⟨⟨ExtC.h⟩,k+1,_,A8,c8,lk,by push_cast;rfl,rfl,e8,h8,by rw[Hsu.out];simp;omega⟩,by simp[RowKit.intOf];omega⟩
    ·obtain rfl:k=ds.length:=by omega
     rw[Hwa.out] at ho;subst ho;go_wp2
     go_ret2
     exact⟨Ao,co,rfl,⟨(inferInstance:RowC _ (.slice Ao (r.wrongL p ds).length co) _ 97 2 _ _).list rfl rfl rfl⟩,⟨ExtC.h⟩⟩
  ·rw[if_pos hq] at hs;injection hs with m1 m2
   subst m1 m2;have q2:(fe !=0)=true:=by simpa using hq
   clear hz hgb hq hf;go_enter Tryz.func32,Tryz.ntmps32
   go_wp2_with (first|(with_reducible refine aB ?_;rintro _ Vo ⟨gf,gt,Ae,ce,Ac,cc,Ap,cp,Ag,cg,tkn,rfl,(_:BlkC _ _ _ _),(_:RowC _ _ _ _ _ _ _),(_:RowC _ _ _ _ _ _ _),(_:RowC _ _ _ _ _ _ _),(_:RowC _ _ _ _ _ _ _),(_:MapC _ _ _ _),hTk,hagf,hagt,(_:StepC _ _)⟩)|(first|(with_reducible refine aA ?_)|(with_reducible refine aB ?_;first|rintro _ V ⟨rfl,(_:StepC _ _)⟩)|(with_reducible refine aH ?_;intro V g _ _ _)))
   go_ret2
   exact⟨none,0,rfl,⟨ListV.nil⟩,⟨ExtC.h⟩⟩
 ·rw[if_pos hz] at hs;injection hs with m1 m2
  subst m1 m2;have i3:PersBad r p _:=⟨rfl,hz⟩;have q:(r.personErr p !=0)=true:=by simpa using hz
  obtain⟨er,her⟩:∃e,r.personErr p=e:=⟨_,rfl⟩;rw[her] at i3 q⊢;clear hz her;go_enter Tryz.func32,Tryz.ntmps32
  go_wp2_with (first|(first|(with_reducible refine aA ?_)|(with_reducible refine aB ?_;first|rintro _ V ⟨rfl,(_:StepC _ _)⟩)|(with_reducible refine aH ?_;intro V g _ _ _)))
  go_ret2
  exact⟨none,0,rfl,⟨ListV.nil⟩,⟨ExtC.h⟩⟩
instance{W:World}{v pv dv:Value}{r:Rules}{p:Person}{ds:List Drive}{l:List (Int×Int)}{n:Int}[h:RulesC W v r][hp:PersonC W pv p][hd:ListC Drive W dv ds][q:WrongE r p ds l n]:FunC Tryz.prog 32 #[v,pv,dv] W (RLI W l n):=⟨Gh r p v pv dv ds l n W h.h hp.h hd.h q.h⟩
def lawR:Rules:=⟨⟨[⟨⟨#[97,109]⟩,[],-1,16,0⟩,⟨⟨#[98]⟩,[0],-1,18,15⟩],[⟨#[109,97,110,117,97,108]⟩]⟩,[⟨⟨#[100,111,118,101,114]⟩,⟨1,1⟩,⟨8000,9000⟩⟩],8,1000,90⟩
def lawP:Person:=⟨0,[⟨0,6000,⟨0,0⟩,0,0,0,0,0⟩,⟨0,6500,⟨1,0⟩,0,0,0,0,0⟩,⟨0,6600,⟨1,0⟩,0,0,0,0,0⟩,⟨3,7000,⟨0,0⟩,0,0,5,0,0⟩,⟨3,7500,⟨0,0⟩,0,0,4,0,0⟩,⟨1,8500,⟨0,0⟩,0,0,0,0,0⟩,⟨2,12000,⟨0,0⟩,0,1,0,0,0⟩,⟨4,7200,⟨0,0⟩,0,0,0,7250,0⟩]⟩
def lawD:List Drive:=[⟨6550,1,0⟩,⟨7230,1,0⟩,⟨7510,1,0⟩,⟨5000,0,0⟩,⟨7000,1,0⟩]
theorem uE(w:World):Calls Tryz.prog 42 #[] w fun e W'=>∃v,e=.returned v∧RulesB W' v lawR∧StepC w W':=by
 go_enter Tryz.func42,Tryz.ntmps42
 go_wp2_with (first|(with_reducible refine aD (d:=some 2) ?_;intro V2 g2 hE2 hB2 hA2)|(with_reducible refine aD (d:=some 4) ?_;intro V4 g4 hE4 hB4 hA4)|(with_reducible refine aD (d:=some 5) ?_;intro V5 g5 hE5 hB5 hA5)|(with_reducible refine aD (d:=some 10) ?_;intro V10 g10 hE10 hB10 hA10)|(first|(with_reducible refine aI ?_;intro V _ _)|(with_reducible refine aR ?_;intro V g _ _ _)))
 have e1:ListV V (.slice (some ⟨g2,0,none⟩) 1 1) ([0]:List Int):=ListV.blk (inferInstance:BlkC V g2 _ _).h rfl rfl (by decide)
 have e2:ListV V (.slice (some ⟨g4,0,none⟩) 2 2) ([⟨⟨⟨#[97,109]⟩,[],-1,16,0⟩,none,0⟩,⟨⟨⟨#[98]⟩,[0],-1,18,15⟩,some ⟨g2,0,none⟩,1⟩]:List ClsA):=ListV.blk (inferInstance:BlkC V g4 _ _).h rfl rfl (by decide)
 have e3:ListV V (.slice (some ⟨g5,0,none⟩) 1 1) lawR.sys.codes:=ListV.blk (inferInstance:BlkC V g5 _ _).h rfl rfl (by decide)
 have e4:ListV V (.slice (some ⟨g10,0,none⟩) 1 1) lawR.treaties:=ListV.blk (inferInstance:BlkC V g10 _ _).h rfl rfl (by decide)
 exact gF rfl rfl (by with_unfolding_all rfl) ⟨_,rfl,⟨⟨⟨_,_,_,_,_,_,_,rfl,rfl,⟨_,rfl,e2,by
  intro x hx;simp only[List.mem_cons,List.not_mem_nil,or_false] at hx;rcases hx with rfl|rfl
  ·exact ListV.nil
  ·exact e1⟩,e3,e4⟩,⟨⟨by decide,by decide⟩,by decide⟩⟩⟩,⟨ExtC.h⟩⟩
theorem rW(w:World):Calls Tryz.prog 43 #[] w fun e W'=>∃g,e=.returned (.agg #[.int .i64 0,.slice (some ⟨g,0,none⟩) 8 8])∧BlkC W' g 80 (encL lawP.events)∧StepC w W'∧AtC w g:=by
 go_enter Tryz.func43,Tryz.ntmps43
 go_wp2_with (first|(with_reducible refine aD (d:=some 13) ?_;intro V13 g13 hE13 hB13 hA13)|(first|(with_reducible refine aA ?_)|(with_reducible refine aG ?_;intro V g _ _ _)|(with_reducible refine aI ?_;intro V _ _)|(with_reducible refine aR ?_;intro V g _ _ _)))
 exact gF rfl rfl (by with_unfolding_all rfl) ⟨g13,rfl,(inferInstance:BlkC V g13 80 _),⟨ExtC.h⟩,AtC.up hA13⟩
theorem rX(w:World):Calls Tryz.prog 44 #[] w fun e W'=>∃g,e=.returned (.slice (some ⟨g,0,none⟩) 5 5)∧BlkC W' g 57 [.int .i64 6550,.int .i64 1,.int .i64 0,.int .i64 7230,.int .i64 1,.int .i64 0,.int .i64 7510,.int .i64 1,.int .i64 0,.int .i64 5000,.int .i64 0,.int .i64 0,.int .i64 7000,.int .i64 1,.int .i64 0]∧StepC w W':=by
 go_enter Tryz.func44,Tryz.ntmps44
 go_wp2_with (first|(with_reducible refine aD ?_;intro V g _ _ _))
 go_ret
 exact⟨_,rfl,inferInstance,⟨ExtC.h⟩⟩
instance{W:World}:FunC Tryz.prog 42 #[] W (fun e W'=>∃v,e=.returned v∧RulesB W' v lawR∧StepC W W'):=⟨uE W⟩
instance{W:World}:FunC Tryz.prog 43 #[] W (fun e W'=>∃g,e=.returned (.agg #[.int .i64 0,.slice (some ⟨g,0,none⟩) 8 8])∧BlkC W' g 80 (encL lawP.events)∧StepC W W'∧AtC W g):=⟨rW W⟩
instance{W:World}:FunC Tryz.prog 44 #[] W (fun e W'=>∃g,e=.returned (.slice (some ⟨g,0,none⟩) 5 5)∧BlkC W' g 57 [.int .i64 6550,.int .i64 1,.int .i64 0,.int .i64 7230,.int .i64 1,.int .i64 0,.int .i64 7510,.int .i64 1,.int .i64 0,.int .i64 5000,.int .i64 0,.int .i64 0,.int .i64 7000,.int .i64 1,.int .i64 0]∧StepC W W'):=⟨rX W⟩
instance lawPer{W:World}{g:Nat}[h:BlkC W g 80 (encL lawP.events)]:PersonC W (.agg #[.int .i64 0,.slice (some ⟨g,0,none⟩) 8 8]) lawP:=⟨⟨_,_,rfl,ListV.blk h.h rfl rfl (by decide)⟩⟩
instance lawDri{W:World}{g:Nat}[h:BlkC W g 57 [.int .i64 6550,.int .i64 1,.int .i64 0,.int .i64 7230,.int .i64 1,.int .i64 0,.int .i64 7510,.int .i64 1,.int .i64 0,.int .i64 5000,.int .i64 0,.int .i64 0,.int .i64 7000,.int .i64 1,.int .i64 0]]:ListC Drive W (.slice (some ⟨g,0,none⟩) 5 5) lawD:=⟨ListV.blk h.h rfl rfl (by decide)⟩
theorem RowC.of_blk{B W:World}{g n sz:Nat}{t:TypeId}{cs:List Value}(h:BlkC W g t cs)(hB:B.heap.size≤g)(hn:cs.length=n*sz)(hm:n≤1000000):RowC W (.slice (some ⟨g,0,none⟩) n n) B t sz n cs:=
 ⟨⟨hn,.inr ⟨g,n,cs.toArray,rfl,hB,h.h,Nat.le_refl _,by unfold maxLen;omega,by simpa using hn,by simp[←hn]⟩⟩⟩
end Go.Rg
end
section
namespace Go.Rg
open Go Go.Bp
theorem lp_err:lawR.personErr lawP=0:=by decide +kernel
theorem lp_sort:lawR.sortedAns lawP=(0,[⟨0,6000,⟨0,0⟩,0,0,0,0,0⟩,⟨0,6500,⟨1,0⟩,0,0,0,0,0⟩,⟨0,6600,⟨1,0⟩,0,0,0,0,0⟩,⟨3,7000,⟨0,0⟩,0,0,5,0,0⟩,⟨4,7200,⟨0,0⟩,0,0,0,7250,0⟩,⟨3,7500,⟨0,0⟩,0,0,4,0,0⟩,⟨1,8500,⟨0,0⟩,0,0,0,0,0⟩,⟨2,12000,⟨0,0⟩,0,1,0,0,0⟩],0):=by decide +kernel
theorem lp_bans:lawR.bansAns lawP=([⟨7200,7250⟩,⟨7501,7590⟩],0):=by
 unfold Rules.bansAns;rw[if_neg (by rw[lp_err];decide)]
 have hall:lawR.bansOf (sortE lawP.events)=[⟨7200,7250⟩,⟨7501,7590⟩]:=by decide +kernel
 rw[hall,←Dk (m:=[⟨7200,7250⟩,⟨7501,7590⟩]) (by decide) (fun s=>Iff.rfl) (by decide)]
 rfl
theorem lp_points:lawR.pointsAns lawP 7500=(⟨0,0,9⟩,0):=by decide +kernel
theorem lp_held:lawR.heldAns lawP 8500=([⟨1,0⟩],0):=by decide +kernel
theorem lp_why:lawR.whyAns lawP ⟨7510,1,0⟩=(2,0):=by decide +kernel
theorem lp_wrong:lawR.wrongAns lawP lawD=([(0,6),(1,1),(2,2),(3,3)],0):=by decide +kernel
def lawP9:Person:=⟨0,lawP.events++ [⟨0,6000,⟨0,0⟩,0,0,0,0,30⟩]⟩
theorem lp_imp:lawR.impostorsAns lawP9=([(0,1)],0):=by decide +kernel
def lawP1:Person:=⟨0,lawP.events.take 1⟩
def lawT:List UInt8:=[98,111,114,110,32,50,48,48,48,45,48,49,45,48,49,10,112,97,115,115,32,50,48,49,54,45,48,54,45,48,53,32,48,48,58,48,48,32,97,109,10]
theorem lp_write:lawR.writeAns lawP1=(lawT,0):=by decide +kernel
theorem lp_check:lawR.check.2.2=0:=by decide +kernel
theorem lp_read:ReadNoE lawR ⟨#[98,111,114,110,32,50,48,48,48,45,48,49,45,48,49]⟩:=⟨lp_check,by decide,by decide +kernel⟩
end Go.Rg
end
section
namespace Go.Rg
open Go Go.Bp Go.RowKit Go.Walk Go.Proofs
instance aw1:BansE lawR lawP [⟨7200,7250⟩,⟨7501,7590⟩] 0:=⟨lp_bans⟩
instance aw2:PointsE lawR lawP 7500 ⟨0,0,9⟩ 0:=⟨lp_points⟩
instance aw3:HeldE lawR lawP 8500 [⟨1,0⟩] 0:=⟨lp_held⟩
instance aw4:WhyAE lawR lawP ⟨7510,1,0⟩ 2 0:=⟨lp_why⟩
instance aw5:WrongE lawR lawP lawD [(0,6),(1,1),(2,2),(3,3)] 0:=⟨lp_wrong⟩
instance aw8:WriteRE lawR lawP1 lawT 0:=⟨lp_write⟩
instance aw9:ReadNoE lawR ⟨#[98,111,114,110,32,50,48,48,48,45,48,49,45,48,49]⟩:=lp_read
instance aw6{W:World}{v pv:Value}[h:RulesC W v lawR][hp:PersonC W pv lawP]:FunC Tryz.prog 18 #[v,pv] W (fun e W'=>∃ad c,e=.returned (.tuple #[.agg #[.int .i64 0,.slice (some ad) 8 c],.int .i64 0])∧CellsB W' (ad.add 36) [.int .i64 4]∧StepC W W'):=⟨by
 refine(Bw lawR lawP v pv _ _ _ W h.h hp.h lp_sort).mono ?_;rintro e W' ⟨A,c,rfl,hl,hs⟩;obtain⟨ad,rfl,hc⟩:=hl.h.elem (i:=4) (by decide)
 refine⟨ad,c,rfl,⟨?_⟩,hs⟩;intro j u hu
 cases j with
 |zero=>exact hc 0 u (by simpa [Enc.enc] using hu)
 |succ j=>simp at hu⟩
instance awRow{B W:World}{g:Nat}[h:BlkC W g 80 (encL lawP.events)][q:AtC B g]:RowC W (.slice (some ⟨g,0,none⟩) 8 8) B 80 9 8 (encL lawP.events):=RowC.of_blk h q.h rfl (by decide)
instance awPer9{B W:World}{A:Option Addr}{c:Nat}[h:RowC W (.slice A 9 c) B 80 9 9 (encL lawP.events++ [.int .i64 0,.int .i64 6000,.int .i64 0,.int .i64 0,.int .i64 0,.int .i64 0,.int .i64 0,.int .i64 0,.int .i64 30])]:PersonC W (.agg #[.int .i64 0,.slice A 9 c]) lawP9:=⟨⟨A,c,rfl,h.list (l:=lawP9.events) rfl rfl rfl⟩⟩
instance awPer1{W:World}{g:Nat}[h:BlkC W g 80 (encL lawP.events)]:PersonC W (.agg #[.int .i64 0,.slice (some ⟨g,0,none⟩) 1 8]) lawP1:=⟨⟨_,_,rfl,(ListV.blk (l:=lawP.events) (n:=8) h.h rfl rfl (by decide)).upto (by decide)⟩⟩
instance awT1:TyNe 31 80:=⟨by decide⟩
section
variable{P:Program}{ops:Array Oper}{Q:Exit→Act→World→Prop}{A:Act}{rest:List Oper}{W:World}{d:Option Tmp}{t e ty:TypeId}{pos:String}{after:Array Edge}{x y:Operand}{z:List Value}{A0:Option Addr}{n c k:Nat}
theorem Ph[st:SlT P t e][q:ZeroT P e z](g:wpList P ops Q rest (A.put d (.slice A0 k c)) W)(h1:A.eval x=.slice A0 n c)(h2:A.eval y=.int .i64 (k:Int))(h3:k≤c):wpList P ops Q (⟨d,.slice t x none (some y) none,ty,pos,after,none⟩::rest) A W:=
 Co rfl (pP (n:=n) ⟨h1,h2,h3,rfl⟩) g
end
instance awAl{W:World}{o:Obj}:StepC W (W.alloc o):=⟨Ext.ofAlloc _ _⟩
theorem Oc{α:Type}[Enc α]{W:World}{cs:Array Value}{t n:Nat}{l:List α}(he:cs=(encL l).toArray)(hn:n=l.length)(hm:n≤maxLen):ListV (W.alloc (.cells cs t)) (.slice (some ⟨W.heap.size,0,none⟩) n n) l:=ListV.blk (e:=t) (by unfold Blk World.alloc;simp) he hn hm
instance awL1{W:World}{a b c d:Int}:ListC Span (W.alloc (.cells #[.int .i64 a,.int .i64 b,.int .i64 c,.int .i64 d] 95)) (.slice (some ⟨W.heap.size,0,none⟩) 2 2) [⟨a,b⟩,⟨c,d⟩]:=⟨Oc rfl rfl (by decide)⟩
instance awW4{W:World}{u:Nat}{a b c d e f g h:Int}[i:BlkC W u 97 [.int .i64 a,.int .i64 b,.int .i64 c,.int .i64 d,.int .i64 e,.int .i64 f,.int .i64 g,.int .i64 h]]:ListC (Int×Int) W (.slice (some ⟨u,0,none⟩) 4 4) [(a,b),(c,d),(e,f),(g,h)]:=⟨ListV.blk i.h rfl rfl (by decide)⟩
instance awW1{W:World}{u:Nat}{a b:Int}[i:BlkC W u 124 [.int .i64 a,.int .i64 b]]:ListC (Int×Int) W (.slice (some ⟨u,0,none⟩) 1 1) [(a,b)]:=⟨ListV.blk i.h rfl rfl (by decide)⟩
theorem awPI:pI [(0,1)]=[(0,1)]:=rfl
instance aw7{W:World}{v pv:Value}[h:RulesC W v lawR][hp:PersonC W pv lawP9]:FunC Tryz.prog 35 #[v,pv] W (RLI W ([(0,1)]:List (Int×Int)) 0):=⟨awPI▸lC lawR lawP9 v pv _ _ W h.h hp.h lp_imp⟩
theorem awTx:((S lawT).toList== [98,111,114,110,32,50,48,48,48,45,48,49,45,48,49,10,112,97,115,115,32,50,48,49,54,45,48,54,45,48,53,32,48,48,58,48,48,32,97,109,10])=true:=by decide +kernel
theorem fieldL(a:Value)(A:Option Addr)(n c:Nat)(W:World):Sem.run Tryz.prog (Instr.field 31 (.agg #[a,.slice A n c]) 1) W=.ok (.slice A n c) W:=by kernel_rfl
theorem Gu(w:World)[hv:EnvC w]:Calls Tryz.prog 21 #[] w (RB w true):=by
 have i0:=EnvB.mk hv.h;go_enter Tryz.func21,Tryz.ntmps21
 go_wp2_with (first|(with_reducible refine aG (uu:=3) ?_;intro V3 g3 hE3 hB3 hA3)|(with_reducible refine aG (uu:=11) ?_;intro V11 g11 hE11 hB11 hA11)|(with_reducible refine aB ?_;rintro _ Vr ⟨vr,rfl,(_:RulesB _ _ _),(_:StepC _ _)⟩)|(with_reducible refine aB ?_;rintro _ Vp ⟨gp,rfl,(_:BlkC _ _ _ _),(_:StepC _ _),(hAp:AtC _ _)⟩)|(with_reducible refine aB ?_;rintro _ Vd ⟨gd,rfl,(_:BlkC _ _ _ _),(_:StepC _ _)⟩)|(with_reducible refine aB ?_;rintro _ Vs ⟨ads,cs,rfl,(_:CellsB _ _ _),(_:StepC _ _)⟩)|(with_reducible refine bR (n:=8) (m:=1) ?_;intro A9 c9 V9 hR9 hG9)|(first|(with_reducible refine aA ?_)|(with_reducible refine aB ?_;first|rintro _ V ⟨rfl,(_:StepC _ _)⟩|rintro _ V ⟨_,_,rfl,_,(_:StepC _ _)⟩)|(with_reducible refine aG ?_;intro V g _ _ _)|(with_reducible refine aI ?_;intro V _ _)|(with_reducible refine aD ?_;intro V g _ _ _)))
 refine aP ((.take 1 (.one 0 (.one 2 (.take 3 (.take 4 (.take 5 (.take 6 (.take 7 .nil))))))))) (fun hHd=> ?_) (hQ:=by intro _ _ _ _ _ h;exact h)
 repeat' first|((with_reducible refine aX ?_);(first|(refine tk (v:= ?_) ?_ hHd ?_;rotate_left;(·(intro W' h;have:=StepC.mk h;first|with_reducible exact aJ)))|(refine tk (v:= ?_) ?_ hHd ?_;rotate_left;(·(intro wq hSw;go_simp;(try with_reducible rfl)))));(try simp only[pS]))|((with_reducible refine bC ?_);refine aQ (by simp only[gS];rfl) ?_)|((first|with_reducible refine aN ?_);first|(rintro _ V ⟨gq,rfl,_,(_:StepC _ _)⟩;refine⟨_,rfl,?_⟩)|(rintro _ V ⟨_,_,rfl,_,(_:StepC _ _)⟩;refine⟨_,rfl,?_⟩))|((with_reducible refine bD ?_);clear hHd;refine aM ExtC.h (fun hHd=> ?_);(try simp only[pS]))|(with_reducible refine aF ?_)
 all_goals
  go_wp2_with (first|((first|with_reducible refine aB ?_);rintro _ V ⟨rfl,(_:StepC _ _)⟩;(try simp only[awPI,eq_self,decide_true]);have h3:=(inferInstance:BlkC V g3 45 [.int .i64 0,.int .i64 0,.int .i64 9]).h;have c30:=h3.cell 0;have c31:=h3.cell 1;have c32:=h3.cell 2;have c11:=(inferInstance:BlkC V g11 31 [.int .i64 0,.slice (some ads) 8 cs]).h.cell 1;have c36:=(inferInstance:CellsC V (ads.add 36) [.int .i64 4]).h 0 _ rfl;rw[add_zero',show ads.add 36=(⟨ads.block,ads.off+36,none⟩:Addr) from rfl] at c36;simp at c30 c31 c32 c11)|(with_reducible refine aB ?_;rintro _ Vr ⟨vr,rfl,(_:RulesB _ _ _),(_:StepC _ _)⟩)|(with_reducible refine aB ?_;rintro _ Vp ⟨gp,rfl,(_:BlkC _ _ _ _),(_:StepC _ _),(hAp:AtC _ _)⟩)|(with_reducible refine Ph (k:=1) ?_ (by with_unfolding_all rfl) (by with_unfolding_all rfl) (by decide))|(rw[fieldL];simp only[Result.andThen];rw[Oper.upon_value])|(first|(with_reducible refine bA ?_)|(with_reducible refine bH ?_)|(with_reducible refine aB ?_;first|rintro _ V ⟨_,_,rfl,_,(_:StepC _ _)⟩)|(with_reducible refine aG ?_;intro V g _ _ _)|(with_reducible refine aD ?_;intro V g _ _ _)))
  (try rw[awTx])
  go_ret
  exact⟨rfl,⟨ExtC.h⟩⟩
instance{W:World}[hv:EnvC W]:FunC Tryz.prog 21 #[] W (RB W true):=⟨Gu W⟩
end Go.Rg
end
section
namespace Go.Rg
open Go Go.Bp Go.RowKit Go.Walk Go.Proofs
structure Whole where
 bans:List Span
 pts:Points
 held:List Right
 why:Int
 text:List UInt8
end Go.Rg
end
