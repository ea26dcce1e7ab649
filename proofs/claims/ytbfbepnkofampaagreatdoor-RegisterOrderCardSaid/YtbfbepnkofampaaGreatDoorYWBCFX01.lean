/- Chapter 11: contracts of functions of the program and of the reference, and plain laws (out of RZd RZe). No condition of its own. -/
import Derived.Test.YtbfbepnkofampaaGreatDoorYWBCDEF01
import Derived.Test.YtbfbepnkofampaaGreatDoorYWBCDEFX01
import Derived.Test.YtbfbepnkofampaaGreatDoorYWBCF01
set_option maxRecDepth 100000
set_option linter.all false
section
namespace Go.Rg
open Go Go.Bp Go.RowKit Go.Walk Go.Proofs
set_option synthInstance.maxSize 2000
set_option synthInstance.maxHeartbeats 400000
set_option maxHeartbeats 4000000
instance tyZd1:TyNe 86 95:=⟨by decide⟩
instance tyZd2:TyNe 86 74:=⟨by decide⟩
instance tyZd3:TyNe 170 95:=⟨by decide⟩
instance tyZd4:TyNe 170 74:=⟨by decide⟩
instance(priority:=2000)rowBans{W:World}{v pv:Value}{r:Rules}{p:Person}{l:List Span}{n:Int}[h:RulesC W v r][hp:PersonC W pv p][q:BansE r p l n]:FunC Tryz.prog 22 #[v,pv] W (RLR 95 W l n):=⟨Bans_row r p v pv l n W h.h hp.h q.h⟩
instance arrZd:ArrT Tryz.prog 170 5:=⟨⟨_,_,Tryz.underlying170⟩,by kernel_rfl⟩
instance zerZd:ZeroT Tryz.prog 170 [.int .i64 0,.int .i64 0,.int .i64 0,.int .i64 0,.int .i64 0]:=⟨.agg #[.int .i64 0,.int .i64 0,.int .i64 0,.int .i64 0,.int .i64 0],40,by kernel_rfl,by simp[Value.cells],by decide⟩
class WholeE (r:Rules) (p:Person) (d:Drive) (k:outParam Whole):Prop where h:r.bansAns p=(k.bans,0)∧r.pointsAns p d.day=(k.pts,0)∧r.heldAns p d.day=(k.held,0)∧r.whyAns p d=(k.why,0)∧r.writeAns p=(k.text,0)
abbrev RWhole(W:World)(k:Whole)(e:Ending)(W':World):Prop:=∃A c B f,e=.returned (.tuple #[.agg #[.slice A k.bans.length c,.int .i64 k.pts.counts,.int .i64 k.pts.fallen,.int .i64 k.pts.taken,.slice B k.held.length f,.int .i64 k.why,.string (S k.text)],.bool true])∧ListB Span W' (.slice A k.bans.length c) k.bans∧ListB Right W' (.slice B k.held.length f) k.held∧StepC W W'
set_option maxHeartbeats 8000000 in
theorem whole_any(r:Rules)(p:Person)(v pv:Value)(dd dc df:Int)(k:Whole)(w:World)(h:RulesV w v r)(hp:PersonV w pv p)(hv:EnvC w)(q:WholeE r p ⟨dd,dc,df⟩ k):Calls Tryz.prog 47 #[v,pv,.agg #[.int .i64 dd,.int .i64 dc,.int .i64 df]] w (RWhole w k):=by
 obtain⟨A1,n1,c1,A2,n2,c2,A3,n3,c3,rfl⟩:=h.form;obtain⟨A,c,rfl,hl⟩:=hp.h;have i1:=RulesB.mk h;have i2:=PersonB.mk hp;have i0:=EnvB.mk hv.h;obtain⟨bl,⟨p1,p2,p3⟩,hh,m,t⟩:=k;obtain⟨q1,q2,q3,q4,q5⟩:=q.h;have j1:BansE r p bl 0:=⟨q1⟩;have j2:PointsE r p dd ⟨p1,p2,p3⟩ 0:=⟨q2⟩;have j3:HeldE r p dd hh 0:=⟨q3⟩;have j4:WhyAE r p ⟨dd,dc,df⟩ m 0:=⟨q4⟩;have j5:WriteRE r p t 0:=⟨q5⟩;clear q q1 q2 q3 q4 q5 hv;go_enter Tryz.func47,Tryz.ntmps47
 go_wp2_with (first|(with_reducible refine alloc_c (d:=some 6) ?_;intro V6 g6 hE6 hB6 hA6)|(with_reducible refine alloc_c (d:=some 8) ?_;intro V8 g8 hE8 hB8 hA8)|(with_reducible refine alloc_c (d:=some 9) ?_;intro V9 g9 hE9 hB9 hA9)|(with_reducible refine call_c ?_;rintro _ V ⟨rfl,(_:StepC _ _)⟩;(try have rb:=(inferInstance:RowC V (.slice Ab bl.length cb) Bb 95 (Enc.size Span) bl.length (encL bl)));(try have rh:=(inferInstance:RowC V (.slice Ah hh.length ch) Bh 74 (Enc.size Right) hh.length (encL hh))))|(with_reducible refine call_c ?_;rintro _ Vb ⟨Ab,cb,Bb,rfl,(_:RowC _ _ _ 95 _ _ _),(_:StepC _ _)⟩)|(with_reducible refine call_c ?_;rintro _ Vh ⟨Ah,ch,Bh,rfl,(_:RowC _ _ _ 74 _ _ _),(_:StepC _ _)⟩;(try have rb:=(inferInstance:RowC Vh (.slice Ab bl.length cb) Bb 95 (Enc.size Span) bl.length (encL bl))))|(first|(with_reducible refine load_c ?_)|(with_reducible refine store_c ?_;intro V _ _)|(with_reducible refine box_c ?_;intro V g _ _ _)))
 refine wp_rt ((.take 0 (.take 1 (.take 2 (.take 3 (.one 4 (.take 5 .nil))))))) (fun w'=>Ext w w'∧Blk w' g8 86 #[.slice Ab bl.length cb,.int .i64 p1,.int .i64 p2,.int .i64 p3,.slice Ah hh.length ch,.int .i64 m,.string (S t)]∧Blk w' g9 170 #[.int .i64 0,.int .i64 0,.int .i64 0,.int .i64 0,.int .i64 0]) ?_ (fun hHd=> ?_) (hQ:=by intro _ _ _ _ _ h;exact h)
 ·exact⟨ExtC.h,(inferInstance:BlkC _ g8 86 _).h,(inferInstance:BlkC _ g9 170 _).h⟩
 repeat' first|((with_reducible refine t_tk ?_);(first|(refine tk (v:= ?_) ?_ hHd ?_;rotate_left;(·(intro W' h;obtain⟨h,ha,hb⟩:=h;have:=StepC.mk h;have i6:BlkC W' g8 86 [.slice Ab bl.length cb,.int .i64 p1,.int .i64 p2,.int .i64 p3,.slice Ah hh.length ch,.int .i64 m,.string (S t)]:=⟨ha⟩;have i7:BlkC W' g9 170 [.int .i64 0,.int .i64 0,.int .i64 0,.int .i64 0,.int .i64 0]:=⟨hb⟩;first|with_reducible exact run_lc)))|(refine tk (v:= ?_) ?_ hHd ?_;rotate_left;(·(intro wq hSw;go_simp;(try with_reducible rfl)))));(try simp only[pS]))|fail
 all_goals
  refine tk (v:=.bool true) (fun _ _=>by kernel_rfl) hHd ?_
  simp only[pS];repeat' first|((with_reducible refine t_tk ?_);(first|(refine tk (v:= ?_) ?_ hHd ?_;rotate_left;(·(intro wq hSw;go_simp;(try with_reducible rfl)))));(try simp only[pS]))|((with_reducible refine t_on ?_);refine t_one (by simp only[gS];rfl) ?_)|(with_reducible refine store_c ?_;intro Vs hS hSB)|((with_reducible refine q_nl ?_);clear hHd;refine t_next ⟨ExtC.h,(inferInstance:BlkC _ g8 86 _).h,(inferInstance:BlkC _ g9 170 _).h⟩ (fun hHd=> ?_);(try simp only[pS]))|(with_reducible refine t_done ?_)|fail
 all_goals
  go_wp2
  have e1:ListC Span Vs (.slice Ab bl.length cb) bl:=inferInstance;have e2:ListC Right Vs (.slice Ah hh.length ch) hh:=inferInstance;exact ret_cell2 rfl rfl (by with_unfolding_all rfl) ⟨Ab,cb,Ah,ch,rfl,⟨e1.h⟩,⟨e2.h⟩,⟨ExtC.h⟩⟩
instance qRZd23{W:World}{v pv:Value}{r:Rules}{p:Person}{dd dc df:Int}{k:Whole}[h:RulesC W v r][hp:PersonC W pv p][hv:EnvC W][q:WholeE r p ⟨dd,dc,df⟩ k]:FunC Tryz.prog 47 #[v,pv,.agg #[.int .i64 dd,.int .i64 dc,.int .i64 df]] W (RWhole W k):=⟨whole_any r p v pv dd dc df k W h.h hp.h hv q⟩
end Go.Rg
end
section
namespace Go.Rg
open Go Go.Bp Go.RowKit Go.Walk Go.Proofs
set_option synthInstance.maxSize 2000
set_option synthInstance.maxHeartbeats 400000
set_option maxHeartbeats 4000000
theorem whole_of{r:Rules}{p:Person}{d:Drive}(h:r.personErr p=0)(hd:r.driveErr p d=0):∃k:Whole,WholeE r p d k:=by
 obtain⟨d1,d2,d3,d4⟩:=Rules.drive_ok hd;refine⟨⟨runsTo (r.bansOf (sortE p.events)) 40001,r.pointsOf (sortE p.events) d.day,(r.heldAns p d.day).1,r.whyL p.born (sortE p.events) d,r.textL p.born (sortE p.events)⟩,⟨?_,?_,?_,?_,?_⟩⟩
 ·unfold Rules.bansAns;rw[if_neg (by simpa using h)]
 ·unfold Rules.pointsAns;rw[if_neg (by simpa using h),if_neg (by rw[inB_t.2 d1];simp)]
 ·rw[Rules.heldAns_of h d1 d2];split<;>rfl
 ·unfold Rules.whyAns;rw[if_neg (by simpa using h),if_neg (by simpa using hd)]
 ·unfold Rules.writeAns;rw[if_neg (by simpa using h)]
end Go.Rg
end
