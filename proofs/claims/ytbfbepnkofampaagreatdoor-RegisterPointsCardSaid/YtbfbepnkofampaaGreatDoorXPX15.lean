import Derived.Test.YtbfbepnkofampaaGreatDoorXPX14
set_option maxRecDepth 100000
set_option synthInstance.maxSize 2000
set_option synthInstance.maxHeartbeats 400000
set_option maxHeartbeats 8000000
set_option linter.all false
section
namespace Go.Rg
open Go Go.Bp Go.RowKit Go.Walk Go.Proofs
instance{W:World}{v pv:Value}{r:Rules}{p:Person}{G:List Grant}[h:RulesC W v r][hp:PersonC W pv p][q:RGrnE r p G]:FunC Tryz.prog 73 #[v,pv] W (RL W G):=⟨wG r p v pv G W h.h hp.h q.h.1 q.h.2⟩
theorem drive_ok{r:Rules}{p:Person}{d:Drive}(h:r.driveErr p d=0):(0≤d.day∧d.day≤40000)∧p.born≤d.day∧(0≤d.cls∧d.cls<r.sys.classes.length)∧0≤d.features∧d.features<r.sys.sets:=by
 unfold Rules.driveErr at h;by_cases h1:inB d.day 0 40000=false
 ·rw[if_pos h1] at h;simp at h
 ·rw[if_neg h1] at h;by_cases h2:d.day<p.born
  ·rw[if_pos h2] at h;simp at h
  ·rw[if_neg h2] at h;by_cases h3:inB d.cls 0 ((r.sys.classes.length:Int)-1)=false
   ·rw[if_pos h3] at h;simp at h
   ·rw[if_neg h3] at h;by_cases h4:inB d.features 0 (r.sys.sets-1)=false
    ·rw[if_pos h4] at h;simp at h
    ·have e1:=inB_t.1 (show inB d.day 0 40000=true by simpa using h1)
     have e3:=inB_t.1 (show inB d.cls 0 ((r.sys.classes.length:Int)-1)=true by simpa using h3)
     have e4:=inB_t.1 (show inB d.features 0 (r.sys.sets-1)=true by simpa using h4)
     omega
end Go.Rg
end
