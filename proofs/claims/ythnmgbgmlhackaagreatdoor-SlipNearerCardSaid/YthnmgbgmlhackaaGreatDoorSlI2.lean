/-
 What is used in the proof of a statement (part SlI2); no condition.
-/
import Derived.Test.YthnmgbgmlhackaaGreatDoorSlH
import Derived.Test.YthnmgbgmlhackaaGreatDoorSlK0
set_option linter.all false
set_option maxHeartbeats 40000000
set_option maxRecDepth 100000
section
namespace Go.Am.Sl
theorem Gs {c:aj}(h:bl c=0):oe c=0∧c.t.length≤48∧c.c.length≤48∧c.g.length≤6∧c.t.all dB=true∧c.c.all dB=true∧c.g.all (jr c.t.length)=true:=by
 unfold bl at h
 split at h
 ·rename_i h1;exact absurd h h1
 rename_i h1
 split at h
 ·cases h
 rename_i h2
 split at h
 ·rename_i h3
  simp only[bS] at h3
  exact⟨Decidable.not_not.1 h1,by omega,by omega,by omega,h3.1.1,h3.1.2,h3.2⟩
 cases h
end Go.Am.Sl
end
