/- co of this claim: Y12. -/
import Derived.Test.YtmogpgcfognefaaGreatDoorNeY11
import Derived.KernelRfl
set_option linter.all false
namespace Go.Proofs.YtmogpgcfognefaaGreatDoor
open Go

structure Kd(k:List Int):Prop where
 pos:1≤k.length
 le:k.length≤16
 vals: ∀x∈k,0≤x∧x≤4
def K3(k:List Int):Prop:= ∀x∈k,0≤x∧x≤3
theorem SY{a:List Int}{e:Int}(h:EW a e=false):SZ a e∈a:=by
 simp [EW]at h
 unfold SZ
 rw [pR (by omega)]
 exact Db _
end Go.Proofs.YtmogpgcfognefaaGreatDoor

