/- The example of the chapter, which every statement holds: one closed run, by the kernel; it answers true from every state. No condition. By an AI agent. -/
import Derived.Test.YtlklljjppambpaaGreatDoorOvZ
namespace Go.Proofs.YtlklljjppambpaaGreatDoor.oev
open Go.Ev Go.RowKit
set_option maxRecDepth 100000
noncomputable def pcE (hooks:List Hook):PC:=pcM hooks [11]
theorem zMz (hooks:List Hook):PcOk Tryz.prog (pcE hooks)∧(pcE hooks).hooks=hooks:=by
 unfold pcE pcM
 exact zy0 (by kernel_rfl) (by kernel_rfl) (by kernel_rfl) (by kernel_rfl) (by kernel_rfl)
theorem zM7:zJt (pcE []) 1500 8 (Go.Ev.start 4)=true:=by kernel_rfl
theorem zM2:zK Tryz.prog K 8:=by
 rintro a s rfl
 obtain ⟨s1,h⟩:=zEi (zMz []).1 (by rw [(zMz []).2];intro h hx;cases hx) zM7
 exact ⟨_,_,qM.closed (G:=4) (by kernel_rfl) (by kernel_rfl) h s,rfl,rfl⟩
end Go.Proofs.YtlklljjppambpaaGreatDoor.oev
