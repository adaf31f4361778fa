/- The example of the chapter, which every statement holds: one closed run, by the kernel; it answers true from every state. No condition. By an AI agent. -/
import Derived.Test.YtlklljjppambpaaGreatDoorOvZ
namespace Go.Proofs.YtlklljjppambpaaGreatDoor.oev
open Go.Ev Go.RowKit
set_option maxRecDepth 100000
noncomputable def pcE (hooks:List Hook):PC:=pcM hooks [11]
theorem zNh (hooks:List Hook):PcOk Tryz.prog (pcE hooks)∧(pcE hooks).hooks=hooks:=by
 unfold pcE pcM
 exact zzr (by kernel_rfl) (by kernel_rfl) (by kernel_rfl) (by kernel_rfl) (by kernel_rfl)
theorem zNP:zJW (pcE []) 1500 8 (Go.Ev.start 4)=true:=by kernel_rfl
theorem zNK:zL Tryz.prog K 8:=by
 rintro a s rfl
 obtain ⟨s1,h⟩:=zEF (zNh []).1 (by rw [(zNh []).2];intro h hx;cases hx) zNP
 exact ⟨_,_,qO.closed (G:=4) (by kernel_rfl) (by kernel_rfl) h s,rfl,rfl⟩
end Go.Proofs.YtlklljjppambpaaGreatDoor.oev
