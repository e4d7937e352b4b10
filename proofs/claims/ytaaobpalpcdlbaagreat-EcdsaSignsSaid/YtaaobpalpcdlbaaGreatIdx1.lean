import Derived.Test.YtaaobpalpcdlbaaGreatSxR
import Derived.Test.YtaaobpalpcdlbaaGreatProg
import Derived.Test.YtaaobpalpcdlbaaGreatCarry
import Derived.Lib.Bytealg
import Derived.KernelRfl
namespace Go.Proofs.YtaaobpalpcdlbaaGreat.Bits
open Go Go.Sx Go.RowKit
set_option linter.unusedVariables false
set_option maxRecDepth 100000
def idxF (s:ByteArray) (c:Int):Int:=Lib.indexByte s.data.toList c.toNat.toUInt8
def idxSpec:CSpec
 | [.str (.lit s),.int .u8 (.lit c)],k=>k (.int .i64 (.lit (idxF s c)))
 | _,_=>False
theorem idx_ok:SpecOk Tryz.prog 129 idxSpec:=by
 intro args k h
 unfold idxSpec at h
 split at h
 ·rename_i s c
  refine ⟨_,h,extern_ok fun η w=>?_⟩
  rw [run_callFunc_extern Tryz.func129 (by kernel_rfl) (by kernel_rfl) (by kernel_rfl) (e:=Extern.BytealgIndexByte.indexByte) (by kernel_rfl)]
  simp only [SV.dens,SV.den,SI.val_lit,SS.val_lit]
  rw [show ([Value.string s,Value.int .u8 c]:List Value).toArray=#[.string s,.int .u8 c] from rfl,Lib.run_indexByteString]
  rfl
 ·exact h.elim
end Go.Proofs.YtaaobpalpcdlbaaGreat.Bits
