-- written by gen.py's rowgen (this session's program)
import Derived.Test.YtlmpbngndcagbaaOpen
import Derived.Test.YtlmpbngndcagbaaG0
import Derived.KernelRfl
namespace Go.Proofs.Ytlmpbngndcagbaa.Ok
open Go.RowKit Go.Proofs.Ytlmpbngndcagbaa.Open Go.Proofs.Ytlmpbngndcagbaa.G Go.Proofs.YtlmpbngndcagbaaW.PrintWords Go.Proofs.YtlmpbngndcagbaaW.PrintLast
set_option linter.unusedVariables false
theorem wf_int {k : IntKind} {n : Int} (h : (Lit.int k n).wf = true) : k.min ≤ n ∧ n ≤ k.max := by
  simpa [Lit.wf] using h
def okT4 (_ : Bool) : Prop := True
set_option maxRecDepth 100000 in
theorem opn4 : Opn Try.prog 4 Kd.bool okT4 := Opn.bool Try.underlying4
def okT9 (s : ByteArray) : Prop := s.size ≤ 140737488351232
set_option maxRecDepth 100000 in
theorem opn9 : Opn Try.prog 9 Kd.string okT9 := Opn.string Try.underlying9
def okT82 (x : S82) : Prop := okT4 x.f0 ∧ okT9 x.f1 ∧ okT9 x.f2
set_option maxRecDepth 100000 in
theorem opn82 : Opn Try.prog 82 k82 okT82 := (Opn.iso (f := fun x : S82 => (x.f0, x.f1, x.f2)) (fun p => (⟨p.1, p.2.1, p.2.2⟩ : S82)) (fun _ => rfl) (Opn.struct (k := (Kd.pair Kd.bool (Kd.pair Kd.string Kd.string))) Try.underlying82 (by kernel_rfl) (OpnFs.cons rfl (by kernel_rfl) opn4 (OpnFs.cons rfl (by kernel_rfl) opn9 (OpnFs.one rfl (by kernel_rfl) opn9))))).mono (fun _ h => h)
def okT22 (xs : List S82) : Prop := (∀ x ∈ xs, okT82 x) ∧ xs.length * 40 ≤ 140737488351232
set_option maxRecDepth 100000 in
theorem opn22 : Opn Try.prog 22 (Kd.slice 82 k82) okT22 := Opn.slice 40 Try.underlying22 (by kernel_rfl) (by kernel_rfl) opn82
def okT3 (n : Int) : Prop := -9223372036854775808 ≤ n ∧ n ≤ 9223372036854775807
set_option maxRecDepth 100000 in
theorem opn3 : Opn Try.prog 3 (Kd.int .i64) okT3 := (Opn.int Try.underlying3).mono (fun n h => by have e := wf_int (k := .i64) h; rw [show IntKind.min .i64 = -9223372036854775808 from by decide, show IntKind.max .i64 = 9223372036854775807 from by decide] at e; exact e)
def okT69 (x : S69) : Prop := okT3 x.f0 ∧ okT9 x.f1 ∧ okT9 x.f2
set_option maxRecDepth 100000 in
theorem opn69 : Opn Try.prog 69 k69 okT69 := (Opn.iso (f := fun x : S69 => (x.f0, x.f1, x.f2)) (fun p => (⟨p.1, p.2.1, p.2.2⟩ : S69)) (fun _ => rfl) (Opn.struct (k := (Kd.pair (Kd.int .i64) (Kd.pair Kd.string Kd.string))) Try.underlying69 (by kernel_rfl) (OpnFs.cons rfl (by kernel_rfl) opn3 (OpnFs.cons rfl (by kernel_rfl) opn9 (OpnFs.one rfl (by kernel_rfl) opn9))))).mono (fun _ h => h)
def okT35 (xs : List S69) : Prop := (∀ x ∈ xs, okT69 x) ∧ xs.length * 40 ≤ 140737488351232
set_option maxRecDepth 100000 in
theorem opn35 : Opn Try.prog 35 (Kd.slice 69 k69) okT35 := Opn.slice 40 Try.underlying35 (by kernel_rfl) (by kernel_rfl) opn69
def okT54 (x : S54) : Prop := okT9 x.f0 ∧ okT9 x.f1 ∧ okT3 x.f2
set_option maxRecDepth 100000 in
theorem opn54 : Opn Try.prog 54 k54 okT54 := (Opn.iso (f := fun x : S54 => (x.f0, x.f1, x.f2)) (fun p => (⟨p.1, p.2.1, p.2.2⟩ : S54)) (fun _ => rfl) (Opn.struct (k := (Kd.pair Kd.string (Kd.pair Kd.string (Kd.int .i64)))) Try.underlying54 (by kernel_rfl) (OpnFs.cons rfl (by kernel_rfl) opn9 (OpnFs.cons rfl (by kernel_rfl) opn9 (OpnFs.one rfl (by kernel_rfl) opn3))))).mono (fun _ h => h)
def okT42 (xs : List S54) : Prop := (∀ x ∈ xs, okT54 x) ∧ xs.length * 40 ≤ 140737488351232
set_option maxRecDepth 100000 in
theorem opn42 : Opn Try.prog 42 (Kd.slice 54 k54) okT42 := Opn.slice 40 Try.underlying42 (by kernel_rfl) (by kernel_rfl) opn54
def okT43 (xs : List Int) : Prop := (∀ x ∈ xs, okT3 x) ∧ xs.length * 8 ≤ 140737488351232
set_option maxRecDepth 100000 in
theorem opn43 : Opn Try.prog 43 (Kd.slice 3 (Kd.int .i64)) okT43 := Opn.slice 8 Try.underlying43 (by kernel_rfl) (by kernel_rfl) opn3
def okT45 (x : Int × Int × List S54 × List S54 × List Int) : Prop := okT3 x.1 ∧ okT3 x.2.1 ∧ okT42 x.2.2.1 ∧ okT42 x.2.2.2.1 ∧ okT43 x.2.2.2.2
set_option maxRecDepth 100000 in
theorem opn45 : Opn Try.prog 45 (Kd.pair (Kd.int .i64) (Kd.pair (Kd.int .i64) (Kd.pair (Kd.slice 54 k54) (Kd.pair (Kd.slice 54 k54) (Kd.slice 3 (Kd.int .i64)))))) okT45 := (Opn.struct (k := (Kd.pair (Kd.int .i64) (Kd.pair (Kd.int .i64) (Kd.pair (Kd.slice 54 k54) (Kd.pair (Kd.slice 54 k54) (Kd.slice 3 (Kd.int .i64))))))) Try.underlying45 (by kernel_rfl) (OpnFs.cons rfl (by kernel_rfl) opn3 (OpnFs.cons rfl (by kernel_rfl) opn3 (OpnFs.cons rfl (by kernel_rfl) opn42 (OpnFs.cons rfl (by kernel_rfl) opn42 (OpnFs.one rfl (by kernel_rfl) opn43)))))).mono (fun _ h => h)
def okT62 (xs : List ByteArray) : Prop := (∀ x ∈ xs, okT9 x) ∧ xs.length * 16 ≤ 140737488351232
set_option maxRecDepth 100000 in
theorem opn62 : Opn Try.prog 62 (Kd.slice 9 Kd.string) okT62 := Opn.slice 16 Try.underlying62 (by kernel_rfl) (by kernel_rfl) opn9
def okT71 (x : Int × Int × Int × S69 × List ByteArray) : Prop := okT3 x.1 ∧ okT3 x.2.1 ∧ okT3 x.2.2.1 ∧ okT69 x.2.2.2.1 ∧ okT62 x.2.2.2.2
set_option maxRecDepth 100000 in
theorem opn71 : Opn Try.prog 71 (Kd.pair (Kd.int .i64) (Kd.pair (Kd.int .i64) (Kd.pair (Kd.int .i64) (Kd.pair k69 (Kd.slice 9 Kd.string))))) okT71 := (Opn.struct (k := (Kd.pair (Kd.int .i64) (Kd.pair (Kd.int .i64) (Kd.pair (Kd.int .i64) (Kd.pair k69 (Kd.slice 9 Kd.string)))))) Try.underlying71 (by kernel_rfl) (OpnFs.cons rfl (by kernel_rfl) opn3 (OpnFs.cons rfl (by kernel_rfl) opn3 (OpnFs.cons rfl (by kernel_rfl) opn3 (OpnFs.cons rfl (by kernel_rfl) opn69 (OpnFs.one rfl (by kernel_rfl) opn62)))))).mono (fun _ h => h)
end Go.Proofs.Ytlmpbngndcagbaa.Ok
