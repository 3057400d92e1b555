/- Closed facts on the types of the loaded program (written by our own program facts.py). -/
import Derived.Test.YtcchamnagcpaiaaGwI
import Derived.Test.YtcchamnagcpaiaaRows
set_option linter.unusedVariables false
namespace Go.GW
open Go Go.Proofs

theorem info_3 : Try.prog.info? 3 = some Try.t3 := by kernel_rfl
theorem by_3 : Try.t3.bytes = 8 := rfl
theorem info_4 : Try.prog.info? 4 = some Try.t4 := by kernel_rfl
theorem by_4 : Try.t4.bytes = 1 := rfl
theorem info_5 : Try.prog.info? 5 = some Try.t5 := by kernel_rfl
theorem by_5 : Try.t5.bytes = 1 := rfl
theorem info_26 : Try.prog.info? 26 = some Try.t26 := by kernel_rfl
theorem by_26 : Try.t26.bytes = 24 := rfl
theorem info_28 : Try.prog.info? 28 = some Try.t28 := by kernel_rfl
theorem by_28 : Try.t28.bytes = 56 := rfl
theorem info_143 : Try.prog.info? 143 = some Try.t143 := by kernel_rfl
theorem by_143 : Try.t143.bytes = 32 := rfl
theorem info_147 : Try.prog.info? 147 = some Try.t147 := by kernel_rfl
theorem by_147 : Try.t147.bytes = 32 := rfl
theorem info_150 : Try.prog.info? 150 = some Try.t150 := by kernel_rfl
theorem by_150 : Try.t150.bytes = 40 := rfl
theorem info_153 : Try.prog.info? 153 = some Try.t153 := by kernel_rfl
theorem by_153 : Try.t153.bytes = 40 := rfl
theorem fa_28_0 : FA Try.prog 28 0 0 := FA.of2 (ft := 3) (sz := 1) Try.underlying28 rfl rfl rfl Try.sizeOf3 (by decide)
theorem fa_28_1 : FA Try.prog 28 1 1 := FA.of2 (ft := 3) (sz := 1) Try.underlying28 rfl rfl rfl Try.sizeOf3 (by decide)
theorem fa_28_2 : FA Try.prog 28 2 2 := FA.of2 (ft := 3) (sz := 1) Try.underlying28 rfl rfl rfl Try.sizeOf3 (by decide)
theorem fa_28_3 : FA Try.prog 28 3 3 := FA.of2 (ft := 26) (sz := 1) Try.underlying28 rfl rfl rfl Try.sizeOf26 (by decide)
theorem fa_28_4 : FA Try.prog 28 4 4 := FA.of2 (ft := 3) (sz := 1) Try.underlying28 rfl rfl rfl Try.sizeOf3 (by decide)
theorem fa_36_0 : FA Try.prog 36 0 0 := FA.of2 (ft := 3) (sz := 1) Try.underlying36 rfl rfl rfl Try.sizeOf3 (by decide)
theorem fa_36_1 : FA Try.prog 36 1 1 := FA.of2 (ft := 3) (sz := 1) Try.underlying36 rfl rfl rfl Try.sizeOf3 (by decide)
theorem fa_36_2 : FA Try.prog 36 2 2 := FA.of2 (ft := 4) (sz := 1) Try.underlying36 rfl rfl rfl Try.sizeOf4 (by decide)
theorem fa_36_3 : FA Try.prog 36 3 3 := FA.of2 (ft := 4) (sz := 1) Try.underlying36 rfl rfl rfl Try.sizeOf4 (by decide)
theorem fa_40_0 : FA Try.prog 40 0 0 := FA.of2 (ft := 36) (sz := 4) Try.underlying40 rfl rfl rfl Try.sizeOf36 (by decide)
theorem fa_40_1 : FA Try.prog 40 1 4 := FA.of2 (ft := 3) (sz := 1) Try.underlying40 rfl rfl rfl Try.sizeOf3 (by decide)
theorem fa_40_2 : FA Try.prog 40 2 5 := FA.of2 (ft := 37) (sz := 1) Try.underlying40 rfl rfl rfl Try.sizeOf37 (by decide)
theorem fa_40_3 : FA Try.prog 40 3 6 := FA.of2 (ft := 37) (sz := 1) Try.underlying40 rfl rfl rfl Try.sizeOf37 (by decide)
theorem fa_40_4 : FA Try.prog 40 4 7 := FA.of2 (ft := 38) (sz := 1) Try.underlying40 rfl rfl rfl Try.sizeOf38 (by decide)
theorem fa_40_5 : FA Try.prog 40 5 8 := FA.of2 (ft := 22) (sz := 1) Try.underlying40 rfl rfl rfl Try.sizeOf22 (by decide)
theorem fa_40_6 : FA Try.prog 40 6 9 := FA.of2 (ft := 3) (sz := 1) Try.underlying40 rfl rfl rfl Try.sizeOf3 (by decide)
theorem fa_50_0 : FA Try.prog 50 0 0 := FA.of2 (ft := 3) (sz := 1) Try.underlying50 rfl rfl rfl Try.sizeOf3 (by decide)
theorem fa_50_1 : FA Try.prog 50 1 1 := FA.of2 (ft := 3) (sz := 1) Try.underlying50 rfl rfl rfl Try.sizeOf3 (by decide)
theorem fa_50_2 : FA Try.prog 50 2 2 := FA.of2 (ft := 5) (sz := 1) Try.underlying50 rfl rfl rfl Try.sizeOf5 (by decide)
theorem fa_50_3 : FA Try.prog 50 3 3 := FA.of2 (ft := 28) (sz := 5) Try.underlying50 rfl rfl rfl Try.sizeOf28 (by decide)
theorem fa_50_4 : FA Try.prog 50 4 8 := FA.of2 (ft := 3) (sz := 1) Try.underlying50 rfl rfl rfl Try.sizeOf3 (by decide)
theorem fa_50_5 : FA Try.prog 50 5 9 := FA.of2 (ft := 4) (sz := 1) Try.underlying50 rfl rfl rfl Try.sizeOf4 (by decide)
theorem fa_50_6 : FA Try.prog 50 6 10 := FA.of2 (ft := 48) (sz := 1) Try.underlying50 rfl rfl rfl Try.sizeOf48 (by decide)
theorem fa_60_0 : FA Try.prog 60 0 0 := FA.of2 (ft := 3) (sz := 1) Try.underlying60 rfl rfl rfl Try.sizeOf3 (by decide)
theorem fa_60_1 : FA Try.prog 60 1 1 := FA.of2 (ft := 3) (sz := 1) Try.underlying60 rfl rfl rfl Try.sizeOf3 (by decide)
theorem fa_60_2 : FA Try.prog 60 2 2 := FA.of2 (ft := 3) (sz := 1) Try.underlying60 rfl rfl rfl Try.sizeOf3 (by decide)
theorem fa_60_3 : FA Try.prog 60 3 3 := FA.of2 (ft := 3) (sz := 1) Try.underlying60 rfl rfl rfl Try.sizeOf3 (by decide)
theorem fa_60_4 : FA Try.prog 60 4 4 := FA.of2 (ft := 3) (sz := 1) Try.underlying60 rfl rfl rfl Try.sizeOf3 (by decide)
theorem fa_60_5 : FA Try.prog 60 5 5 := FA.of2 (ft := 3) (sz := 1) Try.underlying60 rfl rfl rfl Try.sizeOf3 (by decide)
theorem fa_60_6 : FA Try.prog 60 6 6 := FA.of2 (ft := 26) (sz := 1) Try.underlying60 rfl rfl rfl Try.sizeOf26 (by decide)
theorem fa_60_7 : FA Try.prog 60 7 7 := FA.of2 (ft := 58) (sz := 1) Try.underlying60 rfl rfl rfl Try.sizeOf58 (by decide)
theorem fa_79_0 : FA Try.prog 79 0 0 := FA.of2 (ft := 36) (sz := 4) Try.underlying79 rfl rfl rfl Try.sizeOf36 (by decide)
theorem fa_79_1 : FA Try.prog 79 1 4 := FA.of2 (ft := 77) (sz := 1) Try.underlying79 rfl rfl rfl Try.sizeOf77 (by decide)
theorem fa_79_2 : FA Try.prog 79 2 5 := FA.of2 (ft := 3) (sz := 1) Try.underlying79 rfl rfl rfl Try.sizeOf3 (by decide)
theorem fa_81_0 : FA Try.prog 81 0 0 := FA.of2 (ft := 79) (sz := 6) Try.underlying81 rfl rfl rfl Try.sizeOf79 (by decide)
theorem fa_81_1 : FA Try.prog 81 1 6 := FA.of2 (ft := 60) (sz := 8) Try.underlying81 rfl rfl rfl Try.sizeOf60 (by decide)
theorem fa_81_2 : FA Try.prog 81 2 14 := FA.of2 (ft := 4) (sz := 1) Try.underlying81 rfl rfl rfl Try.sizeOf4 (by decide)
theorem fa_86_0 : FA Try.prog 86 0 0 := FA.of2 (ft := 3) (sz := 1) Try.underlying86 rfl rfl rfl Try.sizeOf3 (by decide)
theorem fa_86_1 : FA Try.prog 86 1 1 := FA.of2 (ft := 60) (sz := 8) Try.underlying86 rfl rfl rfl Try.sizeOf60 (by decide)
theorem fa_86_2 : FA Try.prog 86 2 9 := FA.of2 (ft := 3) (sz := 1) Try.underlying86 rfl rfl rfl Try.sizeOf3 (by decide)
theorem fa_86_3 : FA Try.prog 86 3 10 := FA.of2 (ft := 3) (sz := 1) Try.underlying86 rfl rfl rfl Try.sizeOf3 (by decide)
theorem fa_86_4 : FA Try.prog 86 4 11 := FA.of2 (ft := 3) (sz := 1) Try.underlying86 rfl rfl rfl Try.sizeOf3 (by decide)
theorem fa_86_5 : FA Try.prog 86 5 12 := FA.of2 (ft := 3) (sz := 1) Try.underlying86 rfl rfl rfl Try.sizeOf3 (by decide)
theorem fa_86_6 : FA Try.prog 86 6 13 := FA.of2 (ft := 4) (sz := 1) Try.underlying86 rfl rfl rfl Try.sizeOf4 (by decide)
theorem fa_113_0 : FA Try.prog 113 0 0 := FA.of2 (ft := 26) (sz := 1) Try.underlying113 rfl rfl rfl Try.sizeOf26 (by decide)
theorem fa_113_1 : FA Try.prog 113 1 1 := FA.of2 (ft := 77) (sz := 1) Try.underlying113 rfl rfl rfl Try.sizeOf77 (by decide)
theorem fa_113_2 : FA Try.prog 113 2 2 := FA.of2 (ft := 48) (sz := 1) Try.underlying113 rfl rfl rfl Try.sizeOf48 (by decide)
theorem fa_125_0 : FA Try.prog 125 0 0 := FA.of2 (ft := 3) (sz := 1) Try.underlying125 rfl rfl rfl Try.sizeOf3 (by decide)
theorem fa_125_1 : FA Try.prog 125 1 1 := FA.of2 (ft := 4) (sz := 1) Try.underlying125 rfl rfl rfl Try.sizeOf4 (by decide)
theorem fa_125_2 : FA Try.prog 125 2 2 := FA.of2 (ft := 4) (sz := 1) Try.underlying125 rfl rfl rfl Try.sizeOf4 (by decide)
theorem fa_127_0 : FA Try.prog 127 0 0 := FA.of2 (ft := 125) (sz := 3) Try.underlying127 rfl rfl rfl Try.sizeOf125 (by decide)
theorem fa_127_1 : FA Try.prog 127 1 3 := FA.of2 (ft := 3) (sz := 1) Try.underlying127 rfl rfl rfl Try.sizeOf3 (by decide)
theorem fa_131_0 : FA Try.prog 131 0 0 := FA.of2 (ft := 29) (sz := 1) Try.underlying131 rfl rfl rfl Try.sizeOf29 (by decide)
theorem fa_131_1 : FA Try.prog 131 1 1 := FA.of2 (ft := 3) (sz := 1) Try.underlying131 rfl rfl rfl Try.sizeOf3 (by decide)
theorem fa_131_2 : FA Try.prog 131 2 2 := FA.of2 (ft := 128) (sz := 1) Try.underlying131 rfl rfl rfl Try.sizeOf128 (by decide)
theorem fa_131_3 : FA Try.prog 131 3 3 := FA.of2 (ft := 129) (sz := 1) Try.underlying131 rfl rfl rfl Try.sizeOf129 (by decide)
theorem fa_131_4 : FA Try.prog 131 4 4 := FA.of2 (ft := 38) (sz := 1) Try.underlying131 rfl rfl rfl Try.sizeOf38 (by decide)
theorem fa_131_5 : FA Try.prog 131 5 5 := FA.of2 (ft := 22) (sz := 1) Try.underlying131 rfl rfl rfl Try.sizeOf22 (by decide)
theorem fa_131_6 : FA Try.prog 131 6 6 := FA.of2 (ft := 3) (sz := 1) Try.underlying131 rfl rfl rfl Try.sizeOf3 (by decide)
theorem fa_143_0 : FA Try.prog 143 0 0 := FA.of2 (ft := 3) (sz := 1) Try.underlying143 rfl rfl rfl Try.sizeOf3 (by decide)
theorem fa_143_1 : FA Try.prog 143 1 1 := FA.of2 (ft := 26) (sz := 1) Try.underlying143 rfl rfl rfl Try.sizeOf26 (by decide)
theorem fa_147_0 : FA Try.prog 147 0 0 := FA.of2 (ft := 3) (sz := 1) Try.underlying147 rfl rfl rfl Try.sizeOf3 (by decide)
theorem fa_147_1 : FA Try.prog 147 1 1 := FA.of2 (ft := 26) (sz := 1) Try.underlying147 rfl rfl rfl Try.sizeOf26 (by decide)
theorem fa_150_0 : FA Try.prog 150 0 0 := FA.of2 (ft := 3) (sz := 1) Try.underlying150 rfl rfl rfl Try.sizeOf3 (by decide)
theorem fa_150_1 : FA Try.prog 150 1 1 := FA.of2 (ft := 3) (sz := 1) Try.underlying150 rfl rfl rfl Try.sizeOf3 (by decide)
theorem fa_150_2 : FA Try.prog 150 2 2 := FA.of2 (ft := 26) (sz := 1) Try.underlying150 rfl rfl rfl Try.sizeOf26 (by decide)
theorem fa_153_0 : FA Try.prog 153 0 0 := FA.of2 (ft := 3) (sz := 1) Try.underlying153 rfl rfl rfl Try.sizeOf3 (by decide)
theorem fa_153_1 : FA Try.prog 153 1 1 := FA.of2 (ft := 3) (sz := 1) Try.underlying153 rfl rfl rfl Try.sizeOf3 (by decide)
theorem fa_153_2 : FA Try.prog 153 2 2 := FA.of2 (ft := 26) (sz := 1) Try.underlying153 rfl rfl rfl Try.sizeOf26 (by decide)
theorem fa_161_0 : FA Try.prog 161 0 0 := FA.of2 (ft := 26) (sz := 1) Try.underlying161 rfl rfl rfl Try.sizeOf26 (by decide)
theorem fa_161_1 : FA Try.prog 161 1 1 := FA.of2 (ft := 32) (sz := 1) Try.underlying161 rfl rfl rfl Try.sizeOf32 (by decide)
theorem fa_173_0 : FA Try.prog 173 0 0 := FA.of2 (ft := 29) (sz := 1) Try.underlying173 rfl rfl rfl Try.sizeOf29 (by decide)
theorem fa_173_1 : FA Try.prog 173 1 1 := FA.of2 (ft := 171) (sz := 4) Try.underlying173 rfl rfl rfl Try.sizeOf171 (by decide)
theorem fa_173_2 : FA Try.prog 173 2 5 := FA.of2 (ft := 3) (sz := 1) Try.underlying173 rfl rfl rfl Try.sizeOf3 (by decide)
theorem fa_175_0 : FA Try.prog 175 0 0 := FA.of2 (ft := 71) (sz := 1) Try.underlying175 rfl rfl rfl Try.sizeOf71 (by decide)
theorem fa_175_1 : FA Try.prog 175 1 1 := FA.of2 (ft := 60) (sz := 8) Try.underlying175 rfl rfl rfl Try.sizeOf60 (by decide)
theorem fa_175_2 : FA Try.prog 175 2 9 := FA.of2 (ft := 4) (sz := 1) Try.underlying175 rfl rfl rfl Try.sizeOf4 (by decide)
theorem fa_187_0 : FA Try.prog 187 0 0 := FA.of2 (ft := 156) (sz := 1) Try.underlying187 rfl rfl rfl Try.sizeOf156 (by decide)
theorem fa_187_1 : FA Try.prog 187 1 1 := FA.of2 (ft := 156) (sz := 1) Try.underlying187 rfl rfl rfl Try.sizeOf156 (by decide)
theorem fa_190_0 : FA Try.prog 190 0 0 := FA.of2 (ft := 179) (sz := 1) Try.underlying190 rfl rfl rfl Try.sizeOf179 (by decide)
theorem fa_190_1 : FA Try.prog 190 1 1 := FA.of2 (ft := 184) (sz := 1) Try.underlying190 rfl rfl rfl Try.sizeOf184 (by decide)
theorem fa_193_0 : FA Try.prog 193 0 0 := FA.of2 (ft := 191) (sz := 256) Try.underlying193 rfl rfl rfl Try.sizeOf191 (by decide)
theorem fa_193_1 : FA Try.prog 193 1 256 := FA.of2 (ft := 191) (sz := 256) Try.underlying193 rfl rfl rfl Try.sizeOf191 (by decide)
theorem fa_215_0 : FA Try.prog 215 0 0 := FA.of2 (ft := 26) (sz := 1) Try.underlying215 rfl rfl rfl Try.sizeOf26 (by decide)
theorem fa_215_1 : FA Try.prog 215 1 1 := FA.of2 (ft := 32) (sz := 1) Try.underlying215 rfl rfl rfl Try.sizeOf32 (by decide)
theorem fa_226_0 : FA Try.prog 226 0 0 := FA.of2 (ft := 107) (sz := 1) Try.underlying226 rfl rfl rfl Try.sizeOf107 (by decide)
theorem fa_226_1 : FA Try.prog 226 1 1 := FA.of2 (ft := 224) (sz := 240) Try.underlying226 rfl rfl rfl Try.sizeOf224 (by decide)
theorem fa_234_0 : FA Try.prog 234 0 0 := FA.of2 (ft := 231) (sz := 32) Try.underlying234 rfl rfl rfl Try.sizeOf231 (by decide)
theorem fa_234_1 : FA Try.prog 234 1 32 := FA.of2 (ft := 232) (sz := 16) Try.underlying234 rfl rfl rfl Try.sizeOf232 (by decide)
theorem zc_26 {z : Value} (hz : ∀ w, (zeroValue 26).run Try.prog w = .ok z w) : z.cells = ⟨SV.vals ([.sl none 0 0])⟩ := by
  have h := (hz default).symm.trans (Try.zeroValue26 default)
  have h2 := (Result.ok.inj h).1; subst h2; show _ = _; kernel_rfl
theorem zc_28 {z : Value} (hz : ∀ w, (zeroValue 28).run Try.prog w = .ok z w) : z.cells = ⟨SV.vals ([.i 0, .i 0, .i 0, .sl none 0 0, .i 0])⟩ := by
  have h := (hz default).symm.trans (Try.zeroValue28 default)
  have h2 := (Result.ok.inj h).1; subst h2; show _ = _; kernel_rfl
theorem zc_36 {z : Value} (hz : ∀ w, (zeroValue 36).run Try.prog w = .ok z w) : z.cells = ⟨SV.vals ([.i 0, .i 0, .b false, .b false])⟩ := by
  have h := (hz default).symm.trans (Try.zeroValue36 default)
  have h2 := (Result.ok.inj h).1; subst h2; show _ = _; kernel_rfl
theorem zc_40 {z : Value} (hz : ∀ w, (zeroValue 40).run Try.prog w = .ok z w) : z.cells = ⟨SV.vals ([.i 0, .i 0, .b false, .b false, .i 0, .sl none 0 0, .sl none 0 0, .sl none 0 0, .sl none 0 0, .i 0])⟩ := by
  have h := (hz default).symm.trans (Try.zeroValue40 default)
  have h2 := (Result.ok.inj h).1; subst h2; show _ = _; kernel_rfl
theorem zc_60 {z : Value} (hz : ∀ w, (zeroValue 60).run Try.prog w = .ok z w) : z.cells = ⟨SV.vals ([.i 0, .i 0, .i 0, .i 0, .i 0, .i 0, .sl none 0 0, .sl none 0 0])⟩ := by
  have h := (hz default).symm.trans (Try.zeroValue60 default)
  have h2 := (Result.ok.inj h).1; subst h2; show _ = _; kernel_rfl
theorem zc_79 {z : Value} (hz : ∀ w, (zeroValue 79).run Try.prog w = .ok z w) : z.cells = ⟨SV.vals ([.i 0, .i 0, .b false, .b false, .sl none 0 0, .i 0])⟩ := by
  have h := (hz default).symm.trans (Try.zeroValue79 default)
  have h2 := (Result.ok.inj h).1; subst h2; show _ = _; kernel_rfl
theorem zc_81 {z : Value} (hz : ∀ w, (zeroValue 81).run Try.prog w = .ok z w) : z.cells = ⟨SV.vals ([.i 0, .i 0, .b false, .b false, .sl none 0 0, .i 0, .i 0, .i 0, .i 0, .i 0, .i 0, .i 0, .sl none 0 0, .sl none 0 0, .b false])⟩ := by
  have h := (hz default).symm.trans (Try.zeroValue81 default)
  have h2 := (Result.ok.inj h).1; subst h2; show _ = _; kernel_rfl
theorem zc_86 {z : Value} (hz : ∀ w, (zeroValue 86).run Try.prog w = .ok z w) : z.cells = ⟨SV.vals ([.i 0, .i 0, .i 0, .i 0, .i 0, .i 0, .i 0, .sl none 0 0, .sl none 0 0, .i 0, .i 0, .i 0, .i 0, .b false])⟩ := by
  have h := (hz default).symm.trans (Try.zeroValue86 default)
  have h2 := (Result.ok.inj h).1; subst h2; show _ = _; kernel_rfl
theorem zc_113 {z : Value} (hz : ∀ w, (zeroValue 113).run Try.prog w = .ok z w) : z.cells = ⟨SV.vals ([.sl none 0 0, .sl none 0 0, .sl none 0 0])⟩ := by
  have h := (hz default).symm.trans (Try.zeroValue113 default)
  have h2 := (Result.ok.inj h).1; subst h2; show _ = _; kernel_rfl
theorem zc_125 {z : Value} (hz : ∀ w, (zeroValue 125).run Try.prog w = .ok z w) : z.cells = ⟨SV.vals ([.i 0, .b false, .b false])⟩ := by
  have h := (hz default).symm.trans (Try.zeroValue125 default)
  have h2 := (Result.ok.inj h).1; subst h2; show _ = _; kernel_rfl
theorem zc_127 {z : Value} (hz : ∀ w, (zeroValue 127).run Try.prog w = .ok z w) : z.cells = ⟨SV.vals ([.i 0, .b false, .b false, .i 0])⟩ := by
  have h := (hz default).symm.trans (Try.zeroValue127 default)
  have h2 := (Result.ok.inj h).1; subst h2; show _ = _; kernel_rfl
theorem zc_131 {z : Value} (hz : ∀ w, (zeroValue 131).run Try.prog w = .ok z w) : z.cells = ⟨SV.vals ([.np, .i 0, .nm, .sl none 0 0, .sl none 0 0, .sl none 0 0, .i 0])⟩ := by
  have h := (hz default).symm.trans (Try.zeroValue131 default)
  have h2 := (Result.ok.inj h).1; subst h2; show _ = _; kernel_rfl
theorem zc_143 {z : Value} (hz : ∀ w, (zeroValue 143).run Try.prog w = .ok z w) : z.cells = ⟨SV.vals ([.i 0, .sl none 0 0])⟩ := by
  have h := (hz default).symm.trans (Try.zeroValue143 default)
  have h2 := (Result.ok.inj h).1; subst h2; show _ = _; kernel_rfl
theorem zc_147 {z : Value} (hz : ∀ w, (zeroValue 147).run Try.prog w = .ok z w) : z.cells = ⟨SV.vals ([.i 0, .sl none 0 0])⟩ := by
  have h := (hz default).symm.trans (Try.zeroValue147 default)
  have h2 := (Result.ok.inj h).1; subst h2; show _ = _; kernel_rfl
theorem zc_150 {z : Value} (hz : ∀ w, (zeroValue 150).run Try.prog w = .ok z w) : z.cells = ⟨SV.vals ([.i 0, .i 0, .sl none 0 0])⟩ := by
  have h := (hz default).symm.trans (Try.zeroValue150 default)
  have h2 := (Result.ok.inj h).1; subst h2; show _ = _; kernel_rfl
theorem zc_153 {z : Value} (hz : ∀ w, (zeroValue 153).run Try.prog w = .ok z w) : z.cells = ⟨SV.vals ([.i 0, .i 0, .sl none 0 0])⟩ := by
  have h := (hz default).symm.trans (Try.zeroValue153 default)
  have h2 := (Result.ok.inj h).1; subst h2; show _ = _; kernel_rfl
theorem zc_157 {z : Value} (hz : ∀ w, (zeroValue 157).run Try.prog w = .ok z w) : z.cells = ⟨SV.vals ([.np])⟩ := by
  have h := (hz default).symm.trans (Try.zeroValue157 default)
  have h2 := (Result.ok.inj h).1; subst h2; show _ = _; kernel_rfl
theorem zc_161 {z : Value} (hz : ∀ w, (zeroValue 161).run Try.prog w = .ok z w) : z.cells = ⟨SV.vals ([.sl none 0 0, .i 0])⟩ := by
  have h := (hz default).symm.trans (Try.zeroValue161 default)
  have h2 := (Result.ok.inj h).1; subst h2; show _ = _; kernel_rfl
theorem zc_173 {z : Value} (hz : ∀ w, (zeroValue 173).run Try.prog w = .ok z w) : z.cells = ⟨SV.vals ([.np, .sl none 0 0, .sl none 0 0, .sl none 0 0, .sl none 0 0, .i 0])⟩ := by
  have h := (hz default).symm.trans (Try.zeroValue173 default)
  have h2 := (Result.ok.inj h).1; subst h2; show _ = _; kernel_rfl
theorem zc_175 {z : Value} (hz : ∀ w, (zeroValue 175).run Try.prog w = .ok z w) : z.cells = ⟨SV.vals ([.np, .i 0, .i 0, .i 0, .i 0, .i 0, .i 0, .sl none 0 0, .sl none 0 0, .b false])⟩ := by
  have h := (hz default).symm.trans (Try.zeroValue175 default)
  have h2 := (Result.ok.inj h).1; subst h2; show _ = _; kernel_rfl
theorem zc_182 {z : Value} (hz : ∀ w, (zeroValue 182).run Try.prog w = .ok z w) : z.cells = ⟨SV.vals ([.u8 0, .u8 0, .u8 0, .u8 0, .u8 0, .u8 0, .u8 0, .u8 0, .u8 0, .u8 0, .u8 0, .u8 0, .u8 0, .u8 0, .u8 0, .u8 0])⟩ := by
  have h := (hz default).symm.trans (Try.zeroValue182 default)
  have h2 := (Result.ok.inj h).1; subst h2; show _ = _; kernel_rfl
theorem zc_187 {z : Value} (hz : ∀ w, (zeroValue 187).run Try.prog w = .ok z w) : z.cells = ⟨SV.vals ([.u64 0, .u64 0])⟩ := by
  have h := (hz default).symm.trans (Try.zeroValue187 default)
  have h2 := (Result.ok.inj h).1; subst h2; show _ = _; kernel_rfl
theorem zc_190 {z : Value} (hz : ∀ w, (zeroValue 190).run Try.prog w = .ok z w) : z.cells = ⟨SV.vals ([.np, .np])⟩ := by
  have h := (hz default).symm.trans (Try.zeroValue190 default)
  have h2 := (Result.ok.inj h).1; subst h2; show _ = _; kernel_rfl
theorem zc_191 {z : Value} (hz : ∀ w, (zeroValue 191).run Try.prog w = .ok z w) : z.cells = ⟨SV.vals (List.replicate 256 (.u8 0))⟩ := by
  have h := (hz default).symm.trans (Try.zeroValue191 default)
  have h2 := (Result.ok.inj h).1; subst h2; show _ = _; kernel_rfl
theorem zc_193 {z : Value} (hz : ∀ w, (zeroValue 193).run Try.prog w = .ok z w) : z.cells = ⟨SV.vals (List.replicate 512 (.u8 0))⟩ := by
  have h := (hz default).symm.trans (Try.zeroValue193 default)
  have h2 := (Result.ok.inj h).1; subst h2; show _ = _; kernel_rfl
theorem zc_194 {z : Value} (hz : ∀ w, (zeroValue 194).run Try.prog w = .ok z w) : z.cells = ⟨SV.vals (List.replicate 256 (.i 0))⟩ := by
  have h := (hz default).symm.trans (Try.zeroValue194 default)
  have h2 := (Result.ok.inj h).1; subst h2; show _ = _; kernel_rfl
theorem zc_215 {z : Value} (hz : ∀ w, (zeroValue 215).run Try.prog w = .ok z w) : z.cells = ⟨SV.vals ([.sl none 0 0, .i 0])⟩ := by
  have h := (hz default).symm.trans (Try.zeroValue215 default)
  have h2 := (Result.ok.inj h).1; subst h2; show _ = _; kernel_rfl
theorem zc_226 {z : Value} (hz : ∀ w, (zeroValue 226).run Try.prog w = .ok z w) : z.cells = ⟨SV.vals ([.np] ++ List.replicate 240 (.u8 0))⟩ := by
  have h := (hz default).symm.trans (Try.zeroValue226 default)
  have h2 := (Result.ok.inj h).1; subst h2; show _ = _; kernel_rfl
theorem zc_228 {z : Value} (hz : ∀ w, (zeroValue 228).run Try.prog w = .ok z w) : z.cells = ⟨SV.vals (List.replicate 60 (.u32 0))⟩ := by
  have h := (hz default).symm.trans (Try.zeroValue228 default)
  have h2 := (Result.ok.inj h).1; subst h2; show _ = _; kernel_rfl
theorem zc_234 {z : Value} (hz : ∀ w, (zeroValue 234).run Try.prog w = .ok z w) : z.cells = ⟨SV.vals (List.replicate 48 (.u64 0))⟩ := by
  have h := (hz default).symm.trans (Try.zeroValue234 default)
  have h2 := (Result.ok.inj h).1; subst h2; show _ = _; kernel_rfl
theorem zc_246 {z : Value} (hz : ∀ w, (zeroValue 246).run Try.prog w = .ok z w) : z.cells = ⟨SV.vals ([.u64 0, .u64 0])⟩ := by
  have h := (hz default).symm.trans (Try.zeroValue246 default)
  have h2 := (Result.ok.inj h).1; subst h2; show _ = _; kernel_rfl
theorem bf_28 : BF Try.prog 28 ([.i 0, .i 0, .i 0, .sl none 0 0, .i 0]) [(0, 1), (1, 1), (2, 1), (3, 1), (4, 1)] := BF.of Try.zeroValue28 (zc_28 Try.zeroValue28) Try.underlying28 (by intro w; simp [Try.sizeOf26, Try.sizeOf3])
theorem bf_36 : BF Try.prog 36 ([.i 0, .i 0, .b false, .b false]) [(0, 1), (1, 1), (2, 1), (3, 1)] := BF.of Try.zeroValue36 (zc_36 Try.zeroValue36) Try.underlying36 (by intro w; simp [Try.sizeOf3, Try.sizeOf4])
theorem bf_40 : BF Try.prog 40 ([.i 0, .i 0, .b false, .b false, .i 0, .sl none 0 0, .sl none 0 0, .sl none 0 0, .sl none 0 0, .i 0]) [(0, 4), (4, 1), (5, 1), (6, 1), (7, 1), (8, 1), (9, 1)] := BF.of Try.zeroValue40 (zc_40 Try.zeroValue40) Try.underlying40 (by intro w; simp [Try.sizeOf22, Try.sizeOf3, Try.sizeOf36, Try.sizeOf37, Try.sizeOf38])
theorem bf_60 : BF Try.prog 60 ([.i 0, .i 0, .i 0, .i 0, .i 0, .i 0, .sl none 0 0, .sl none 0 0]) [(0, 1), (1, 1), (2, 1), (3, 1), (4, 1), (5, 1), (6, 1), (7, 1)] := BF.of Try.zeroValue60 (zc_60 Try.zeroValue60) Try.underlying60 (by intro w; simp [Try.sizeOf26, Try.sizeOf3, Try.sizeOf58])
theorem bf_79 : BF Try.prog 79 ([.i 0, .i 0, .b false, .b false, .sl none 0 0, .i 0]) [(0, 4), (4, 1), (5, 1)] := BF.of Try.zeroValue79 (zc_79 Try.zeroValue79) Try.underlying79 (by intro w; simp [Try.sizeOf3, Try.sizeOf36, Try.sizeOf77])
theorem bf_81 : BF Try.prog 81 ([.i 0, .i 0, .b false, .b false, .sl none 0 0, .i 0, .i 0, .i 0, .i 0, .i 0, .i 0, .i 0, .sl none 0 0, .sl none 0 0, .b false]) [(0, 6), (6, 8), (14, 1)] := BF.of Try.zeroValue81 (zc_81 Try.zeroValue81) Try.underlying81 (by intro w; simp [Try.sizeOf4, Try.sizeOf60, Try.sizeOf79])
theorem bf_113 : BF Try.prog 113 ([.sl none 0 0, .sl none 0 0, .sl none 0 0]) [(0, 1), (1, 1), (2, 1)] := BF.of Try.zeroValue113 (zc_113 Try.zeroValue113) Try.underlying113 (by intro w; simp [Try.sizeOf26, Try.sizeOf48, Try.sizeOf77])
theorem bf_125 : BF Try.prog 125 ([.i 0, .b false, .b false]) [(0, 1), (1, 1), (2, 1)] := BF.of Try.zeroValue125 (zc_125 Try.zeroValue125) Try.underlying125 (by intro w; simp [Try.sizeOf3, Try.sizeOf4])
theorem bf_127 : BF Try.prog 127 ([.i 0, .b false, .b false, .i 0]) [(0, 3), (3, 1)] := BF.of Try.zeroValue127 (zc_127 Try.zeroValue127) Try.underlying127 (by intro w; simp [Try.sizeOf125, Try.sizeOf3])
theorem bf_131 : BF Try.prog 131 ([.np, .i 0, .nm, .sl none 0 0, .sl none 0 0, .sl none 0 0, .i 0]) [(0, 1), (1, 1), (2, 1), (3, 1), (4, 1), (5, 1), (6, 1)] := BF.of Try.zeroValue131 (zc_131 Try.zeroValue131) Try.underlying131 (by intro w; simp [Try.sizeOf128, Try.sizeOf129, Try.sizeOf22, Try.sizeOf29, Try.sizeOf3, Try.sizeOf38])
theorem bf_143 : BF Try.prog 143 ([.i 0, .sl none 0 0]) [(0, 1), (1, 1)] := BF.of Try.zeroValue143 (zc_143 Try.zeroValue143) Try.underlying143 (by intro w; simp [Try.sizeOf26, Try.sizeOf3])
theorem bf_147 : BF Try.prog 147 ([.i 0, .sl none 0 0]) [(0, 1), (1, 1)] := BF.of Try.zeroValue147 (zc_147 Try.zeroValue147) Try.underlying147 (by intro w; simp [Try.sizeOf26, Try.sizeOf3])
theorem bf_150 : BF Try.prog 150 ([.i 0, .i 0, .sl none 0 0]) [(0, 1), (1, 1), (2, 1)] := BF.of Try.zeroValue150 (zc_150 Try.zeroValue150) Try.underlying150 (by intro w; simp [Try.sizeOf26, Try.sizeOf3])
theorem bf_153 : BF Try.prog 153 ([.i 0, .i 0, .sl none 0 0]) [(0, 1), (1, 1), (2, 1)] := BF.of Try.zeroValue153 (zc_153 Try.zeroValue153) Try.underlying153 (by intro w; simp [Try.sizeOf26, Try.sizeOf3])
theorem bf_161 : BF Try.prog 161 ([.sl none 0 0, .i 0]) [(0, 1), (1, 1)] := BF.of Try.zeroValue161 (zc_161 Try.zeroValue161) Try.underlying161 (by intro w; simp [Try.sizeOf26, Try.sizeOf32])
theorem bf_173 : BF Try.prog 173 ([.np, .sl none 0 0, .sl none 0 0, .sl none 0 0, .sl none 0 0, .i 0]) [(0, 1), (1, 4), (5, 1)] := BF.of Try.zeroValue173 (zc_173 Try.zeroValue173) Try.underlying173 (by intro w; simp [Try.sizeOf171, Try.sizeOf29, Try.sizeOf3])
theorem bf_175 : BF Try.prog 175 ([.np, .i 0, .i 0, .i 0, .i 0, .i 0, .i 0, .sl none 0 0, .sl none 0 0, .b false]) [(0, 1), (1, 8), (9, 1)] := BF.of Try.zeroValue175 (zc_175 Try.zeroValue175) Try.underlying175 (by intro w; simp [Try.sizeOf4, Try.sizeOf60, Try.sizeOf71])
theorem bf_182 : BF Try.prog 182 ([.u8 0, .u8 0, .u8 0, .u8 0, .u8 0, .u8 0, .u8 0, .u8 0, .u8 0, .u8 0, .u8 0, .u8 0, .u8 0, .u8 0, .u8 0, .u8 0]) ((List.range 16).map fun i => (i * 1, 1)) := BF.ofA Try.zeroValue182 (zc_182 Try.zeroValue182) Try.underlying182 Try.sizeOf5 rfl
theorem bf_187 : BF Try.prog 187 ([.u64 0, .u64 0]) [(0, 1), (1, 1)] := BF.of Try.zeroValue187 (zc_187 Try.zeroValue187) Try.underlying187 (by intro w; simp [Try.sizeOf156])
theorem bf_190 : BF Try.prog 190 ([.np, .np]) [(0, 1), (1, 1)] := BF.of Try.zeroValue190 (zc_190 Try.zeroValue190) Try.underlying190 (by intro w; simp [Try.sizeOf179, Try.sizeOf184])
theorem bf_193 : BF Try.prog 193 (List.replicate 512 (.u8 0)) [(0, 256), (256, 256)] := BF.of Try.zeroValue193 (zc_193 Try.zeroValue193) Try.underlying193 (by intro w; simp [Try.sizeOf191])
theorem bf_215 : BF Try.prog 215 ([.sl none 0 0, .i 0]) [(0, 1), (1, 1)] := BF.of Try.zeroValue215 (zc_215 Try.zeroValue215) Try.underlying215 (by intro w; simp [Try.sizeOf26, Try.sizeOf32])
theorem bf_226 : BF Try.prog 226 ([.np] ++ List.replicate 240 (.u8 0)) [(0, 1), (1, 240)] := BF.of Try.zeroValue226 (zc_226 Try.zeroValue226) Try.underlying226 (by intro w; simp [Try.sizeOf107, Try.sizeOf224])
theorem bf_234 : BF Try.prog 234 (List.replicate 48 (.u64 0)) [(0, 32), (32, 16)] := BF.of Try.zeroValue234 (zc_234 Try.zeroValue234) Try.underlying234 (by intro w; simp [Try.sizeOf231, Try.sizeOf232])
theorem bf_246 : BF Try.prog 246 ([.u64 0, .u64 0]) ((List.range 2).map fun i => (i * 1, 1)) := BF.ofA Try.zeroValue246 (zc_246 Try.zeroValue246) Try.underlying246 Try.sizeOf156 rfl

end Go.GW
