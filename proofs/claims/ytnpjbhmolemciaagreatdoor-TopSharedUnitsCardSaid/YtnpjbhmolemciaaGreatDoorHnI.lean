/- Part HnI of a proof: helper lemmas; no conditions. -/
import Derived.Test.YtnpjbhmolemciaaGreatDoorHnA
import Derived.Test.YtnpjbhmolemciaaGreatDoorLT
import Derived.Test.YtnpjbhmolemciaaGreatDoorProg
import Derived.Shelf.Strconv.Itoa3
import Derived.Lib.ItoaLen

set_option linter.unusedSimpArgs false
set_option linter.unusedVariables false

/-
  strconv.Itoa's contract.
-/
namespace Go.Sx
open Go Go.Proofs Go.Shelf Go.RowKit Go.Sort

def lays171_ren : Go.Shelf.Ren := ⟨fun | 171 => 91 | 243 => 103 | 246 => 109 | 283 => 113 | 284 => 114 | 285 => 115 | 286 => 116 | 129 => 127 | 317 => 126 | 318 => 128 | 319 => 129 | 320 => 130 | 337 => 135 | 338 => 136 | n => n, fun | 3 => 3 | 9 => 9 | 2 => 2 | 4 => 4 | 171 => 171 | 0 => 0 | 53 => 23 | 37 => 22 | 5 => 5 | 173 => 174 | 212 => 186 | 51 => 187 | 20 => 20 | 213 => 188 | 46 => 164 | 232 => 195 | 233 => 196 | n => n, fun | 17 => 0 | 18 => 1 | 19 => 2 | n => n⟩
theorem lays171 : Go.Proofs.LaysM.n171 Tryz.prog lays171_ren where
  mixed := by kernel_rfl
  f129 := Tryz.func127.trans (congrArg some (by kernel_rfl))
  f171 := Tryz.func91.trans (congrArg some (by kernel_rfl))
  f243 := Tryz.func103.trans (congrArg some (by kernel_rfl))
  f246 := Tryz.func109.trans (congrArg some (by kernel_rfl))
  f283 := Tryz.func113.trans (congrArg some (by kernel_rfl))
  f284 := Tryz.func114.trans (congrArg some (by kernel_rfl))
  f285 := Tryz.func115.trans (congrArg some (by kernel_rfl))
  f286 := Tryz.func116.trans (congrArg some (by kernel_rfl))
  f317 := Tryz.func126.trans (congrArg some (by kernel_rfl))
  f318 := Tryz.func128.trans (congrArg some (by kernel_rfl))
  f319 := Tryz.func129.trans (congrArg some (by kernel_rfl))
  f320 := Tryz.func130.trans (congrArg some (by kernel_rfl))
  f337 := Tryz.func135.trans (congrArg some (by kernel_rfl))
  f338 := Tryz.func136.trans (congrArg some (by kernel_rfl))
  t0 := Tryz.underlying0
  a0 := Tryz.isAgg0
  z0 := Tryz.sizeOf0
  v0 := Tryz.zeroValue0
  t2 := Tryz.underlying2
  a2 := Tryz.isAgg2
  z2 := Tryz.sizeOf2
  v2 := Tryz.zeroValue2
  t3 := Tryz.underlying3
  a3 := Tryz.isAgg3
  z3 := Tryz.sizeOf3
  v3 := Tryz.zeroValue3
  t4 := Tryz.underlying4
  a4 := Tryz.isAgg4
  z4 := Tryz.sizeOf4
  v4 := Tryz.zeroValue4
  t5 := Tryz.underlying5
  a5 := Tryz.isAgg5
  z5 := Tryz.sizeOf5
  v5 := Tryz.zeroValue5
  t9 := Tryz.underlying9
  a9 := Tryz.isAgg9
  z9 := Tryz.sizeOf9
  v9 := Tryz.zeroValue9
  t20 := Tryz.underlying20
  a20 := Tryz.isAgg20
  z20 := Tryz.sizeOf20
  v20 := Tryz.zeroValue20
  t37 := Tryz.underlying22
  a37 := Tryz.isAgg22
  z37 := Tryz.sizeOf22
  v37 := Tryz.zeroValue22
  t46 := Tryz.underlying164
  a46 := Tryz.isAgg164
  z46 := Tryz.sizeOf164
  v46 := Tryz.zeroValue164
  t51 := Tryz.underlying187
  a51 := Tryz.isAgg187
  z51 := Tryz.sizeOf187
  v51 := Tryz.zeroValue187
  t53 := Tryz.underlying23
  a53 := Tryz.isAgg23
  z53 := Tryz.sizeOf23
  v53 := Tryz.zeroValue23
  t171 := Tryz.underlying171
  a171 := Tryz.isAgg171
  z171 := Tryz.sizeOf171
  v171 := Tryz.zeroValue171
  t173 := Tryz.underlying174
  a173 := Tryz.isAgg174
  z173 := Tryz.sizeOf174
  v173 := Tryz.zeroValue174
  t212 := Tryz.underlying186
  a212 := Tryz.isAgg186
  z212 := Tryz.sizeOf186
  v212 := Tryz.zeroValue186
  t213 := Tryz.underlying188
  a213 := Tryz.isAgg188
  z213 := Tryz.sizeOf188
  t232 := Tryz.underlying195
  a232 := Tryz.isAgg195
  z232 := Tryz.sizeOf195
  v232 := Tryz.zeroValue195
  t233 := Tryz.underlying196
  a233 := Tryz.isAgg196
  z233 := Tryz.sizeOf196
  v233 := Tryz.zeroValue196
  g17 := by kernel_rfl
  g18 := by kernel_rfl
  g19 := by kernel_rfl
  i0 := by kernel_rfl
  i2 := by kernel_rfl
  i3 := by kernel_rfl
  i4 := by kernel_rfl
  i5 := by kernel_rfl
  i9 := by kernel_rfl
  i20 := by kernel_rfl
  i37 := by kernel_rfl
  i46 := by kernel_rfl
  i51 := by kernel_rfl
  i53 := by kernel_rfl
  i171 := by kernel_rfl
  i173 := by kernel_rfl
  i212 := by kernel_rfl
  i232 := by kernel_rfl
  i233 := by kernel_rfl
  m17 := by kernel_rfl
  m18 := by kernel_rfl
  m19 := by kernel_rfl


noncomputable def cT91 : Contract := { conOf Tryz.prog 2000 21 false ((Tryz.prog.funcs[91]?).getD default) with gl := [(0, tabC)] }

set_option maxRecDepth 100000 in
theorem hand91 : FnOK Tryz.prog 91 cT91 := by
  have e1 : cT91.iv = [some (-9223372036854775808, 9223372036854775807)] := by kernel_rfl
  have e2 : cT91.params = [.pv (.one (.int .i64 (.v 0)))] := by kernel_rfl
  have e4 : cT91.riv = [some (0, 21)] := by kernel_rfl
  have e5 : cT91.res = .pv (.one (.str (.v 1))) := by kernel_rfl
  have e6 : cT91.post = [] := by kernel_rfl
  have e7 : cT91.nv = 1 := by simp [Contract.nv, e1]
  have e8 : cT91.gl = [(0, tabC)] := by kernel_rfl
  intro χ w args hinv ha hi _ hgl
  rw [e2] at ha
  rw [e1] at hi
  rw [e8] at hgl
  have htab := tab_is hinv hgl (show Tryz.prog.globalNamed "internal/strconv.uint64pow10" = some 0 by kernel_rfl)
  obtain ⟨args⟩ := args
  match args, ha with
  | [a], ⟨ha, _⟩ =>
    have ha' : a = .int .i64 (χ.ρ 0) := ha
    subst ha'
    obtain ⟨i0, _⟩ := hi
    have hcon := Any.strconv_Itoa lays171 (χ.ρ 0) i0.1 i0.2 w htab
    refine Calls.mono (show Calls Tryz.prog 91 _ _ _ from hcon) ?_
    rintro e w' ⟨rfl, k, os, rfl⟩
    have hlen := Lib.itoa_length_le (χ.ρ 0) i0.1 i0.2
    have hg : w.grownBy (grow (w.drewN k) os) none := by
      refine ⟨rfl, rfl, rfl, ?_, fun i hi _ => ?_⟩
      · show w.heap.size ≤ (w.heap ++ os).size
        simp
      · show (w.heap ++ os)[i]? = w.heap[i]?
        exact Array.getElem?_append_left hi
    refine ⟨_, χ.withρ (rext χ.ρ 1 [((Lib.itoa (χ.ρ 0)).length : Int)]), rfl, by rw [e7]; exact Ext.rext χ 1 _, mem_of_grown hg _, (hinv.same fun b hb => hg.block b (hinv.lt hb) (by simp)).withρ _, ?_, ?_, ?_⟩
    · rw [e5]
      refine ⟨_, rfl, ?_⟩
      show (((Lib.itoa (χ.ρ 0)).toArray.size : Nat) : Int) = rext χ.ρ 1 [((Lib.itoa (χ.ρ 0)).length : Int)] 1
      simp [rext]
    · rw [e4, e7]
      refine ⟨?_, trivial⟩
      simp [rext, Chi.withρ]; omega
    · rw [e6]; trivial

end Go.Sx
