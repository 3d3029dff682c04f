/- Part TrA of a proof: helper lemmas; no conditions. -/
import Derived.Test.YtadhlkgjiccdpaaGreatDoorK
import Derived.Test.YtadhlkgjiccdpaaGreatDoorL
import Derived.Test.YtadhlkgjiccdpaaGreatDoorTgC

set_option linter.unusedSimpArgs false
set_option linter.unusedVariables false

namespace Go.Sx
open Go Go.Proofs

def treeD : Nat → D
  | 0 => .stop treeC
  | n + 1 => .seq (.int .u8) (.seq (.int .u32) (.seq .bool (.seq (.row 5 (.int .u8)) (.row 61 (treeD n)))))

def KT : Nat := 40000

theorem treeD_cts : ∀ n, (treeD n).cts = treeC
  | 0 => rfl
  | _ + 1 => rfl

theorem treeD_size : ∀ n, (treeD n).size = 5
  | 0 => rfl
  | _ + 1 => rfl

theorem treeD_num : ∀ n, (treeD n).num = true
  | 0 => rfl
  | _ + 1 => rfl

theorem treeD_rows : ∀ n, (treeD n).rows = true
  | 0 => rfl
  | n + 1 => by simp only [treeD, D.rows, D.num, treeD_num n, treeD_rows n, Bool.and_self]

theorem tauOd : tau Tryz.prog (.base 5) = (D.int .u8).cts := by kernel_rfl

theorem treeD_rowok (n : Nat) (h : (treeD n).ok Tryz.prog) : (D.row 61 (treeD n)).ok Tryz.prog :=
  ⟨tauT.trans (treeD_cts n).symm, by rw [treeD_size]; decide, h⟩

theorem treeD_ok : ∀ n, (treeD n).ok Tryz.prog
  | 0 => trivial
  | n + 1 => ⟨trivial, trivial, trivial, ⟨tauOd, by decide, trivial⟩, treeD_rowok n (treeD_ok n)⟩

theorem treeD_bnd : ∀ n, (treeD n).bnd = 6 * n + 3000
  | 0 => rfl
  | n + 1 => by simp only [treeD, D.bnd, treeD_bnd n]; omega

theorem treeD_co : ∀ n, (treeD n).co = 0
  | 0 => rfl
  | n + 1 => by simp only [treeD, D.co, treeD_co n]

theorem treeD_mn : ∀ n, 1 ≤ n → (treeD n).mn = 5
  | 0, h => absurd h (by decide)
  | _ + 1, _ => rfl

theorem treeD_fit : ∀ n k, 1 ≤ n → 200000 ≤ k + 5 * n → (treeD n).fit k
  | 0, _, h, _ => absurd h (by decide)
  | n + 1, k, _, h => by
    refine ⟨trivial, trivial, trivial, .inr trivial, ?_⟩
    by_cases h1 : 200000 ≤ k + 5
    · exact .inl (by simp only [D.mn]; omega)
    · exact .inr (treeD_fit n _ (by omega) (by simp only [D.mn]; omega))

theorem KT_eq : KT = 40000 := rfl

theorem KT_fit (k : Nat) : (treeD KT).fit k := treeD_fit KT k (by rw [KT_eq]; decide) (by rw [KT_eq]; omega)
theorem KT_bnd : (treeD KT).bnd = 243000 := by rw [treeD_bnd, KT_eq]
theorem KT_room : Room (treeD KT) [] [] := ⟨by rw [KT_bnd]; decide, by rw [treeD_co, Nat.zero_mul]; decide, KT_fit _⟩

theorem tree_cover (n : Nat) : CoverP [(3, .row 5 (.int .u8)), (4, .row 61 (treeD n))] (treeD (n + 1)) 0 :=
  .inr (.inr ⟨.inr (by kernel_rfl), .inr (.inr ⟨.inr (by kernel_rfl), .inr (.inr ⟨.inr (by kernel_rfl), .inr (.inr ⟨.inl (.head _), .inl (.tail _ (.head _))⟩)⟩)⟩)⟩)

theorem tree_parts (n : Nat) {m : Nat} : ∀ p ∈ [((3 : Nat), D.row 5 (.int .u8)), (4, .row 61 (treeD n))], p.1 + p.2.size ≤ (treeD (n + 1)).size ∧ ∀ {Z w f}, RdV Z w (treeD (n + 1)) f 0 → SmV m w (treeD (n + 1)) f 0 → RdV Z w p.2 f p.1 ∧ SmV m w p.2 f p.1 :=
  partsP_ok (by
    intro p hp
    simp only [List.mem_cons, List.not_mem_nil, or_false] at hp
    rcases hp with rfl | rfl
    · exact ⟨by rw [treeD_size]; decide, .inr (.inr (.inr (.inr (.inr (.inr (.inr (.inl ⟨rfl, rfl⟩)))))))⟩
    · exact ⟨by rw [treeD_size]; exact Nat.le_refl 5, .inr (.inr (.inr (.inr (.inr (.inr (.inr (.inr ⟨rfl, rfl⟩)))))))⟩)

theorem leavesT : typeLeaves Tryz.prog 40 61 0 = some [(0, 5), (1, 24), (2, 4), (3, 27), (4, 59)] := by kernel_rfl
theorem leavesB : typeLeaves Tryz.prog 40 5 0 = some [(0, 5)] := by kernel_rfl
theorem kindB_u8 (m : Nat) : kindB Tryz.prog (m + 1) (.int .u8) 5 = true := by
  simp only [kindB, D.isStop, Bool.false_or, leavesB, D.leaves, pairB, Bool.and_true, Bool.and_eq_true]
  exact ⟨rfl, (by kernel_rfl : leafB Tryz.prog (fun _ _ => false) (.int .u8) 5 = true)⟩

theorem treeD_kind : ∀ n m, n ≤ m → kindB Tryz.prog (m + 2) (treeD n) 61 = true
  | 0, _, _ => rfl
  | n + 1, m, h => by
    obtain ⟨m, rfl⟩ : ∃ q, m = q + 1 := ⟨m - 1, by omega⟩
    have ih := treeD_kind n m (by omega)
    have h1 : leafB Tryz.prog (fun _ _ => false) (.int .u8) 5 = true := by kernel_rfl
    have h2 : leafB Tryz.prog (fun _ _ => false) (.int .u32) 24 = true := by kernel_rfl
    have h3 : leafB Tryz.prog (fun _ _ => false) .bool 4 = true := by kernel_rfl
    have u4 : Tryz.prog.underlying 27 = some (.slice 5) := by kernel_rfl
    have u5 : Tryz.prog.underlying 59 = some (.slice 61) := by kernel_rfl
    have c4 : Tryz.prog.cellsOf 5 = 1 := by kernel_rfl
    have c5 : Tryz.prog.cellsOf 61 = 5 := by kernel_rfl
    have h4 : leafB Tryz.prog (kindB Tryz.prog (m + 2)) (.row 5 (.int .u8)) 27 = true := by
      simp only [leafB, u4, c4, D.size, kindB_u8 (m + 1)]; rfl
    have h5 : leafB Tryz.prog (kindB Tryz.prog (m + 2)) (.row 61 (treeD n)) 59 = true := by
      simp only [leafB, u5, c5, treeD_size, ih]; rfl
    show kindB Tryz.prog (m + 2 + 1) (treeD (n + 1)) 61 = true
    unfold kindB
    rw [leavesT]
    show ((false || pairB (leafB Tryz.prog (kindB Tryz.prog (m + 2))) [(0, .int .u8), (1, .int .u32), (2, .bool), (3, .row 5 (.int .u8)), (4, .row 61 (treeD n))] [(0, 5), (1, 24), (2, 4), (3, 27), (4, 59)]) : Bool) = true
    simp only [pairB, h4, h5, Bool.false_or, Bool.and_true]
    rw [show leafB Tryz.prog (kindB Tryz.prog (m + 2)) (.int .u8) 5 = true from h1, show leafB Tryz.prog (kindB Tryz.prog (m + 2)) (.int .u32) 24 = true from h2, show leafB Tryz.prog (kindB Tryz.prog (m + 2)) .bool 4 = true from h3]
    rfl

theorem leafB_mono {P : Program} {f g : D → TypeId → Bool} (h : ∀ e t, f e t = true → g e t = true) : ∀ {d : D} {u : TypeId}, leafB P f d u = true → leafB P g d u = true := by
  intro d u hd
  cases d with
  | row t e =>
    simp only [leafB] at hd ⊢
    split at hd
    · simp only [Bool.and_eq_true] at hd ⊢
      exact ⟨hd.1, h _ _ hd.2⟩
    · cases hd
  | _ => exact hd

theorem pairB_mono {f g : D → TypeId → Bool} (h : ∀ d u, f d u = true → g d u = true) : ∀ {l : List (Nat × D)} {l' : List (Nat × TypeId)}, pairB f l l' = true → pairB g l l' = true
  | [], [], _ => rfl
  | [], _ :: _, hp => by cases hp
  | _ :: _, [], hp => by cases hp
  | (o, d) :: l, (o', u) :: l', hp => by
    simp only [pairB, Bool.and_eq_true] at hp ⊢
    exact ⟨⟨hp.1.1, h _ _ hp.1.2⟩, pairB_mono h hp.2⟩

theorem kindB_mono {P : Program} : ∀ {n : Nat} {d : D} {t : TypeId}, kindB P n d t = true → kindB P (n + 1) d t = true
  | 0, _, _, h => by cases h
  | n + 1, d, t, h => by
    unfold kindB at h ⊢
    simp only [Bool.or_eq_true] at h ⊢
    rcases h with h | h
    · exact .inl h
    · refine .inr ?_
      split at h
      · exact pairB_mono (fun d u hd => leafB_mono (fun e t he => kindB_mono he) hd) h
      · cases h

theorem kindB_le {P : Program} {n m : Nat} (h : n ≤ m) {d : D} {t : TypeId} (hk : kindB P n d t = true) : kindB P m d t = true := by
  induction h with
  | refl => exact hk
  | step _ ih => exact kindB_mono ih

end Go.Sx
