/- Part TitP of a proof: helper lemmas; no conditions. -/
import Derived.Test.YtnnaehcmchndmaaGreatDoorK
import Derived.Test.YtnnaehcmchndmaaGreatDoorTitD
import Derived.Test.YtnnaehcmchndmaaGreatDoorM
import Derived.Test.YtnnaehcmchndmaaGreatDoorProg
import Derived.WalkKit
import Derived.WalkSpells
import Derived.StillTactics
import Derived.OwnWalk
import Derived.Laws.Pointers
import Derived.Deep.RegionLaw
import Derived.Deep.AppendLies
import Derived.Deep.LoopGhost
import Derived.KernelRfl

set_option linter.unusedSimpArgs false
set_option linter.unusedVariables false

namespace Go.Sx
open Go Go.Proofs

set_option maxRecDepth 100000 in
set_option maxHeartbeats 1600000 in
theorem apartL (w : World) (Z : Nat → Prop) (cs : Array Value) (cv : Value) (fs : List Nat) (hcs : cs.size = 3) (hZ : ∀ b, Z b → b < w.heap.size) (hrd : RdV Z w dT (fun i => cs[i]?) 0)
    (hcv : ∃ lb c, cv = .slice (some ⟨lb, 0, none⟩) fs.length c ∧ lb < w.heap.size ∧ ∀ i f, fs[i]? = some f → w.cell? ⟨lb, i, none⟩ = some (.func (.func f) #[] #[]))
    (hfs : ∀ f ∈ fs, CallOK Tryz.prog 3 9 2000 f dT glL ∧ callable Tryz.prog f = true) (hfl : fs.length ≤ 1000) (hgl : GlobW Tryz.prog w glL) :
    Calls Tryz.prog 89 #[.agg cs, .func (.func 90) #[] #[], .func (.func 91) #[] #[], cv] w fun e w' => e = .returned (.bool true) ∧ w.grownBy w' none := by
  obtain ⟨lb, cc, rfl, hlb, hlc⟩ := hcv
  have hw1 : (w.alloc (.cells cs 141)).heap.size = w.heap.size + 1 := by show (w.heap.push _).size = _; simp
  have hx1 : ((w.alloc (.cells cs 141)).alloc (.cells #[.slice none 0 0, .slice none 0 0, .bool false, .int .i64 0] 171)).heap[w.heap.size]? = some (.cells cs 141 (0, 0)) := by rw [alloc_get, if_neg (by omega), alloc_get, if_pos rfl]
  have hf1 : ((w.alloc (.cells cs 141)).alloc (.cells #[.slice none 0 0, .slice none 0 0, .bool false, .int .i64 0] 171)).heap[w.heap.size + 1]? = some (.cells #[.slice none 0 0, .slice none 0 0, .bool false, .int .i64 0] 171 (0, 0)) := by rw [alloc_get, if_pos hw1.symm]
  have hg1 := grown_trans (grown_alloc w (.cells cs 141)) (grown_alloc (w.alloc (.cells cs 141)) (.cells #[.slice none 0 0, .slice none 0 0, .bool false, .int .i64 0] 171))
  have hs1 : ((w.alloc (.cells cs 141)).alloc (.cells #[.slice none 0 0, .slice none 0 0, .bool false, .int .i64 0] 171)).heap.size = w.heap.size + 2 := by show ((w.alloc _).heap.push _).size = _; simp [hw1]
  have hrd1 := hrd.boxed (fun b hb => hg1.block b (hZ b hb) (by simp)) hx1
  have hstr := strings_small dT hrd1 ([], []) (fun s hs => nomatch hs)
  have hsee := see91 _ _ (w.heap.size + 1) 0 (w.heap.size + 2) w.heap.size 0 0 _ _ [] [] hrd1 (fun b hb => by rcases hb with hb | hb; have := hZ b hb; omega; omega) (newEye hf1 (by omega) (by omega)) roomT
  go_enter Tryz.func89, Tryz.ntmps89
  go_wp2_with (first
    | (refine hsee.mono ?_
       rintro e w2 ⟨rfl, hk2, vn, vs, he2⟩
       have c0 := he2.c0
       have c1 := he2.c1
       have c2 := he2.c2
       have c3 := he2.c3)
    | (refine (great114 w2 _ _ vn vs false 0 _ _ he2.on he2.os hstr).mono ?_
       rintro e w3 ⟨g, rfl, hg3, hfew⟩))
  · go_ret
    exact ⟨rfl, grown_trans (grown_look hg1 hk2 (by omega) (by omega)) hg3⟩
  · have hgf : g = false := by assumption
    have hfew' := hfew hgf
    subst hgf
    have hgw3 := grown_trans (grown_look hg1 hk2 (by omega) (by omega)) hg3
    have hW2 : ∀ b, b < w.heap.size + 1 → w2.heap[b]? = ((w.alloc (.cells cs 141)).alloc (.cells #[.slice none 0 0, .slice none 0 0, .bool false, .int .i64 0] 171)).heap[b]? := fun b hb => hk2.old b (by omega) (by omega)
    have hW2s : w.heap.size + 2 ≤ w2.heap.size := by have := hk2.size; omega
    have hxb : w3.heap[w.heap.size]? = some (.cells cs 141 (0, 0)) := (hg3.block _ (by omega) (by simp)).trans ((hW2 _ (by omega)).trans hx1)
    have hEF : Eye1 3 9 (w.heap.size + 1) w3 (w.heap.size + 1) 0 (seenV w3 dT (fun i => cs[i]?) 0 ([], [])) ∧ Few 2000 (seenV w3 dT (fun i => cs[i]?) 0 ([], [])) := by
      have e1 := (EyeAt.eye1 (lo := w.heap.size + 1) he2 (by omega) (by omega)).grown hg3
      have e2 : seen ((w.alloc (.cells cs 141)).alloc (.cells #[.slice none 0 0, .slice none 0 0, .bool false, .int .i64 0] 171)) dT w.heap.size 0 ([], []) = seenV w3 dT (fun i => cs[i]?) 0 ([], []) := by
        rw [seen_V, seenV_congr _ dT (g := fun i => cs[i]?) (p := 0) _ (fun i _ => by rw [cell?_blk hx1])]
        refine Eq.trans (seenV_same (fun b hb => hg1.block b (hZ b hb) (by simp)) dT hrd _) (seenV_same (fun b hb => hgw3.block b (hZ b hb) (by simp)) dT hrd _).symm
      have e3 := hfew'
      rw [e2] at e1 e3
      exact ⟨e1, e3⟩
    obtain ⟨hE, hfst⟩ := hEF
    have hsm : SmV 2000 w3 dT (fun i => cs[i]?) 0 := by
      have h1 := small_of_few (m := 2000) (by omega) dT rowsT hrd1 _ hfew'
      have h2 := h1.same (w' := w3) (fun b hb => ?_) dT hrd1.v
      · exact SmV.congr dT (fun i _ => by rw [cell?_blk hx1]) h2
      · rcases hb with hb | rfl
        · exact (hgw3.block b (hZ b hb) (by simp)).trans (hg1.block b (hZ b hb) (by simp)).symm
        · exact hxb.trans hx1.symm
    generalize hst0 : seenV w3 dT (fun i => cs[i]?) 0 ([], []) = st0 at hE hfst
    have hrd3 := hrd.same (fun b hb => hgw3.block b (hZ b hb) (by simp)) dT
    have hlc3 : ∀ i f, fs[i]? = some f → w3.cell? ⟨lb, i, none⟩ = some (.func (.func f) #[] #[]) := fun i f h => (World.cell?_of_block (a := ⟨lb, i, none⟩) (hgw3.block lb hlb (by simp))).trans (hlc i f h)
    have hs3 : w.heap.size + 2 ≤ w3.heap.size := Nat.le_trans hW2s hg3.size
    have hgl3 : GlobW Tryz.prog w3 glL := hgl.grown hgw3
    have hgl0 := hgl.lt
    clear hsee hstr hrd1 hfew hfew' hk2 he2 c0 c1 c2 c3 hg3 hx1 hf1 hg1 hs1 hW2 hrd hlc hW2s hw1
    go_loopg [10] fs.length (fun k p wr => ∃ i : Nat, p = .int .i64 i ∧ i + k = fs.length ∧ w3.grownBy wr none)
    · exact ⟨0, by simp, by omega, grown_refl _⟩
    · obtain ⟨i, rfl, hik, hg⟩ := hrel
      cases gk with
      | zero =>
        have hil : decide (i < fs.length) = false := by simp; omega
        go_wp2
        go_ret
        exact ⟨rfl, grown_trans hgw3 hg⟩
      | succ k =>
        have hil : decide (i < fs.length) = true := by simp; omega
        have hlt : i < fs.length := by omega
        have hi0 : (0 : Int) ≤ (i : Int) := by omega
        have hi1 : (i : Int) < (fs.length : Int) := by omega
        have hi40 : (i : Int) ≤ 1000 := by omega
        have hfi : fs[i]? = some fs[i] := List.getElem?_eq_getElem hlt
        obtain ⟨hcall, hcb⟩ := hfs _ (List.getElem_mem hlt)
        have hlb3 : lb < w3.heap.size := by omega
        have hcell : wr.cell? ⟨lb, i, none⟩ = some (.func (.func fs[i]) #[] #[]) := (World.cell?_of_block (a := ⟨lb, i, none⟩) (hg.block lb hlb3 (by simp))).trans (hlc3 i _ hfi)
        obtain ⟨fn, hh, hbody, hname⟩ := callable_ok hcb
        generalize fs[i] = fz at *
        have hcf := run_callFn hh hbody hname
        have hxr : wr.heap[w.heap.size]? = some (.cells cs 141 (0, 0)) := (hg.block _ (by omega) (by simp)).trans hxb
        have hagT : aggOf Tryz.prog 141 = some true := by kernel_rfl
        have hszT : sizeAt Tryz.prog 141 = some 3 := by kernel_rfl
        have hZ3 : ∀ b, Z b → wr.heap[b]? = w3.heap[b]? := fun b hb => hg.block b (by have := hZ b hb; omega) (by simp)
        have hown := own90 wr Chi.none Z cs (InvF.none _ _) (fun b hb => by have := hZ b hb; have := hg.size; omega) hcs (hrd3.same hZ3 dT) (hsm.same hZ3 dT hrd3)
        have hsz3 : w3.heap.size ≤ wr.heap.size := hg.size
        have hseenr : seenV wr dT (fun i => cs[i]?) 0 ([], []) = st0 := (seenV_same hZ3 dT hrd3 _).trans hst0
        have hEr := hE.grown hg
        clear hcb hfs hsm hrd3 hZ hxb hlc3 hst0
        go_wp2_with (first
          | (refine wpList_load_agg rfl 141 _ rfl hagT 3 hszT w.heap.size rfl cs 141 hxr hcs ?_)
          | (refine hown.mono ?_
             clear hown
             rintro e w4 ⟨cs', χ, rfl, hcs', hgr, hpart⟩
             have hst : ∀ zs : Array Value, zs.size = 3 → (storeCells ⟨w4.heap.size, 0, none⟩ cs'.toList).run Tryz.prog (w4.alloc (.cells zs 141)) = .ok () (w4.alloc (.cells cs' 141)) := fun zs hz => store_new w4 141 zs cs' (by rw [hz, hcs']; rfl) (hpart.one hcs')
             have hcs9 : cs'.size = 3 := hcs'
             obtain ⟨hY5, hinv5, hnA, hblk, hty, hrng⟩ := YSt.mk' (T := 141) (by unfold LB; omega) okT hgr hpart hcs'
             rw [hseenr] at hY5
             have hg5 : wr.grownBy (w4.alloc (.cells cs' 141)) none := grown_alloc' hgr.grown _
             have hcell5 : (w4.alloc (.cells cs' 141)).cell? ⟨lb, i, none⟩ = some (.func (.func fz) #[] #[]) := (World.cell?_of_block (a := ⟨lb, i, none⟩) (hg5.block lb (by omega) (by simp))).trans hcell
             have hsmY : SmV 2000 (w4.alloc (.cells cs' 141)) dT (fun i => cs'[i]?) 0 :=
               SmV.congr dT (fun i _ => by rw [cell?_blk hblk]) (small_of_few (m := 2000) (by omega) dT rowsT (At.rd hY5.inv dT okT hY5.at_) ([], []) (by rw [hY5.seen]; exact hfst))
             have hcl5 := hcall _ χ w4.heap.size cs' 141 hinv5 hnA hblk hty ((hgl3.grown hg).grown hg5) (fun p hp => ⟨fun ha => by have := hgl0 p hp; have := hrng p.1 ha; omega, by have := hgl0 p hp; have := hgr.grown.size; omega⟩) hsmY
             have hs5 : (w4.alloc (.cells cs' 141)).heap.size = w4.heap.size + 1 := by show (w4.heap.push _).size = _; simp
             have hs4 : wr.heap.size ≤ w4.heap.size := hgr.grown.size)
          | (refine hcl5.mono ?_
             clear hcl5
             rintro e w6 ⟨lv, cl, χr, rfl, hg6, hrow, hlen, hinvr, hfresh, hcls, hsep, hlv⟩
             have hL6 : LSt Tryz.prog 3 9 χr w6 lv cl := ⟨hrow, hlen, hinvr, hcls, hsep⟩
             have hlv6 : ∀ lb l c, lv = .slice (some ⟨lb, 0, none⟩) l c → lb < w6.heap.size := fun lb l c h => hrow.lt h
             have hR6 : ∀ b, UA χr b → b < w6.heap.size := fun b ⟨i, hb⟩ => (hinvr i).1.lt hb
             have hYr : ∀ b, (χ.addF w4.heap.size (kkOf dT.cts)).A b → wr.heap.size ≤ b ∧ b ≤ w4.heap.size := fun b hb => by
               rcases hb with hb | hb
               · have := hrng b hb; omega
               · omega
             have hRr : ∀ b, UA χr b → w4.heap.size + 1 ≤ b := fun b ⟨i, hb⟩ => by have := hfresh i b hb; omega
             have hlvY : ∀ lb l c, lv = .slice (some ⟨lb, 0, none⟩) l c → ¬ (χ.addF w4.heap.size (kkOf dT.cts)).A lb := fun lb l c h ha => by have := (hlv lb l c h).1; have := hYr lb ha; omega
             have hlvR : ∀ lb l c, lv = .slice (some ⟨lb, 0, none⟩) l c → ¬ UA χr lb := fun lb l c h ⟨i, hi⟩ => (hlv lb l c h).2 i hi
             have hs6 : w4.heap.size + 1 ≤ w6.heap.size := by have := hg6.size; omega
             have hg36 := grown_trans hg5 hg6
             obtain ⟨k0, k1, k2, hs7, hg7⟩ := eyes3 w6 171
             have hY7 := (hY5.grown okT hg6).grown okT hg7
             generalize χ.addF w4.heap.size (kkOf dT.cts) = χY at *
             have hsee7 := hY7.look okT see91 roomT k0 (base := w6.heap.size + 3) (by omega) (by omega) (fun b hb => by have := hYr b hb; omega))
          | (refine hsee7.mono ?_
             clear hsee7
             rintro e w8 ⟨rfl, hk8, hE8, _⟩
             have hg68 := grown_look hg7 hk8 (Nat.le_refl _) (by omega)
             have k1' := (hk8.old _ (by omega) (by omega)).trans k1
             have k2' := (hk8.old _ (by omega) (by omega)).trans k2
             have hs8 := hk8.size
             have hL8 := hL6.grown hg68
             have hY8 := hY7.same okT (w' := w8) (fun b hb => hk8.old b (by have := hYr b hb; omega) (by have := hYr b hb; omega))
             have hlook8 := look115 w8 lv cl hL8.row hL8.clos (by omega))
          | (refine hlook8.mono ?_
             clear hlook8
             rintro e w9 ⟨v9, rfl, hg9, hrow9⟩
             have hY9 := hY8.grown okT hg9
             have hL9 := hL8.grown hg9
             have hs9 := hg9.size
             have hmark9 := hY9.marks okT mark91 roomT (E := 171))
          | (refine hmark9.mono ?_
             clear hmark9
             rintro e w11 ⟨rfl, hm11, st11, hY11⟩
             have hgr9 := grown_trans (grown_trans hg36 hg68) hg9
             have hgr11 := Marked.grown hgr9 hm11 (fun b hb => (hYr b hb).1)
             have hE11 := hEr.grown hgr11
             have hI11 := (hE8.grown hg9).marked hm11 (fun b hb => by have := hYr b hb; omega)
             have hr11 : ∀ b, UA χr b → w11.heap[b]? = w9.heap[b]? := fun b hb => hm11.old b (hL9.lt hb) (fun ha => by have := hYr b ha; have := hRr b hb; omega)
             have hL11 := hL9.marked hm11 (fun i => (hL9.inv i).same fun b hb => hr11 b ⟨i, hb⟩) hlvY
             have hT11 := hrow9.marked hm11 (fun b hb => by have := hYr b hb; omega)
             have k1'' : w11.heap[w6.heap.size + 1]? = some (eyeO 171 false 0) := (hm11.old _ (by omega) (fun ha => by have := hYr _ ha; omega)).trans ((hg9.block _ (by omega) (by simp)).trans k1')
             have k2'' : w11.heap[w6.heap.size + 1 + 1]? = some (eyeO 171 false 0) := (hm11.old _ (by omega) (fun ha => by have := hYr _ ha; omega)).trans ((hg9.block _ (by omega) (by simp)).trans k2')
             have hs11 := hm11.size
             obtain ⟨vn1, vs1, ba1, at1, p0, p1, p2, p3, p4, p5, _⟩ := hE11.h
             obtain ⟨vn2, vs2, ba2, at2, q0, q1, q2, q3, q4, q5, _⟩ := hI11.h
             have hsame11 := same116 w11 _ _ _ _ vn1 vs1 vn2 vs2 false false at1 at2 _ _ p4 p5 q4 q5)
          | (refine hsame11.mono ?_
             clear hsame11
             rintro e w12 ⟨rfl, hg12⟩
             have hL12 := hL11.grown hg12
             have hlook12 := look115 w12 lv cl hL12.row hL12.clos (by omega))
          | (refine hlook12.mono ?_
             clear hlook12
             rintro e w13 ⟨v13, rfl, hg13, hrow13⟩
             have hsn : cl.map (Clos.seen w12) = cl.map (Clos.seen w8) := ((hL11.seen fun b hb => hg12.block b (hL11.lt hb) (by simp)).trans (hL9.seen hr11)).trans (hL8.seen fun b hb => hg9.block b (hL8.lt hb) (by simp))
             have hal13 := alike117 w13 v9 v13 _ _ (-1) ((hT11.grown hg12).grown hg13) hrow13 (by simp) (fun i _ => by rw [hsn]) (by simp; omega))
          | (refine hal13.mono ?_
             clear hal13
             rintro e w14 ⟨rfl, hg14⟩
             have hY14 := ((hY11.grown okT hg12).grown okT hg13).grown okT hg14
             have hL14 := (hL12.grown hg13).grown hg14
             have hg1114 := grown_trans (grown_trans hg12 hg13) hg14
             have k1b := (hg1114.block _ (by omega) (by simp)).trans k1''
             have k2b := (hg1114.block _ (by omega) (by simp)).trans k2''
             have hs14 := hg1114.size
             have hsee14 := hY14.look okT see91 roomT k1b (base := w14.heap.size) (by omega) (Nat.le_refl _) (fun b hb => by have := hYr b hb; omega))
          | (refine hsee14.mono ?_
             clear hsee14
             rintro e w15 ⟨rfl, hk15, _, vn3, vs3, at3, hO15⟩
             have hm15 : Marked (fun b => b = w6.heap.size + 1) w14 w15 := ⟨hk15.os, hk15.tape, hk15.output, hk15.size, fun b hb hne => hk15.old b hb hne⟩
             have hL15 := hL14.marked hm15 (fun i => (hL14.inv i).same fun b hb => hm15.old b ((hL14.inv i).1.lt hb) (by have := hR6 b ⟨i, hb⟩; omega)) (fun lb l c h => by have := hlv6 lb l c h; omega)
             have hY15 := hY14.same okT (w' := w15) (fun b hb => hm15.old b (hY14.inv.1.lt hb) (by have := hYr b hb; omega))
             have k2c := (hk15.old _ (by omega) (by omega)).trans k2b
             have hs15 := hk15.size
             have hgr14 := grown_trans hgr11 hg1114
             have hgr15 := Marked.grown hgr14 hm15 (fun b hb => by omega)))
        clear hY8 hY9 hY11 hY14 hL6 hL8 hL9 hL11 hL12 hL14 hY7 hY5 hm11 hk8 hk15 hm15 hg12 hg13 hg14 hrow9 hrow13 hT11 hI11 hE11 p0 p1 p2 p3 p4 p5 q0 q1 q2 q3 q4 q5 k0 k1 k2 k1' k2' k1'' k2'' k1b k2b hsn hr11 hg9 hg68 hg7 hg1114 hgr9 hgr11 hgr14
        obtain ⟨ao, lc, rfl⟩ := hL15.row.form
        obtain ⟨wo, rfl⟩ : ∃ x, x = wr := ⟨wr, rfl⟩
        go_loopg [17] cl.length (fun k2 p wr => ∃ j : Nat, p = .int .i64 j ∧ j + k2 = cl.length ∧ Marked (UA χr) w15 wr ∧ ∀ i, InvF Tryz.prog (χr i) wr)
        · exact ⟨0, by simp, by omega, Marked.refl _ _, hL15.inv⟩
        · obtain ⟨j, rfl, hjk, hmk, hik2⟩ := hrel
          have hsk := hmk.size
          have hLk := hL15.marked hmk hik2 hlvR
          cases gk with
          | zero =>
            have hjl : decide (j < cl.length) = false := by simp; omega
            have hYk := hY15.same okT (w' := wr) (fun b hb => hmk.old b (hY15.inv.1.lt hb) (fun ha => by have := hYr b hb; have := hRr b ha; omega))
            have k2k : wr.heap[w6.heap.size + 1 + 1]? = some (eyeO 171 false 0) := (hmk.old _ (by omega) (fun ha => by have := hR6 _ ha; omega)).trans k2c
            have hseek := hYk.look okT see91 roomT k2k (base := wr.heap.size) (by omega) (Nat.le_refl _) (fun b hb => by have := hYr b hb; have := hYk.inv.1.lt hb; omega)
            have hgrk := Marked.grown hgr15 hmk (fun b hb => by have := hRr b hb; omega)
            go_wp2_with (first
              | (refine hseek.mono ?_
                 clear hseek
                 rintro e w20 ⟨rfl, hk20, hG20, _⟩
                 have hO20 := (hO15.later (w' := w20) ((hk20.old _ (by omega) (by omega)).trans (hmk.old _ (by omega) (fun ha => by have := hR6 _ ha; omega))) (fun b h1 h2 => (hk20.old b (by omega) (by omega)).trans (hmk.old b h2 (fun ha => by have := hR6 _ ha; omega))) (by have := hk20.size; omega)).eye1 (lo := w6.heap.size + 1) (Nat.le_refl _) (by omega)
                 have hgr20 : wo.grownBy w20 none := grown_look hgrk hk20 (by omega) (by omega)
                 obtain ⟨vn1, vs1, ba1, at1, p0, p1, p2, p3, p4, p5, _⟩ := hO20.h
                 obtain ⟨vn2, vs2, ba2, at2, q0, q1, q2, q3, q4, q5, _⟩ := hG20.h
                 have hsame20 := same116 w20 _ _ _ _ vn1 vs1 vn2 vs2 false false at1 at2 _ _ p4 p5 q4 q5)
              | (refine hsame20.mono ?_
                 clear hsame20
                 rintro e w21 ⟨rfl, hg21⟩))
            go_roundg k <;> first | omega | exact ⟨i + 1, by go_num, by omega, grown_trans hg (grown_trans hgr20 hg21)⟩
          | succ k2 =>
            have hjl : decide (j < cl.length) = true := by simp; omega
            have hjlt : j < cl.length := by omega
            have hj0 : (0 : Int) ≤ (j : Int) := by omega
            have hj1 : (j : Int) ≤ 1 := by omega
            have hjc : (j : Int) < (cl.length : Int) := by omega
            have hcj : cl[j]? = some cl[j] := List.getElem?_eq_getElem hjlt
            have hcm : cl[j] ∈ cl := List.getElem_mem hjlt
            obtain ⟨cfn, chh, chb, chn⟩ := callable_ok (hLk.cl _ _ hcj).2.call
            obtain ⟨lbv, rfl, _⟩ := hLk.row.cell hcj
            have hlook16 := look115 wr _ cl hLk.row hLk.clos (by omega)
            generalize cl[j] = cz at *
            have hcf2 := run_callFn chh chb chn
            go_wp2_with (first
              | (refine hlook16.mono ?_
                 clear hlook16
                 rintro e w16 ⟨v16, rfl, hg16, hrow16⟩
                 have hL16 := hLk.grown hg16
                 obtain ⟨lbv', hlbe, hcell16⟩ := hL16.row.cell hcj
                 cases hlbe
                 have hmark16 := hL16.marks hcj (E := 171) (1000000 * ((j : Int) + 1)))
              | (refine hmark16.mono ?_
                 clear hmark16
                 rintro e w17 ⟨rfl, hm17j, hi17⟩
                 have hm17 : Marked (UA χr) w16 w17 := hm17j.mono fun b hb => ⟨j, hb⟩
                 have hsb17 := hLk.seen_but (j : Int) (w' := w17) (fun i hi b hb => (hm17j.old b ((hL16.inv i).1.lt hb) (hLk.sep i j (fun e => hi (by rw [e])) b hb)).trans (hg16.block b ((hLk.inv i).1.lt hb) (by simp)))
                 have hL17 := hL16.marked hm17 hi17 hlvR
                 have hrow17 := hrow16.marked hm17 (fun b hb => by have := hR6 b hb; omega)
                 have hlook17 := look115 w17 _ cl hL17.row hL17.clos (by omega))
              | (refine hlook17.mono ?_
                 clear hlook17
                 rintro e w18 ⟨v18, rfl, hg18, hrow18⟩
                 have hal18 := alike117 w18 v16 v18 _ _ (j : Int) (hrow17.grown hg18) hrow18 (by simp) hsb17 (by simp; omega))
              | (refine hal18.mono ?_
                 clear hal18
                 rintro e w19 ⟨rfl, hg19⟩))
            go_roundg k2 <;> first | omega | exact ⟨j + 1, by go_num, by omega, ((hmk.trans (Marked.of_grown hg16)).trans hm17).trans (Marked.of_grown (grown_trans hg18 hg19)), fun i => (hi17 i).same fun b hb => (grown_trans hg18 hg19).block b ((hi17 i).1.lt hb) (by simp)⟩

end Go.Sx
