/- CircCancelled, part 2: the canonical machine and the runs of the program's functions on it. No conditions. -/
import Derived.Below
import Derived.Deep.Slices
import Derived.Test.YtpbamjaldnhamaaDoorCcP1
namespace Go.Canon
set_option linter.unusedVariables false
set_option linter.unusedSimpArgs false
open Go Go.Proofs Go.Shelf
open Classical
variable {P : Program} {w w' : World} {μ : M} {h : Heap}
theorem one_rel {l l' : List Value} (hr : VRels μ l l') (hc : l.all isCell = true) : ∀ v ∈ l', v.oneCell' = true := by
  intro v hv
  obtain ⟨i, hi, rfl⟩ := List.getElem_of_mem hv
  have hil : i < l.length := by rw [hr.1]; exact hi
  exact vrel_isCell (hr.2 i l[i] _ (List.getElem?_eq_getElem hil) (List.getElem?_eq_getElem hi)) (List.all_eq_true.1 hc _ (List.getElem_mem hil))
/-- The real cells beside those of a row. -/
theorem cells_real {b o n s : Nat} {cs cells : List Value} {c : Array Value} {wr : Bool} {gr : Option Nat} (hrow : h[b]? = some (.row cs wr gr)) (hg : rowGet h ⟨b, o, none⟩ n = some cells)
    (hcell : ∀ (i : Nat) v, cs[i]? = some v → ∃ v', c[s + i]? = some v' ∧ VRel μ v v') : ∃ l', cells.length = n ∧ VRels μ cells l' ∧ ∀ (j : Nat) v, l'[j]? = some v → c[s + o + j]? = some v := by
  unfold rowGet at hg
  rw [hrow] at hg
  dsimp only at hg
  split at hg
  · rename_i hc
    cases hg
    have hlen : ((cs.drop o).take n).length = n := by
      have : o + n ≤ cs.length := by simpa using hc
      simp; omega
    have key : ∀ (i : Nat) v, ((cs.drop o).take n)[i]? = some v → ∃ v', (c.toList.drop (s + o))[i]? = some v' ∧ VRel μ v v' := fun i v hv => by
      rw [List.getElem?_take] at hv
      split at hv
      · rw [List.getElem?_drop] at hv
        obtain ⟨v', h1, h2⟩ := hcell _ _ hv
        exact ⟨v', by rw [List.getElem?_drop, Array.getElem?_toList, ← h1]; congr 1; omega, h2⟩
      · cases hv
    have hl : ((cs.drop o).take n).length ≤ (c.toList.drop (s + o)).length := by
      by_cases h0 : ((cs.drop o).take n).length = 0
      · omega
      · obtain ⟨v', h1, _⟩ := key (((cs.drop o).take n).length - 1) _ (List.getElem?_eq_getElem (by omega))
        have := (List.getElem?_eq_some_iff.1 h1).1
        omega
    refine ⟨_, hlen, vrels_of_get hl key, fun j v hv => ?_⟩
    rw [List.getElem?_take] at hv
    split at hv
    · rw [List.getElem?_drop, Array.getElem?_toList] at hv; exact hv
    · cases hv
  · cases hg
theorem first_realG {b o n k s : Nat} {cs cells : List Value} {wr : Bool} {gr : Option Nat} {c : Array Value} (hfc : firstC h 4 n (.slice (some ⟨b, o, none⟩) n k) = some cells) (hrow : h[b]? = some (.row cs wr gr))
    (hcell : ∀ (i : Nat) v, cs[i]? = some v → ∃ v', c[s + i]? = some v' ∧ VRel μ v v') : ∃ l', cells.length = n * 4 ∧ VRels μ cells l' ∧ ∀ (j : Nat) v, l'[j]? = some v → c[s + o + j]? = some v := by
  simp only [firstC] at hfc
  split at hfc
  · rename_i h0; cases hfc; exact ⟨[], by rw [h0]; rfl, VRels.nil μ, fun j v hj => by simp at hj⟩
  · exact cells_real hrow hfc hcell
section
variable {n s blk S : Nat}
theorem or_cells {cs l' : List Value} {c : Array Value} {T : TypeId} (hn : ¬ μ.V n) (hS : c.size ≤ 4 * mxL) (hr : VRels μ cs l') (hc : ∀ (k : Nat) v, l'[k]? = some v → c[s + k]? = some v) : OR P (μ.add n (blk, s) (some (4, c.size))) n (.row cs true (some 4)) (.cells c T (0, 0)) := by
  refine ⟨c, T, (0, 0), rfl, fun _ => rfl, fun k v x => ?_, M.add_Zs hS⟩
  obtain ⟨v', h1, h2⟩ := hr.get x
  exact ⟨v', by simpa using hc k v' h1, h2.mono (M.le_add hn)⟩
theorem vrel_G {k c : Nat} (hM : S ≤ 4 * mxL) (hc : k ≤ c) (hS : s + c * 4 ≤ S) : VRel (μ.add n (blk, s) (some (4, S))) (.slice (some ⟨n, 0, none⟩) k k) (.slice (some ⟨blk, s, none⟩) k c) := by
  have := VRel.sl (μ := μ.add n (blk, s) (some (4, S))) n 0 k k s c M.add_V (Nat.le_refl _) hc (fun _ => by simp) (fun z S' hz => by have hz := M.add_Zi hz; simp at hz; obtain ⟨rfl, rfl⟩ := hz; omega) (fun hz => by rw [M.add_Zs hM] at hz; cases hz)
  simpa using this
end
theorem grown_killG {b n m G : Nat} {old new old' new' csb : List Value} {T : TypeId} (hw : WR P μ h w) (hV : μ.V b) {gb : Option Nat} (hrb : h[b]? = some (.row csb true gb)) (hnl : new'.length = m * 4) (hG : n + m ≤ G) (hG2 : G ≤ mxL) (hol : old'.length = n * 4) (ho : VRels μ old old') (hn : VRels μ new new') :
    Res P μ h w (.slice (some ⟨h.length, 0, none⟩) (n + m) (n + m)) ((Eff.kill b (.row (old ++ new) true (some 4))).on h) (.returned (.slice (some ⟨w.heap.size, 0, none⟩) (n + m) G)) (w.drew.alloc (.cells ((old' ++ new').toArray ++ Builtin.zeroCells gz.cells (G - (n + m))) T)) := by
  have hsz : ((old' ++ new').toArray ++ Builtin.zeroCells gz.cells (G - (n + m))).size = G * 4 := by
    rw [Array.size_append, gz_size]; simp [hnl, hol]; omega
  refine res_killN (o' := .cells ((old' ++ new').toArray ++ Builtin.zeroCells gz.cells (G - (n + m))) T (0, 0)) (z := some (4, _)) hw hV hrb ⟨rfl, rfl, rfl⟩ rfl (or_cells (fun hV => Nat.lt_irrefl _ (hw.lt _ hV)) (by rw [hsz]; omega) (ho.append hn) fun k v hk => ?_) (by rw [hsz]; exact vrel_G (by omega) hG (by omega))
  rw [Nat.zero_add, Array.getElem?_append_left (by simpa using (List.getElem?_eq_some_iff.1 hk).1)]
  simpa using hk
/-- Where slices.Insert lies, and that it is Go's own. -/
def InsOk (P : Program) : Prop := (∀ f, insF = some f → ∃ ρ, Lays2.n21 P ρ ∧ ρ.f 21 = f) ∧ ∀ f, insGF = some f → ∃ ρ, InsG P ρ ∧ ρ.f 22 = f
theorem insG_sim {ρ : Go.Shelf.Ren} (L : InsG P ρ) {args : List Value} {v : Value} {e : Eff} (hk : kinsG args h = some (v, e)) (hw : WR P μ h w) {args' : Array Value} (hv : VRels μ args args'.toList) : Calls P (ρ.f 22) args' w (Res P μ h w v (e.on h)) := by
  have hnV : ¬ μ.V h.length := fun hV => Nat.lt_irrefl _ (hw.lt _ hV)
  unfold kinsG at hk
  split at hk
  · rename_i base n c i x m xc
    split at hk
    · rename_i hc
      obtain ⟨rfl, hm, hi0, hin, hroom⟩ := hc
      have hroomB : roomB = 1099511627776 := rfl
      rw [hroomB] at hroom
      split at hk
      · rename_i old new ho hn
        split at hk
        · rename_i hall
          obtain ⟨hao, han⟩ := hall
          obtain ⟨a0, a1, a2, rfl, r0, r1, r2⟩ := args3 hv
          obtain ⟨k, rfl⟩ : ∃ k : Nat, i = k := ⟨i.toNat, by omega⟩
          rw [vrel_int r1]
          have hkn : k ≤ c := by omega
          simp only [Int.toNat_natCast] at hk
          rcases vrel_slice r2 with ⟨hh, _⟩ | ⟨_, _, _, hh, _⟩ | ⟨y, xo, xc', hy, hsp, hVx, hxn, hxc, hxo, _, _, rfl⟩
          · cases hh
          · omega
          cases hy
          obtain ⟨xb, xo0, xs⟩ := x
          simp only at hsp hVx hxo; subst hsp
          have hxo := hxo (by omega)
          subst hxo
          simp only [firstC, if_neg (show ¬ m * 4 = 0 by omega)] at hn
          obtain ⟨csx, wrx, grx, hrx⟩ : ∃ cs wr gr, h[xb]? = some (.row cs wr gr) := by
            unfold rowGet at hn
            split at hn
            · exact ⟨_, _, _, by assumption⟩
            · cases hn
          obtain ⟨obx, hox, cx, Tx, fzx, rfl, hfzx, hcx, _⟩ := hw.ob xb _ hVx hrx
          obtain ⟨new', hnl0, hnr, hnc⟩ := cells_real hrx hn hcx
          have hnl : new'.length = m * 4 := by rw [← hnr.1, hnl0]
          have hvs : ∀ (j : Nat) v, new'[j]? = some v → w.cell? ⟨(μ.f xb).1, (μ.f xb).2 + xo0 + j, none⟩ = some v := fun j v hj => by rw [cell_at hox]; exact hnc j v hj
          have h1v : ∀ v ∈ new', v.oneCell' = true := one_rel hnr han
          cases base with
          | none =>
            simp only [firstC] at ho
            split at ho
            · rename_i h0; subst h0
              cases ho
              dsimp only at hk
              cases hk
              rcases vrel_slice r0 with ⟨_, _, _, rfl⟩ | ⟨_, _, hh, _⟩ | ⟨_, _, _, hh, _⟩
              · obtain rfl : k = 0 := by omega
                have hG := grownCap_ge w (0 + m) 0 (ρ.t 9)
                have hG2 := grownCap_le_maxLen w (0 + m) 0 (ρ.t 9) (by simp only [Go.maxLen, maxLen]; omega)
                refine (insG_end_grow L none 0 0 _ _ m xc' [] new' w hm (Nat.le_refl _) (by omega) (by omega) rfl hnl (fun _ => rfl) (fun a ha => by cases ha) hvs h1v).mono ?_
                rintro e' w' ⟨rfl, rfl⟩
                generalize grownCap w (0 + m) 0 (ρ.t 9) = G at hG hG2 ⊢
                have hsz : (([] ++ new').toArray ++ Builtin.zeroCells gz.cells (G - (0 + m))).size = G * 4 := by
                  rw [Array.size_append, gz_size]; simp [hnl]; omega
                have hG2' : G ≤ mxL := hG2
                refine res_new (o' := .cells (([] ++ new').toArray ++ Builtin.zeroCells gz.cells (G - (0 + m))) (ρ.t 9) (0, 0)) (z := some (4, _)) hw ⟨rfl, rfl, rfl⟩ rfl (or_cells (l' := new') hnV (by rw [hsz]; omega) (by simpa using hnr) fun k v hk => ?_) (by rw [hsz]; exact vrel_G (by omega) hG (by omega))
                simp only [List.nil_append] at hk ⊢
                rw [Nat.zero_add, Array.getElem?_append_left (by simpa using (List.getElem?_eq_some_iff.1 hk).1)]
                simpa using hk
              · cases hh
              · cases hh
            · cases ho
          | some a =>
            dsimp only at hk
            split at hk
            · rename_i csb gb csx2 hrb hrx2
              split at hk
              case isFalse => cases hk
              rename_i hgb
              obtain ⟨hgb, hbx⟩ := hgb
              cases hk
              rcases vrel_slice r0 with ⟨hh, _⟩ | ⟨y, y', hy, hc0, _, rfl⟩ | ⟨y, O, C, hy, hsp, hVb, _, hcC, hO, hS, hS0, rfl⟩
              · cases hh
              · cases hy
                have hVb : μ.V a.block := (vrel_dd r0).resolve_right fun hh => by rw [hh, hw.dd] at hrb; cases hrb
                subst hc0
                obtain rfl : k = 0 := by omega
                have hold : old = [] := by simp [firstC] at ho; exact ho
                subst hold
                have hG := grownCap_ge w (0 + m) 0 (ρ.t 9)
                have hG2 := grownCap_le_maxLen w (0 + m) 0 (ρ.t 9) (by simp only [Go.maxLen, maxLen]; omega)
                refine (insG_end_grow L (some y') 0 0 _ _ m xc' [] new' w hm (Nat.le_refl _) (by omega) (by omega) rfl hnl (fun _ => rfl) (fun a ha j v hj => by simp at hj) hvs h1v).mono ?_
                rintro e' w' ⟨rfl, rfl⟩
                have := grown_killG (old := []) (old' := []) (T := ρ.t 9) hw hVb hrb hnl (n := 0) (G := grownCap w (0 + m) 0 (ρ.t 9)) hG hG2 rfl (VRels.nil μ) hnr
                simpa using this
              · cases hy
                obtain ⟨b, o, sp⟩ := a
                simp only at hsp hVb hO hS hS0 hrb hbx; subst hsp
                obtain ⟨ob', hob, cb, Tb, fzb, rfl, hfzb, hcb, hZb⟩ := hw.ob b _ hVb hrb
                obtain rfl := hfzb rfl
                have hS9 : c + m ≤ C → O + C * 4 ≤ cb.size ∧ cb.size ≤ 4 * mxL := fun hr => by
                  rcases hgb with rfl | rfl
                  · have := (‹μ.Z b = none → C = c ∧ O = (μ.f b).2 + o› (by simpa using hZb)).1
                    omega
                  · exact ⟨hS 4 cb.size (by simpa using hZb), μ.hZ b 4 cb.size (by simpa using hZb)⟩
                obtain ⟨old', hol0, hor, hoc⟩ := first_realG ho hrb hcb
                have hol : old'.length = c * 4 := by rw [← hor.1, hol0]
                have h1c : ∀ v ∈ old', v.oneCell' = true := one_rel hor hao
                have hres : VRels μ (old.take (k * 4) ++ new ++ old.drop (k * 4)) (old'.take (k * 4) ++ new' ++ old'.drop (k * 4)) := ((hor.take _).append hnr).append (hor.drop _)
                have hoc' : ∀ (j : Nat) v, old'[j]? = some v → cb[O + j]? = some v := fun j v hj => by
                  have := (List.getElem?_eq_some_iff.1 hj).1
                  rw [hO (by omega)]; exact hoc j v hj
                have hcs : ∀ (j : Nat) v, old'[j]? = some v → w.cell? ⟨(μ.f b).1, O + j, none⟩ = some v := fun j v hj => by rw [cell_at hob]; exact hoc' j v hj
                have hmx : mxL = 140737488355328 ∨ mxL ≤ 9223372036854775807 := .inr (by decide)
                by_cases hroom2 : c + m ≤ C
                · obtain ⟨hS, hSm⟩ := hS9 hroom2
                  have hne : (μ.f xb).1 ≠ (μ.f b).1 := fun hh => hbx (hw.inj xb b _ _ hVx hVb hrx2 hrb rfl rfl hh).symm
                  have hsome : ∀ j, j < C * 4 → (w.cell? ⟨(μ.f b).1, O + j, none⟩).isSome = true := fun j hj => by
                    rw [cell_at hob, Array.getElem?_eq_getElem (by omega)]; rfl
                  by_cases hkc : k < c
                  · obtain rfl : wrx = true := by rw [hrx] at hrx2; cases hrx2; rfl
                    obtain rfl := hfzx rfl
                    refine (insG_shift L (μ.f b).1 O c C k _ _ m xc' old' new' w hkc hm hroom2 (by omega) hne hol hnl hcs (fun j hj => hsome j (by omega)) (fun j hj => froz_at hob) hvs h1c h1v _ _ _ _ (shape_at hox) (shape_at hob) (by omega) (froz_at hox) (froz_at hox)).mono ?_
                    rintro e' w' ⟨rfl, rfl⟩
                    obtain ⟨c1, e1, e2, e3, e4⟩ := setCells_real (old'.drop (k * 4)) (O + (k + m) * 4) w.drew cb hob (by simp [hol]; omega)
                    obtain ⟨c2, f1, f2, f3, f4⟩ := setCells_real new' (O + k * 4) (w.drew.setCells (μ.f b).1 (O + (k + m) * 4) (old'.drop (k * 4))) c1 (by rw [e1]; exact Array.getElem?_setIfInBounds_self_of_lt (hw.bd b hVb)) (by omega)
                    refine res_killI (o' := .cells c2 Tb (0, 0)) (s := O) (z := some (4, c2.size)) hw hVb hrb ⟨f4.os.trans e4.os, f4.tape.trans e4.tape, f4.output.trans e4.output⟩ ?_ (or_cells hnV (by omega) hres fun j v hj => ?_) (vrel_G (by omega) hroom2 (by omega))
                    · rw [f1, e1, Array.setIfInBounds_setIfInBounds]; rfl
                    · rw [ins_get (by omega)] at hj
                      rw [f3, e3]
                      by_cases h1 : j < k * 4
                      · rw [if_pos h1] at hj
                        rw [if_neg (by omega), if_neg (by omega)]; exact hoc' j v hj
                      · rw [if_neg h1] at hj
                        by_cases h2 : j < k * 4 + new'.length
                        · rw [if_pos h2] at hj
                          rw [if_pos (by omega), show O + j - (O + k * 4) = j - k * 4 by omega]; exact hj
                        · rw [if_neg h2] at hj
                          have := (List.getElem?_eq_some_iff.1 hj).1
                          rw [if_neg (by omega), if_pos (by simp; omega), List.getElem?_drop, show k * 4 + (O + j - (O + (k + m) * 4)) = j - new'.length by omega]; exact hj
                  · obtain rfl : k = c := by omega
                    refine (insG_end_room L (μ.f b).1 O k C _ _ m xc' new' w hm hroom2 (by omega) hnl (fun j hj => by rw [Nat.add_assoc]; exact hsome _ (by omega)) (fun j hj => froz_at hob) hvs h1v).mono ?_
                    rintro e' w' ⟨rfl, rfl⟩
                    obtain ⟨c2, f1, f2, f3, f4⟩ := setCells_real new' (O + k * 4) w cb hob (by omega)
                    refine res_killI (o' := .cells c2 Tb (0, 0)) (s := O) (z := some (4, c2.size)) hw hVb hrb f4 f1 (or_cells hnV (by omega) hres fun j v hj => ?_) (vrel_G (by omega) hroom2 (by omega))
                    rw [ins_get (by omega)] at hj
                    rw [f3]
                    by_cases h1 : j < k * 4
                    · rw [if_pos h1] at hj
                      rw [if_neg (by omega)]; exact hoc' j v hj
                    · rw [if_neg h1] at hj
                      by_cases h2 : j < k * 4 + new'.length
                      · rw [if_pos h2] at hj
                        rw [if_pos (by omega), show O + j - (O + k * 4) = j - k * 4 by omega]; exact hj
                      · rw [if_neg h2] at hj
                        have := (List.getElem?_eq_some_iff.1 hj).1
                        omega
                · have hG := grownCap_ge w (c + m) C (ρ.t 9)
                  have hG2 := grownCap_le_maxLen w (c + m) C (ρ.t 9) (by simp only [Go.maxLen, maxLen]; omega)
                  by_cases hkc : k < c
                  · refine (insG_grow L (μ.f b).1 O c C k _ _ m xc' old' new' w hkc hm hcC (by omega) (by omega) hol hnl hcs hvs h1c h1v).mono ?_
                    rintro e' w' ⟨rfl, rfl⟩
                    generalize hGG : grownCap w (c + m) C (ρ.t 9) = G at hG hG2 ⊢
                    have hG2' : G ≤ mxL := hG2
                    generalize hA : (old'.take (k * 4)).toArray ++ Builtin.zeroCells gz.cells (c + m - k) ++ Builtin.zeroCells gz.cells (G - (c + m)) = A
                    have hAs : A.size = G * 4 := by rw [← hA, Array.size_append, Array.size_append, gz_size, gz_size]; simp; omega
                    have hAk : ∀ (j : Nat), j < k * 4 → A[j]? = old'[j]? := fun j hj => by
                      rw [← hA, Array.getElem?_append_left (by rw [Array.size_append, gz_size]; simp; omega), Array.getElem?_append_left (by simp; omega)]
                      simp [List.getElem?_take_of_lt hj]
                    have hp : (w.heap.push (.cells A (ρ.t 9)))[w.heap.size]? = some (.cells A (ρ.t 9) (0, 0)) := by simp
                    obtain ⟨c1, e1, e2, e3, e4⟩ := setCells_real (b := w.heap.size) new' (k * 4) (w.alloc (.cells A (ρ.t 9))).drew A hp (by omega)
                    obtain ⟨c2, f1, f2, f3, f4⟩ := setCells_real (b := w.heap.size) (old'.drop (k * 4)) ((k + m) * 4) ((w.alloc (.cells A (ρ.t 9))).drew.setCells w.heap.size (k * 4) new').drew c1 (by show (World.setCells _ _ _ _).heap[_]? = _; rw [e1]; exact Array.getElem?_setIfInBounds_self_of_lt (by show _ < (w.heap.push _).size; simp)) (by simp [hol]; omega)
                    refine res_killN (o' := .cells c2 (ρ.t 9) (0, 0)) (z := some (4, c2.size)) hw hVb hrb ⟨f4.os.trans e4.os, f4.tape.trans e4.tape, f4.output.trans e4.output⟩ ?_ (or_cells hnV (by rw [f2, e2, hAs]; omega) hres fun j v hj => ?_) (vrel_G (by rw [f2, e2, hAs]; omega) hG (by omega))
                    · rw [f1]
                      show (World.setCells _ _ _ _).heap.setIfInBounds _ _ = _
                      rw [e1, Array.setIfInBounds_setIfInBounds]
                      show (w.heap.push _).setIfInBounds _ _ = _
                      apply Array.ext_getElem?
                      intro i
                      rw [Array.getElem?_setIfInBounds, Array.getElem?_push, Array.getElem?_push]
                      by_cases hi : w.heap.size = i
                      · subst hi; simp
                      · rw [if_neg hi, if_neg (fun hh => hi hh.symm), if_neg (fun hh => hi hh.symm)]
                    · rw [ins_get (by omega)] at hj
                      rw [Nat.zero_add, f3, e3]
                      by_cases h1 : j < k * 4
                      · rw [if_pos h1] at hj
                        rw [if_neg (by omega), if_neg (by omega), hAk j h1]; exact hj
                      · rw [if_neg h1] at hj
                        by_cases h2 : j < k * 4 + new'.length
                        · rw [if_pos h2] at hj
                          rw [if_neg (by omega), if_pos (by omega)]; exact hj
                        · rw [if_neg h2] at hj
                          have := (List.getElem?_eq_some_iff.1 hj).1
                          rw [if_pos (by simp; omega), List.getElem?_drop, show k * 4 + (j - (k + m) * 4) = j - new'.length by omega]; exact hj
                  · obtain rfl : k = c := by omega
                    refine (insG_end_grow L (some ⟨(μ.f b).1, O, none⟩) k C _ _ m xc' old' new' w hm hcC (by omega) (by omega) hol hnl (fun hh => by cases hh) (fun a ha j v hj => by cases ha; rw [Addr.add_lit]; exact hcs j v hj) hvs h1v).mono ?_
                    rintro e' w' ⟨rfl, rfl⟩
                    have := grown_killG (T := ρ.t 9) hw hVb hrb hnl (n := k) (G := grownCap w (k + m) C (ρ.t 9)) hG hG2 hol hor hnr
                    rwa [List.take_of_length_le (by omega), List.drop_of_length_le (by omega), List.append_nil]
            · cases hk
        · cases hk
      · cases hk
    · cases hk
  · cases hk
end Go.Canon
namespace Go.Canon
set_option linter.unusedVariables false
set_option linter.unusedSimpArgs false
open Go
open Classical
variable {P : Program} {w w' : World} {μ μ' : M} {fr : Nat → Value} {h h' : Heap} {n : Nat}
theorem cC_inv {nt : Nat} {C : Code} {c : KC} (hc : cC P nt C = some c) :
    (∃ (hh : C = .skip ∨ ∃ l, C = .label l), c = .skip) ∨ (∃ id ops d ks prs, C = .region id ops d ∧ c = .reg ks prs) ∨ (∃ A B x y, C = .seq A B ∧ c = .seq x y ∧ cC P nt A = some x ∧ cC P nt B = some y) ∨
    (∃ f A B k x y, C = .cond f A B ∧ c = .cond k x y ∧ cO f = some k ∧ cC P nt A = some x ∧ cC P nt B = some y) ∨ (∃ id A x, C = .block id A ∧ c = .block id x ∧ cC P nt A = some x) ∨ (∃ A x, C = .loop A ∧ c = .loop x ∧ cC P nt A = some x) ∨
    (∃ A x, C = .scope A ∧ c = .seq .skip x ∧ cC P nt A = some x) ∨ (∃ f ps A B k x y, C = .rangeFunc f ps A B ∧ c = .rf k ps.toList x y ∧ cO f = some k ∧ cC P nt A = some x ∧ cC P nt B = some y ∧ ∀ p ∈ ps.toList, p < nt) ∨
    (∃ id, C = .exit id ∧ c = .exit id) ∨ (C = .ret ∧ c = .ret) := by
  cases C with
  | skip => simp only [cC] at hc; cases hc; exact .inl ⟨.inl rfl, rfl⟩
  | label l => simp only [cC] at hc; cases hc; exact .inl ⟨.inr ⟨l, rfl⟩, rfl⟩
  | region id ops d =>
    refine .inr (.inl ?_)
    simp only [cC] at hc
    split at hc
    · split at hc
      · cases hc; exact ⟨id, ops, d, _, _, rfl, rfl⟩
      · cases hc
    · cases hc
  | seq A B =>
    refine .inr (.inr (.inl ?_))
    simp only [cC] at hc
    split at hc
    · rename_i x y hA hB; cases hc; exact ⟨A, B, x, y, rfl, rfl, hA, hB⟩
    · cases hc
  | cond f A B =>
    refine .inr (.inr (.inr (.inl ?_)))
    simp only [cC] at hc
    split at hc
    · rename_i k x y hf hA hB; cases hc; exact ⟨f, A, B, k, x, y, rfl, rfl, hf, hA, hB⟩
    · cases hc
  | block id A =>
    refine .inr (.inr (.inr (.inr (.inl ?_))))
    simp only [cC, Option.map_eq_some_iff] at hc
    obtain ⟨x, hA, rfl⟩ := hc
    exact ⟨id, A, x, rfl, rfl, hA⟩
  | loop A =>
    refine .inr (.inr (.inr (.inr (.inr (.inl ?_)))))
    simp only [cC, Option.map_eq_some_iff] at hc
    obtain ⟨x, hA, rfl⟩ := hc
    exact ⟨A, x, rfl, rfl, hA⟩
  | scope A =>
    refine .inr (.inr (.inr (.inr (.inr (.inr (.inl ?_))))))
    simp only [cC, Option.map_eq_some_iff] at hc
    obtain ⟨x, hA, rfl⟩ := hc
    exact ⟨A, x, rfl, rfl, hA⟩
  | rangeFunc f ps A B =>
    refine .inr (.inr (.inr (.inr (.inr (.inr (.inr (.inl ?_)))))))
    simp only [cC] at hc
    split at hc
    · rename_i k x y hf hA hB
      split at hc
      · rename_i hp
        cases hc
        exact ⟨f, ps, A, B, k, x, y, rfl, rfl, hf, hA, hB, fun p hpm => by simpa using List.all_eq_true.1 hp p hpm⟩
      · cases hc
    · cases hc
  | exit id => simp only [cC] at hc; cases hc; exact .inr (.inr (.inr (.inr (.inr (.inr (.inr (.inr (.inl ⟨id, rfl, rfl⟩))))))))
  | ret => simp only [cC] at hc; cases hc; exact .inr (.inr (.inr (.inr (.inr (.inr (.inr (.inr (.inr ⟨rfl, rfl⟩))))))))
  | goto l => simp [cC] at hc
  | refuse s => simp [cC] at hc
theorem code_step (hm : P.follows .mixedOrders = true) (hIH : ∀ q, q < n + 1 → OKCall P q ∧ OKRound P q ∧ OKCode P q) : OKCode P (n + 1) := by
  intro fi c s e s' hk C μ w a N Q hc hs next
  have hIH2 : ∀ q, q < n → OKCall P q ∧ OKRound P q := fun q hq => ⟨(hIH q (by omega)).1, (hIH q (by omega)).2.1⟩
  have hn := hIH n (by omega)
  rcases cC_inv hc with ⟨hC, rfl⟩ | ⟨id, ops, d, ks, prs, rfl, rfl⟩ | ⟨A, B, x, y, rfl, rfl, hA, hB⟩ | ⟨f, A, B, k, x, y, rfl, rfl, hf, hA, hB⟩ | ⟨id, A, x, rfl, rfl, hA⟩ | ⟨A, x, rfl, rfl, hA⟩ | ⟨A, x, rfl, rfl, hA⟩ | ⟨f, ps, A, B, k, x, y, rfl, rfl, hf, hA, hB, hp⟩ | ⟨id, rfl, rfl⟩ | ⟨rfl, rfl⟩
  · simp only [kcode, Option.some.injEq, Prod.mk.injEq] at hk
    obtain ⟨rfl, rfl⟩ := hk
    rcases hC with rfl | ⟨l, rfl⟩
    · exact wpIn_skip (next μ w a (.refl _ _ _) hs)
    · exact wpIn_label (next μ w a (.refl _ _ _) hs)
  · unfold kcode at hk
    dsimp only at hk
    split at hk
    · rename_i s1 hk1
      simp only [Option.some.injEq, Prod.mk.injEq] at hk
      obtain ⟨rfl, rfl⟩ := hk
      exact region_sound hm FF_is hc hIH2 hk1 hs next
    · cases hk
  · unfold kcode at hk
    dsimp only at hk
    refine wpIn_seq ?_
    cases hka : kcode (tab P) n fi x s with
    | none => rw [hka] at hk; cases hk
    | some r =>
      obtain ⟨e1, s1⟩ := r
      rw [hka] at hk
      refine hn.2.2 fi x s e1 s1 hka A μ w a N _ hA hs fun μ' w' a' h1 h2 => ?_
      cases e1 with
      | normal =>
        simp only [exE, Exit.then]
        rw [← FF_le h1.le hs.rl]
        exact hn.2.2 fi y s1 e s' hk B μ' w' a' N _ hB h2 fun μ'' w'' a'' g1 g2 => next μ'' w'' a'' (h1.trans hs.wr.lt g1) g2
      | exit id =>
        simp only [Option.some.injEq, Prod.mk.injEq] at hk
        obtain ⟨rfl, rfl⟩ := hk
        exact next μ' w' a' h1 h2
      | ret =>
        simp only [Option.some.injEq, Prod.mk.injEq] at hk
        obtain ⟨rfl, rfl⟩ := hk
        exact next μ' w' a' h1 h2
  · unfold kcode at hk
    dsimp only at hk
    split at hk
    · rename_i t ht
      have hfv := frel_operand hs.wr.gl hs.fr hf
      rw [ht] at hfv
      refine wpIn_cond (t := t) (vrel_bool hfv) ?_
      cases t
      · exact hn.2.2 fi y s e s' hk B μ w a N _ hB hs next
      · exact hn.2.2 fi x s e s' hk A μ w a N _ hA hs next
    · cases hk
  · unfold kcode at hk
    dsimp only at hk
    refine wpIn_block ?_
    cases hka : kcode (tab P) n fi x s with
    | none => rw [hka] at hk; cases hk
    | some r =>
      obtain ⟨e1, s1⟩ := r
      rw [hka] at hk
      refine hn.2.2 fi x s e1 s1 hka A μ w a N _ hA hs fun μ' w' a' h1 h2 => ?_
      cases e1 with
      | exit id' =>
        simp only [exE, Exit.inBlock]
        dsimp only at hk
        split at hk
        · rename_i hid
          simp only [Option.some.injEq, Prod.mk.injEq] at hk
          obtain ⟨rfl, rfl⟩ := hk
          rw [if_pos hid]; exact next μ' w' a' h1 h2
        · rename_i hid
          simp only [Option.some.injEq, Prod.mk.injEq] at hk
          obtain ⟨rfl, rfl⟩ := hk
          rw [if_neg hid]; exact next μ' w' a' h1 h2
      | normal =>
        simp only [Option.some.injEq, Prod.mk.injEq] at hk
        obtain ⟨rfl, rfl⟩ := hk
        exact next μ' w' a' h1 h2
      | ret =>
        simp only [Option.some.injEq, Prod.mk.injEq] at hk
        obtain ⟨rfl, rfl⟩ := hk
        exact next μ' w' a' h1 h2
  · refine wpIn_loop_n (fun q a' w' => q ≤ n + 1 ∧ ∃ μ' s1, Stp μ s.h w μ' s1.h w' ∧ SR P μ' fi s1 w' a' ∧ kcode (tab P) q fi (.loop x) s1 = some (e, s')) (n0 := n + 1) ⟨Nat.le_refl _, μ, s, .refl _ _ _, hs, hk⟩ ?_
    rintro q a1 w1 ⟨hq, μ1, s1, hst1, hs1, hk1⟩
    cases q with
    | zero => simp [kcode] at hk1
    | succ q =>
      unfold kcode at hk1
      dsimp only at hk1
      cases hka : kcode (tab P) q fi x s1 with
      | none => rw [hka] at hk1; cases hk1
      | some r =>
        obtain ⟨e2, s2⟩ := r
        rw [hka] at hk1
        rw [← FF_le hst1.le hs.rl]
        refine (hIH q (by omega)).2.2 fi x s1 e2 s2 hka A μ1 w1 a1 N _ hA hs1 fun μ' w' a' g1 g2 => ?_
        cases e2 with
        | normal => exact ⟨q, by omega, by omega, μ', s2, hst1.trans hs.wr.lt g1, g2, hk1⟩
        | exit id =>
          simp only [Option.some.injEq, Prod.mk.injEq] at hk1
          obtain ⟨rfl, rfl⟩ := hk1
          exact next μ' w' a' (hst1.trans hs.wr.lt g1) g2
        | ret =>
          simp only [Option.some.injEq, Prod.mk.injEq] at hk1
          obtain ⟨rfl, rfl⟩ := hk1
          exact next μ' w' a' (hst1.trans hs.wr.lt g1) g2
  · unfold kcode at hk
    dsimp only at hk
    refine wpIn_scope_s ?_
    cases hka : kcode (tab P) n fi .skip s with
    | none => rw [hka] at hk; cases hk
    | some r =>
      obtain ⟨e1, s1⟩ := r
      cases n with
      | zero => simp [kcode] at hka
      | succ n =>
        simp only [kcode, Option.some.injEq, Prod.mk.injEq] at hka
        obtain ⟨rfl, rfl⟩ := hka
        simp only [kcode] at hk
        refine hn.2.2 fi x s e s' hk A μ w a N _ hA hs fun μ' w' a' h1 h2 => ⟨fun l => ?_, next μ' w' a' h1 h2⟩
        cases e <;> simp [exE]
  · exact rf_sound hn.1 hk hf hA hB hp hs next
  · simp only [kcode, Option.some.injEq, Prod.mk.injEq] at hk
    obtain ⟨rfl, rfl⟩ := hk
    exact wpIn_exit (next μ w a (.refl _ _ _) hs)
  · simp only [kcode, Option.some.injEq, Prod.mk.injEq] at hk
    obtain ⟨rfl, rfl⟩ := hk
    exact wpIn_ret (next μ w a (.refl _ _ _) hs)
theorem call_step (hI : InsOk P) (hIH : ∀ q, q < n + 1 → OKCall P q ∧ OKRound P q ∧ OKCode P q) : OKCall P (n + 1) := by
  intro f args h v h' hk μ w args' N hw hv
  have hn := hIH n (by omega)
  unfold kcall at hk
  split at hk
  · rename_i k hT
    split at hk
    · rename_i hi
      split at hk
      · rename_i v1 e1 hki
        cases hk
        rcases (tab_ins hT hi).1 with ⟨hf, rfl⟩ | ⟨hf, rfl⟩
        · exact callsIn_wide.2 (ins_sim hI.1 hf hki hw hv)
        · obtain ⟨ρ, L, rfl⟩ := hI.2 _ hf
          exact callsIn_wide.2 (insG_sim L hki hw hv)
      · cases hk
    rename_i hi
    obtain ⟨fn, c, hf, hb, hcb, hres, hnt, hnp, _⟩ := tab_inv hT hi
    split at hk
    · rename_i hlen
      have hs0 : SR P μ ⟨f, k.nt, none⟩ ⟨frOf args, h, []⟩ w { tmps := args' ++ Array.replicate (fn.ntmps - args'.size) undef, defers := [] } :=
        ⟨hw, by rw [hnt]; exact frel_enter hlen hnp hv, rfl, List.nodup_nil, fun _ h => by simp at h, fun _ h => by cases h⟩
      refine callsIn_of_wp_marks hf hb trivial ?_
      have hend : ∀ (s : St), (∃ e, kcode (tab P) n ⟨f, k.nt, none⟩ k.body ⟨frOf args, h, []⟩ = some (e, s) ∧ (e = .normal ∨ e = .ret)) → (match resultsK s.h s.fr k.res with
          | some v => if ∀ m ∈ s.mks, s.h[m]? = some .mark then some (v, forget h v (s.mks.foldl (fun h m => h.set m .gone) s.h)) else none
          | none => none) = some (v, h') → c.wpIn Fence.wide N P (bodyPostM Fence.wide N P fn (Res P μ h w v h')) { tmps := args' ++ Array.replicate (fn.ntmps - args'.size) undef, defers := [] } w := by
        rintro s ⟨e, hkb, he⟩ hk
        split at hk
        · rename_i v1 hv1
          split at hk
          · rename_i hmk
            simp only [Option.some.injEq, Prod.mk.injEq] at hk
            obtain ⟨rfl, rfl⟩ := hk
            refine hn.2.2 ⟨f, k.nt, none⟩ k.body ⟨frOf args, h, []⟩ e s hkb c μ w _ N _ (by rw [hnt]; exact hcb) hs0 fun μ' w' a' h1 h2 => ?_
            have hleave : LeavesInM Fence.wide N P fn a'.tmps (Res P μ h w v1 (forget h v1 (s.mks.foldl (fun h m => h.set m .gone) s.h))) a'.defers .returning w' := by
              rw [h2.de]
              refine leaves hres s.mks s.h w' h2.nd h2.mV hmk h2.wr h2.fr (results_closed hmk hv1) fun w'' v'' g1 g2 g3 => ?_
              have hst := h1.trans hw.lt g1
              show Res P μ h w v1 (forget h v1 (closed s.h s.mks)) (.returned v'') w''
              unfold forget
              split
              · rename_i hfg
                obtain ⟨b1, b2⟩ := wr_back hw g2 hst hfg.2
                have : v'' = v1 ∨ True := .inr trivial
                refine ⟨v'', μ, rfl, b2, b1, ?_⟩
                exact (vrel_flat2 (μ := μ) hfg.1).back hst.le (fun b hb hV => ((hst.V b).1 hV).resolve_right (by omega)) (List.getElem?_eq_some_iff.1 hw.dd).1 g3
              · exact ⟨v'', μ', rfl, hst, g2, g3⟩
            rcases he with rfl | rfl
            · exact hleave
            · exact hleave
          · cases hk
        · cases hk
      split at hk
      · rename_i s hs; exact hend s ⟨_, hs, .inl rfl⟩ hk
      · rename_i s hs; exact hend s ⟨_, hs, .inr rfl⟩ hk
      · cases hk
    · cases hk
  · cases hk
theorem round_step (hIH : ∀ q, q < n + 1 → OKCall P q ∧ OKRound P q ∧ OKCode P q) : OKRound P (n + 1) := by
  intro l args h v h' hk μ w args' N hw hVl hv
  have hn := hIH n (by omega)
  unfold kround at hk
  split at hk
  · rename_i r hr
    split at hk
    · rename_i hcond
      obtain ⟨hlen, hst, hrd⟩ := hcond
      obtain ⟨o', ho', hor⟩ := hw.ob l _ hVl hr
      obtain ⟨fn, tmps, A, B, rfl, hfr, hA, hB, hp, hrd', hs0, hVb, hz⟩ := hor
      refine ⟨_, ho', by have := hv.1; simp at this ⊢; omega, ?_⟩
      have hFr : Fence.wide.inRound (μ.f l).1 = FF μ r.fi := by unfold FF; rw [hrd]
      have hfold : ((r.params.toArray.zip args').foldl (fun tmps (x : Tmp × Value) => tmps.setIfInBounds x.1 x.2) tmps) = ((r.params.zip args'.toList).foldl (fun tmps (p : Nat × Value) => tmps.setIfInBounds p.1 p.2) tmps) := by
        rw [← Array.foldl_toList, Array.toList_zip]
      have hsr0 : SR P μ r.fi ⟨putAll r.fr r.params args, h, []⟩ w { tmps := (r.params.toArray.zip args').foldl (fun tmps (x : Tmp × Value) => tmps.setIfInBounds x.1 x.2) tmps, defers := [] } := by
        refine ⟨hw, ?_, rfl, List.nodup_nil, fun _ h => by simp at h, fun l' hl' => by rw [hrd] at hl'; cases hl'; exact hVl⟩
        rw [hfold]
        exact frel_putAll r.params args r.fr tmps args'.toList hp hfr hv
      split at hk
      · rename_i s1 hk1
        split at hk
        · rename_i r1 hr1 hmks1
          split at hk
          · rename_i hready
            split at hk
            · rename_i e s2 hk2
              split at hk
              · rename_i r2 hr2 hmks2
                refine roundIn_of_wpIn trivial ?_
                rw [hFr]
                refine hn.2.2 r.fi r.assign _ .normal s1 hk1 A μ w _ N _ hA hsr0 fun μ1 w1 a1 h1 h2 => ?_
                have hV1 := h1.le.V l hVl
                obtain ⟨o1, ho1, hor1⟩ := h2.wr.ob l _ hV1 hr1
                rw [h1.le.f l hVl] at ho1
                obtain ⟨fn1, tmps1, A1, B1, rfl, hfr1, hA1, hB1, hp1, hrd1, hs1, hVb1, hz1⟩ := hor1
                obtain ⟨hwB, hstB⟩ := wr_upd (o := .loop { r1 with st := .busy }) (o' := .loop { state := .busy, pending := r1.pending.map jmp, fn := fn1, tmps := tmps1, params := r1.params.toArray, assign := A1, body := B1, defers := (μ1.f r1.blk).1 }) h2.wr hV1 hr1 rfl
                  ⟨fn1, tmps1, A1, B1, rfl, hfr1, hA1, hB1, hp1, hrd1, hs1, hVb1, hz1⟩
                rw [h1.le.f l hVl] at hwB hstB
                refine ⟨_, run_beginRound ho1 hready, ?_⟩
                have hsB : SR P μ1 r.fi { s1 with h := s1.h.set l (.loop { r1 with st := .busy }) } _ a1 := ⟨hwB, h2.fr, h2.de, h2.nd, h2.mV, h2.rl⟩
                have hst1 := h1.trans hw.lt hstB
                rw [← FF_le h1.le hsr0.rl]
                refine hn.2.2 r.fi r.body _ e s2 hk2 B μ1 _ a1 N _ hB hsB fun μ2 w2 a2 g1 g2 => ?_
                have hst2 := hst1.trans hw.lt g1
                have hV2 := hst2.le.V l hVl
                obtain ⟨o2, ho2, hor2⟩ := g2.wr.ob l _ hV2 hr2
                rw [hst2.le.f l hVl] at ho2
                obtain ⟨fn2, tmps2, A2, B2, rfl, hfr2, hA2, hB2, hp2, hrd2, hs2, hVb2, hz2⟩ := hor2
                have fin : ∀ (j : Option KJump) (st : LoopState) (b : Bool), some (Value.bool b, s2.h.set l (.loop { r2 with st := st, pending := j })) = some (v, h') → st = (if (j.map jmp).isNone then LoopState.ready else .done) → b = (j.map jmp).isNone →
                    ∃ v' w', (Instr.endRound (μ.f l).1 (j.map jmp)).run P w2 = .ok v' w' ∧ Res P μ h w v h' (.returned v') w' := by
                  intro j st b hjk hst hb
                  simp only [Option.some.injEq, Prod.mk.injEq] at hjk
                  obtain ⟨rfl, rfl⟩ := hjk
                  obtain ⟨hwE, hstE⟩ := wr_upd (o := .loop { r2 with st := st, pending := j }) (o' := .loop { state := st, pending := j.map jmp, fn := fn2, tmps := tmps2, params := r2.params.toArray, assign := A2, body := B2, defers := (μ2.f r2.blk).1 }) g2.wr hV2 hr2 rfl
                    ⟨fn2, tmps2, A2, B2, rfl, hfr2, hA2, hB2, hp2, hrd2, hs2, hVb2, hz2⟩
                  rw [hst2.le.f l hVl] at hwE hstE
                  have hrun := run_endRound (P := P) (j.map jmp) ho2
                  rw [← hst] at hrun
                  exact ⟨_, _, hrun, _, μ2, rfl, hst2.trans hw.lt hstE, hwE, by rw [hb]; exact .flat _ rfl⟩
                cases e with
                | normal => exact fin none .ready true hk rfl rfl
                | ret => exact fin (some .ret) .done false hk rfl rfl
                | exit id => exact fin (some (.exit id)) .done false hk rfl rfl
              · cases hk
            · cases hk
          · cases hk
        · cases hk
      · cases hk
    · cases hk
  · cases hk
theorem all_sound (hI : InsOk P) (hm : P.follows .mixedOrders = true) : ∀ n, OKCall P n ∧ OKRound P n ∧ OKCode P n := by
  intro n
  induction n using Nat.strongRecOn with
  | _ n ih =>
    cases n with
    | zero => exact ⟨fun f args h v h' hk => by simp [kcall] at hk, fun f args h v h' hk => by simp [kround] at hk, fun fi c s e s' hk => by simp [kcode] at hk⟩
    | succ n => exact ⟨call_step hI ih, round_step ih, code_step hm ih⟩
/-- **THE LAW.** A call that the canonical machine reckons out. -/
theorem sound (hI : InsOk P) (hm : P.follows .mixedOrders = true) {f : Nat} {args : List Value} {args' : Array Value} {v : Value} (hr : Ret (tab P) f args h v h') (hw : WR P μ h w) (hv : VRels μ args args'.toList) : Calls P f args' w (Res P μ h w v h') :=
  let ⟨n, hk⟩ := hr
  callsIn_wide.1 ((all_sound hI hm n).1 f args h v h' hk μ w args' 0 hw hv)
#print axioms sound
end Go.Canon
namespace Go.Canon
set_option linter.unusedVariables false
set_option linter.unusedSimpArgs false
open Go
variable {P : Program} {w : World}
/-- A cell as the canonical machine is told of it: n blocks; the block n stands for all that has no room. -/
def canV (n : Nat) (v : Value) : Value :=
  match v with
  | .pointer (some ⟨b, o, none⟩) => if b < n then .pointer (some ⟨b, o, none⟩) else veil
  | .slice (some ⟨b, o, sp⟩) k c => if k = 0 ∧ c = 0 then .slice (some ⟨n, 0, none⟩) 0 0 else if sp = none ∧ b < n ∧ k ≤ c then .slice (some ⟨b, o, none⟩) k c else veil
  | v => if flat0 v then v else veil
/-- The same of an argument. -/
def canA (n : Nat) (v : Value) : Value :=
  match v with
  | .agg cs => .agg (cs.map (canV n))
  | v => canV n v
def canO (n : Nat) : Obj → CO
  | .cells c _ _ => .row (c.toList.map (canV n)) false none
  | _ => .other
/-- The objects of a world. -/
def h0 (w : World) : Heap := w.heap.toList.map (canO w.heap.size) ++ [.row [] false none]
def M.start (n : Nat) : M := { f := fun b => (b, 0), V := fun b => b < n, Z := fun _ => none, d := n, hZ := fun _ _ _ h => by cases h }
theorem canV_rel {n : Nat} {v : Value} : VRel (M.start n) (canV n v) v := by
  unfold canV
  split
  · rename_i b o
    split
    · rename_i hb
      have := VRel.ptr (μ := M.start n) b o hb
      simpa [M.start] using this
    · exact .veil _
  · rename_i b o sp k c
    split
    · rename_i h; obtain ⟨rfl, rfl⟩ := h
      exact .sl0 (μ := M.start n) _
    · split
      · rename_i h
        obtain ⟨rfl, hb, hk⟩ := h
        have := VRel.sl (μ := M.start n) b o k c o c hb hk (Nat.le_refl _) (fun _ => by simp [M.start]) (fun z S h => by simp [M.start] at h) (fun _ => by simp [M.start])
        simpa [M.start] using this
      · exact .veil _
  · split
    · rename_i h; exact .flat _ h
    · exact .veil _
theorem canA_rel {n : Nat} {v : Value} : VRel (M.start n) (canA n v) v := by
  unfold canA
  split
  · rename_i cs
    refine .agg _ _ (by simp) fun i v v' x y => ?_
    rw [Array.getElem?_map, y] at x
    simp only [Option.map_some, Option.some.injEq] at x
    subst x; exact canV_rel
  · exact canV_rel
theorem canA_rels {n : Nat} {args : List Value} : VRels (M.start n) (args.map (canA n)) args :=
  ⟨by simp, fun i v v' x y => by
    rw [List.getElem?_map, y] at x
    simp only [Option.map_some, Option.some.injEq] at x
    subst x; exact canA_rel⟩
theorem h0_len (w : World) : (h0 w).length = w.heap.size + 1 := by simp [h0]
theorem h0_get {w : World} {b : Nat} {o : Obj} (h : w.heap[b]? = some o) : (h0 w)[b]? = some (canO w.heap.size o) := by
  have hb := (Array.getElem?_eq_some_iff.1 h).1
  unfold h0
  rw [List.getElem?_append_left (by simpa using hb), List.getElem?_map, Array.getElem?_toList, h]; rfl
theorem h0_last (w : World) : (h0 w)[w.heap.size]? = some (.row [] false none) := by
  have : (w.heap.toList.map (canO w.heap.size)).length = w.heap.size := by simp
  unfold h0
  rw [List.getElem?_append_right (by omega), this, Nat.sub_self]; rfl
theorem start_wr (w : World) (hN : gN ≤ w.heap.size) : WR P (M.start w.heap.size) (h0 w) w where
  ob := fun b o hV ho => by
    obtain ⟨o', ho'⟩ := some_of_lt (w := w) (i := b) hV
    rw [h0_get ho'] at ho
    cases ho
    refine ⟨o', ho', ?_⟩
    cases o' with
    | cells c T fz =>
      refine ⟨c, T, fz, rfl, fun h => (by cases h), fun i v x => ?_, rfl⟩
      rw [List.getElem?_map, Option.map_eq_some_iff] at x
      obtain ⟨u, hu, rfl⟩ := x
      exact ⟨u, by simpa [M.start] using hu, canV_rel⟩
    | _ => exact rfl
  inj := fun b c o q _ _ _ _ _ _ h => h
  bd := fun b h => h
  lt := fun b h => by rw [h0_len]; exact Nat.lt_succ_of_lt h
  nd := Nat.lt_irrefl _
  gl := fun g hg => ⟨Nat.lt_of_lt_of_le hg hN, rfl⟩
  dd := by
    have : (w.heap.toList.map (canO w.heap.size)).length = w.heap.size := by simp
    show (h0 w)[w.heap.size]? = _
    unfold h0
    rw [List.getElem?_append_right (by omega), this, Nat.sub_self]; rfl
theorem h0_still {w : World} {b : Nat} {o : CO} (h : (h0 w)[b]? = some o) : chg o = false := by
  have : o ∈ h0 w := List.mem_of_getElem? h
  simp only [h0, List.mem_append, List.mem_map, List.mem_singleton] at this
  rcases this with ⟨x, _, rfl⟩ | rfl
  · cases x <;> rfl
  · rfl
/-- **A call that the canonical machine reckons out, from whatever world**: what it hands back; nothing that was there is touched. -/
theorem calls_of_ret (hI : InsOk P) (hN : gN ≤ w.heap.size) (hm : P.follows .mixedOrders = true) {f : Nat} {args : Array Value} {v : Bool} {h' : Heap} (hr : Ret (tab P) f (args.toList.map (canA w.heap.size)) (h0 w) (.bool v) h') :
    Calls P f args w fun e w' => e = .returned (.bool v) ∧ RowKit.Below w.heap.size w w' := by
  intro cs
  obtain ⟨e, w', fr, ⟨v', μ', rfl, hst, hw', hrel⟩, rest⟩ := sound hI hm hr (start_wr w hN) canA_rels cs
  refine ⟨.returned v', w', fr, ⟨?_, hst.kin.os, hst.kin.tape, hst.kin.output, hst.frm.1, fun k hk => hst.frm.2 k hk fun b o _ ho _ => h0_still ho⟩, rest⟩
  rw [vrel_bool hrel]
end Go.Canon
namespace Go.Canon
set_option linter.unusedVariables false
set_option linter.unusedSimpArgs false
open Go
open Classical
variable {T : Nat → Option KFunc} {fi : FI} {prs : List (Nat × Nat)} {i : Nat} {d : Option Nat} {r : List KOper} {fr : Nat → Value} {H : Heap} {m : List Nat} {K : (Nat → Value) → Heap → List Nat → Prop}
/-- No block. -/
def noB : Nat → Prop := fun _ => False
/-- An entry of the log that has only added objects, and has not looked at any of B's. -/
def Fine (B : Nat → Prop) (e : LogE) : Prop := e.hb <+: e.ha ∧ ∀ b, B b → e.all = false ∧ b ∉ e.rd
/-- A region's rest, whatever is in the log, if all in it that is in an open pair with what comes has only added objects. B: the blocks that will be written in open pairs. -/
structure AE (B : Nat → Prop) (T : Nat → Option KFunc) (fi : FI) (prs : List (Nat × Nat)) (i : Nat) (ops : List KOper) (fr : Nat → Value) (h : Heap) (m : List Nat) (K : (Nat → Value) → Heap → List Nat → Prop) : Prop where
  go : ∀ log : List LogE, (∀ e ∈ log, (∃ k, i ≤ k ∧ (e.ix, k) ∈ prs) → Fine B e) → AOps T fi prs i log ops fr h m K
theorem clean_pre {hb ha : Heap} {e : LogE} (h : hb <+: ha) : clean hb ha e := by
  unfold clean
  split
  · exact h
  · intro b _ hb'
    obtain ⟨t, rfl⟩ := h
    exact List.getElem?_append_left hb'
variable {B : Nat → Prop}
theorem AX_EB (B : Nat → Prop) {ops : List KOper} {h : Heap} {Q : Ex → (Nat → Value) → Heap → List Nat → Prop} (H : AE B T fi prs 0 ops fr h m (fun fr h m => Q .normal fr h m)) : AX T fi (.reg ops prs) fr h m Q := AX_reg (H.go [] (by simp))
theorem AX_E {ops : List KOper} {h : Heap} {Q : Ex → (Nat → Value) → Heap → List Nat → Prop} (H : AE noB T fi prs 0 ops fr h m (fun fr h m => Q .normal fr h m)) : AX T fi (.reg ops prs) fr h m Q := AX_EB _ H
theorem E_nil {h : Heap} (k : K fr h m) : AE B T fi prs i [] fr h m K := ⟨fun _ _ => AOps_nil k⟩
theorem fine_next {log : List LogE} (hl : ∀ e ∈ log, (∃ k, i ≤ k ∧ (e.ix, k) ∈ prs) → Fine B e) : ∀ e ∈ log, (∃ k, i + 1 ≤ k ∧ (e.ix, k) ∈ prs) → Fine B e := fun e he ⟨k, hk, hp⟩ => hl e he ⟨k, by omega, hp⟩
/-- An operation whose change only adds objects. -/
theorem E_add {o : KOper} {h : Heap} {v : Value} {e : Eff} (hw : wantedK o.guard fr = true) (hk : kop o.op fr h = some (.val v e)) (hp : h <+: e.on h) (hB : (∀ b, B b → isCall o.op = false ∧ b ∉ rds o.op fr) ∨ ∀ p ∈ prs, p.1 ≠ i) (H : AE B T fi prs (i + 1) r (put fr o.dst v) (e.on h) m K) : AE B T fi prs i (o :: r) fr h m K := by
  refine ⟨fun log hl => ?_⟩
  by_cases hpr : prs.any (fun p => p.1 = i ∨ p.2 = i) = true
  · refine AOps_valD hw hk (fun e' he' hpp => ⟨clean_pre (hl e' he' ⟨i, Nat.le_refl _, hpp⟩).1, clean_pre hp⟩) (H.go _ ?_) hpr
    intro e' he'
    rcases List.mem_cons.1 he' with rfl | he'
    · rintro ⟨k, _, hk⟩
      rcases hB with hB | hB
      · exact ⟨hp, hB⟩
      · exact (hB _ hk rfl).elim
    · exact fine_next hl e' he'
  · exact AOps_val (by simpa using hpr) hw hk (H.go log (fine_next hl))
/-- An operation that changes objects, in no open pair. -/
theorem E_set {o : KOper} {h : Heap} {v : Value} {e : Eff} (hpr : prs.any (fun p => p.1 = i ∨ p.2 = i) = false) (hw : wantedK o.guard fr = true) (hk : kop o.op fr h = some (.val v e)) (H : AE B T fi prs (i + 1) r (put fr o.dst v) (e.on h) m K) : AE B T fi prs i (o :: r) fr h m K := ⟨fun log hl =>
  AOps_val hpr hw hk (H.go log (fine_next hl))⟩
/-- An operation that changes one object of B's, in open pairs with what comes before it alone. -/
theorem E_setP {o : KOper} {h : Heap} {v : Value} {b : Nat} {ob : CO} (hb : B b) (hpr : ∀ p ∈ prs, p.1 ≠ i) (hw : wantedK o.guard fr = true) (hk : kop o.op fr h = some (.val v (.upd b ob))) (H : AE B T fi prs (i + 1) r (put fr o.dst v) (h.set b ob) m K) : AE B T fi prs i (o :: r) fr h m K := by
  refine ⟨fun log hl => ?_⟩
  by_cases hpp : prs.any (fun p => p.1 = i ∨ p.2 = i) = true
  · refine AOps_valD hw hk (fun e' he' hq => ?_) (H.go _ ?_) hpp
    · obtain ⟨f1, f2⟩ := hl e' he' ⟨i, Nat.le_refl _, hq⟩
      refine ⟨clean_pre f1, ?_⟩
      unfold clean
      rw [if_neg (by simp [(f2 b hb).1])]
      intro c hc _
      have : b ≠ c := fun e => (f2 b hb).2 (e ▸ hc)
      show (h.set b ob)[c]? = h[c]?
      rw [List.getElem?_set_ne this]
    · intro e' he'
      rcases List.mem_cons.1 he' with rfl | he'
      · rintro ⟨k, _, hk⟩; exact (hpr _ hk rfl).elim
      · exact fine_next hl e' he'
  · exact AOps_val (by simpa using hpp) hw hk (H.go log (fine_next hl))
theorem E_off {o : KOper} {h : Heap} (hw : wantedK o.guard fr = false) (ht : toldK o.guard fr = true) (H : AE B T fi prs (i + 1) r (put fr o.dst undef) h m K) : AE B T fi prs i (o :: r) fr h m K := ⟨fun log hl => AOps_off hw ht (H.go log (fine_next hl))⟩
/-- A call that leaves v and h'. -/
theorem E_callR {o : KOper} {h h' : Heap} {f : Nat} {args : List Value} {v : Value} (hw : wantedK o.guard fr = true) (hk : kop o.op fr h = some (.call f args)) (hr : Ret T f args h v h') (hp : prs.any (fun p => p.1 = i ∨ p.2 = i) = false ∨ h <+: h')
    (H : AE noB T fi prs (i + 1) r (put fr o.dst v) h' m K) : AE noB T fi prs i (o :: r) fr h m K := by
  refine ⟨fun log hl => ?_⟩
  by_cases hpr : prs.any (fun p => p.1 = i ∨ p.2 = i) = true
  · have hp' : h <+: h' := by
      rcases hp with hf | hf
      · rw [hpr] at hf; cases hf
      · exact hf
    refine AOps_callD hw hk hpr (hr.call ⟨fun e' he' hq => ⟨clean_pre (hl e' he' ⟨i, Nat.le_refl _, hq⟩).1, clean_pre hp'⟩, H.go _ ?_⟩)
    intro e' he'
    rcases List.mem_cons.1 he' with rfl | he'
    · exact fun _ => ⟨hp', fun b hb => hb.elim⟩
    · exact fine_next hl e' he'
  · exact AOps_call (by simpa using hpr) hw hk (hr.call (H.go log (fine_next hl)))
theorem E_on {op : KOp} {h : Heap} {t : Nat} {b : Bool} (hg : fr t = .bool b) (H : AE B T fi prs i (⟨d, op, none⟩ :: r) fr h m K) : AE B T fi prs i (⟨d, op, some (t, b)⟩ :: r) fr h m K := by
  refine ⟨fun log hl => ?_⟩
  obtain ⟨n, s', x, k⟩ := H.go log hl
  refine ⟨n, s', ?_, k⟩
  cases n with
  | zero => simp [kops] at x
  | succ n =>
    unfold kops at x ⊢
    simp only [wantedK, hg, beq_self_eq_true] at x ⊢
    exact x
theorem E_notT {op : KOp} {h : Heap} {t : Nat} (hg : fr t = .bool false) (H : AE B T fi prs (i + 1) r (put fr d undef) h m K) : AE B T fi prs i (⟨d, op, some (t, true)⟩ :: r) fr h m K := E_off (by simp [wantedK, hg]) (by simp [toldK, hg]) H
theorem E_notF {op : KOp} {h : Heap} {t : Nat} (hg : fr t = .bool true) (H : AE B T fi prs (i + 1) r (put fr d undef) h m K) : AE B T fi prs i (⟨d, op, some (t, false)⟩ :: r) fr h m K := E_off (by simp [wantedK, hg]) (by simp [toldK, hg]) H
theorem E_notU {op : KOp} {h : Heap} {t : Nat} {b : Bool} (hg : fr t = undef) (H : AE B T fi prs (i + 1) r (put fr d undef) h m K) : AE B T fi prs i (⟨d, op, some (t, b)⟩ :: r) fr h m K := E_off (by simp [wantedK, hg, undef]) (by simp [toldK, hg, undef]) H
section
variable {h : Heap}
theorem E_look {op : KOp} {v : Value} (hk : kop op fr h = some (.val v .no)) (hB : (∀ b, B b → isCall op = false ∧ b ∉ rds op fr) ∨ ∀ p ∈ prs, p.1 ≠ i) (H : AE B T fi prs (i + 1) r (put fr d v) h m K) : AE B T fi prs i (⟨d, op, none⟩ :: r) fr h m K := E_add rfl hk (List.prefix_refl _) hB H
theorem E_no {op : KOp} {v : Value} (hk : kop op fr h = some (.val v .no)) (H : AE B T fi prs (i + 1) r (put fr d v) h m K) (hc : isCall op = false := by rfl) (hr : rds op fr = [] := by rfl) : AE B T fi prs i (⟨d, op, none⟩ :: r) fr h m K := E_look hk (.inl fun b _ => ⟨hc, by rw [hr]; simp⟩) H
theorem E_mv {x : KO} {v : Value} (hx : x.ev fr = v) (H : AE B T fi prs (i + 1) r (put fr d v) h m K) : AE B T fi prs i (⟨d, .mv x, none⟩ :: r) fr h m K := E_no (by simp only [kop, hx]) H
theorem E_len {x : KO} {a : Option Addr} {n c : Nat} (hx : x.ev fr = .slice a n c) (H : AE B T fi prs (i + 1) r (put fr d (.int .i64 n)) h m K) : AE B T fi prs i (⟨d, .len x, none⟩ :: r) fr h m K := E_no (by simp only [kop, hx]) H
theorem E_fa {x : KO} {b o n : Nat} (hx : x.ev fr = .pointer (some ⟨b, o, none⟩)) (H : AE B T fi prs (i + 1) r (put fr d (.pointer (some ⟨b, o + n, none⟩))) h m K) : AE B T fi prs i (⟨d, .fa x n, none⟩ :: r) fr h m K := E_no (by simp only [kop, hx, add_pl]) H
theorem E_not {x : KO} {b : Bool} (hx : x.ev fr = .bool b) (H : ∀ c, c = !b → AE B T fi prs (i + 1) r (put fr d (.bool c)) h m K) : AE B T fi prs i (⟨d, .not x, none⟩ :: r) fr h m K := E_no (by simp only [kop, hx]) (H _ rfl)
theorem E_pickT {c x y : KO} (hc : c.ev fr = .bool true) {v : Value} (hx : x.ev fr = v) (H : AE B T fi prs (i + 1) r (put fr d v) h m K) : AE B T fi prs i (⟨d, .pick c x y, none⟩ :: r) fr h m K := E_no (by simp only [kop, hc, if_true, hx]) H
theorem E_pickF {c x y : KO} (hc : c.ev fr = .bool false) {v : Value} (hy : y.ev fr = v) (H : AE B T fi prs (i + 1) r (put fr d v) h m K) : AE B T fi prs i (⟨d, .pick c x y, none⟩ :: r) fr h m K := E_no (by simp only [kop, hc, Bool.false_eq_true, if_false, hy]) H
theorem E_eql {x y : KO} {k : IntKind} {a b : Int} (hx : x.ev fr = .int k a) (hy : y.ev fr = .int k b) (H : ∀ c : Bool, c = (a == b) → AE B T fi prs (i + 1) r (put fr d (.bool c)) h m K) : AE B T fi prs i (⟨d, .bin .eql x y, none⟩ :: r) fr h m K := E_no (v := .bool (a == b)) (by simp [kop, hx, hy, kbin, kint]) (H _ rfl)
theorem E_neq {x y : KO} {k : IntKind} {a b : Int} (hx : x.ev fr = .int k a) (hy : y.ev fr = .int k b) (H : ∀ c : Bool, c = (a != b) → AE B T fi prs (i + 1) r (put fr d (.bool c)) h m K) : AE B T fi prs i (⟨d, .bin .neq x y, none⟩ :: r) fr h m K := E_no (v := .bool (a != b)) (by simp [kop, hx, hy, kbin, kint]) (H _ rfl)
theorem E_lss {x y : KO} {k : IntKind} {a b : Int} (hx : x.ev fr = .int k a) (hy : y.ev fr = .int k b) (H : ∀ c : Bool, c = decide (a < b) → AE B T fi prs (i + 1) r (put fr d (.bool c)) h m K) : AE B T fi prs i (⟨d, .bin .lss x y, none⟩ :: r) fr h m K := E_no (v := .bool (decide (a < b))) (by simp [kop, hx, hy, kbin, kint]) (H _ rfl)
theorem E_leq {x y : KO} {k : IntKind} {a b : Int} (hx : x.ev fr = .int k a) (hy : y.ev fr = .int k b) (H : ∀ c : Bool, c = decide (a ≤ b) → AE B T fi prs (i + 1) r (put fr d (.bool c)) h m K) : AE B T fi prs i (⟨d, .bin .leq x y, none⟩ :: r) fr h m K := E_no (v := .bool (decide (a ≤ b))) (by simp [kop, hx, hy, kbin, kint]) (H _ rfl)
theorem E_gtr {x y : KO} {k : IntKind} {a b : Int} (hx : x.ev fr = .int k a) (hy : y.ev fr = .int k b) (H : ∀ c : Bool, c = decide (a > b) → AE B T fi prs (i + 1) r (put fr d (.bool c)) h m K) : AE B T fi prs i (⟨d, .bin .gtr x y, none⟩ :: r) fr h m K := E_no (v := .bool (decide (a > b))) (by simp [kop, hx, hy, kbin, kint]) (H _ rfl)
theorem E_geq {x y : KO} {k : IntKind} {a b : Int} (hx : x.ev fr = .int k a) (hy : y.ev fr = .int k b) (H : ∀ c : Bool, c = decide (a ≥ b) → AE B T fi prs (i + 1) r (put fr d (.bool c)) h m K) : AE B T fi prs i (⟨d, .bin .geq x y, none⟩ :: r) fr h m K := E_no (v := .bool (decide (a ≥ b))) (by simp [kop, hx, hy, kbin, kint]) (H _ rfl)
theorem wrap_in {a : Int} (h1 : -9223372036854775808 ≤ a) (h2 : a ≤ 9223372036854775807) : IntKind.wrap .i64 a = a := by
  simp [IntKind.wrap, IntKind.bits, IntKind.signed]
  omega
theorem E_addI {x y : KO} {a b : Int} (hx : x.ev fr = .int .i64 a) (hy : y.ev fr = .int .i64 b) (h1 : -9223372036854775808 ≤ a + b) (h2 : a + b ≤ 9223372036854775807) (H : AE B T fi prs (i + 1) r (put fr d (.int .i64 (a + b))) h m K) : AE B T fi prs i (⟨d, .bin .add x y, none⟩ :: r) fr h m K := E_no (by simp [kop, hx, hy, kbin, kint, wrap_in h1 h2]) H
theorem E_subI {x y : KO} {a b : Int} (hx : x.ev fr = .int .i64 a) (hy : y.ev fr = .int .i64 b) (h1 : -9223372036854775808 ≤ a - b) (h2 : a - b ≤ 9223372036854775807) (H : AE B T fi prs (i + 1) r (put fr d (.int .i64 (a - b))) h m K) : AE B T fi prs i (⟨d, .bin .sub x y, none⟩ :: r) fr h m K := E_no (by simp [kop, hx, hy, kbin, kint, wrap_in h1 h2]) H
theorem E_iaS {x y : KO} {sz b o n c : Nat} {k : IntKind} {z : Int} (hx : x.ev fr = .slice (some ⟨b, o, none⟩) n c) (hy : y.ev fr = .int k z) (h1 : 0 ≤ z) (h2 : z < n) (H : AE B T fi prs (i + 1) r (put fr d (.pointer (some ⟨b, o + z.toNat * sz, none⟩))) h m K) : AE B T fi prs i (⟨d, .iaS x y sz, none⟩ :: r) fr h m K :=
  E_no (by simp only [kop, hx, hy]; rw [if_pos ⟨h1, h2⟩, add_pl]) H
theorem E_ld1 {x : KO} {a : Addr} {v : Value} (hx : x.ev fr = .pointer (some a)) (hg : rowGet h a 1 = some [v]) (H : AE B T fi prs (i + 1) r (put fr d v) h m K) (hB : (∀ b, B b → b ≠ a.block) ∨ ∀ p ∈ prs, p.1 ≠ i := by exact .inl fun b hb => hb.elim) : AE B T fi prs i (⟨d, .ld x none, none⟩ :: r) fr h m K := E_look (by simp only [kop, hx, hg]) (hB.imp_left fun hB b hb => ⟨rfl, by simpa [rds, hx, blkOf] using hB b hb⟩) H
theorem E_ldN {x : KO} {a : Addr} {n : Nat} {cs : List Value} (hx : x.ev fr = .pointer (some a)) (hg : rowGet h a n = some cs) (H : AE B T fi prs (i + 1) r (put fr d (.agg cs.toArray)) h m K) (hB : (∀ b, B b → b ≠ a.block) ∨ ∀ p ∈ prs, p.1 ≠ i := by exact .inl fun b hb => hb.elim) : AE B T fi prs i (⟨d, .ld x (some n), none⟩ :: r) fr h m K := E_look (by simp only [kop, hx, hg]) (hB.imp_left fun hB b hb => ⟨rfl, by simpa [rds, hx, blkOf] using hB b hb⟩) H
end
theorem own_get (h L : Heap) (k : Nat) : (h ++ L)[h.length + k]? = L[k]? := by
  rw [List.getElem?_append_right (by omega)]; congr 1; omega
theorem rowGet_own {h L : Heap} {k o n : Nat} {l : List Value} (hg : rowGet L ⟨k, o, none⟩ n = some l) : rowGet (h ++ L) ⟨h.length + k, o, none⟩ n = some l := by
  unfold rowGet at hg ⊢
  simp only [own_get] at hg ⊢
  exact hg
theorem rowGet_pre {h h' : Heap} {a : Addr} {n : Nat} {l : List Value} (hg : rowGet h a n = some l) (hp : h <+: h') : rowGet h' a n = some l := by
  obtain ⟨t, rfl⟩ := hp
  unfold rowGet at hg ⊢
  cases hb : h[a.block]? with
  | none => rw [hb] at hg; cases hg
  | some o => rw [hb] at hg; rw [List.getElem?_append_left (List.getElem?_eq_some_iff.1 hb).1, hb]; exact hg
theorem rowGet_lt {h : Heap} {a : Addr} {n : Nat} {l : List Value} (hg : rowGet h a n = some l) : a.block < h.length := by
  unfold rowGet at hg
  split at hg
  · rename_i he; exact (List.getElem?_eq_some_iff.1 he).1
  · cases hg
theorem rowGet_base {h L : Heap} {a : Addr} {n : Nat} {l : List Value} (hg : rowGet h a n = some l) : rowGet (h ++ L) a n = some l := rowGet_pre hg (List.prefix_append _ _)
theorem rowSet_own {h L : Heap} {k o : Nat} {l : List Value} {ob : CO} (hg : rowSet L ⟨k, o, none⟩ l = some ob) : rowSet (h ++ L) ⟨h.length + k, o, none⟩ l = some ob := by
  unfold rowSet at hg ⊢
  simp only [own_get] at hg ⊢
  exact hg
theorem set_own {h L : Heap} {k : Nat} {ob : CO} : (h ++ L).set (h.length + k) ob = h ++ L.set k ob := by
  rw [List.set_append_right _ _ (by omega)]; congr 2; omega
section
variable {h L : Heap}
theorem E_boxA {x : KO} {cs : Array Value} (hx : x.ev fr = .agg cs) (H : AE B T fi prs (i + 1) r (put fr d (.pointer (some ⟨h.length + L.length, 0, none⟩))) (h ++ (L ++ [.row cs.toList true none])) m K) : AE B T fi prs i (⟨d, .box x, none⟩ :: r) fr (h ++ L) m K :=
  E_add (v := ptr (h ++ L).length 0) (e := .new (.row cs.toList true none)) rfl (by simp only [kop, hx, cellsOf]) (List.prefix_append _ _) (.inl fun b _ => ⟨rfl, by simp [rds]⟩) (by simpa [Eff.on, ptr] using H)
theorem E_boxV {x : KO} {v : Value} (hx : x.ev fr = v) (hc : cellsOf v = some [v]) (H : AE B T fi prs (i + 1) r (put fr d (.pointer (some ⟨h.length + L.length, 0, none⟩))) (h ++ (L ++ [.row [v] true none])) m K) : AE B T fi prs i (⟨d, .box x, none⟩ :: r) fr (h ++ L) m K :=
  E_add (v := ptr (h ++ L).length 0) (e := .new (.row [v] true none)) rfl (by simp only [kop, hx, hc]) (List.prefix_append _ _) (.inl fun b _ => ⟨rfl, by simp [rds]⟩) (by simpa [Eff.on, ptr] using H)
theorem E_new {z : List Value} (H : AE B T fi prs (i + 1) r (put fr d (.pointer (some ⟨h.length + L.length, 0, none⟩))) (h ++ (L ++ [.row z true none])) m K) : AE B T fi prs i (⟨d, .new z, none⟩ :: r) fr (h ++ L) m K :=
  E_add (v := ptr (h ++ L).length 0) (e := .new (.row z true none)) rfl rfl (List.prefix_append _ _) (.inl fun b _ => ⟨rfl, by simp [rds]⟩) (by simpa [Eff.on, ptr] using H)
theorem E_ldO {x : KO} {k o : Nat} {v : Value} (hx : x.ev fr = .pointer (some ⟨h.length + k, o, none⟩)) (hg : rowGet L ⟨k, o, none⟩ 1 = some [v]) (H : AE B T fi prs (i + 1) r (put fr d v) (h ++ L) m K) (hB : (∀ b, B b → b ≠ h.length + k) ∨ ∀ p ∈ prs, p.1 ≠ i := by first | exact .inl fun b hb => hb.elim | exact .inr (by decide) | (left; intro b hb; subst hb; omega) | (left; intro b hb; rcases hb with rfl | rfl <;> omega) | (left; intro b hb; omega) | (left; intro b hb; simp only at hb; omega)) : AE B T fi prs i (⟨d, .ld x none, none⟩ :: r) fr (h ++ L) m K := E_ld1 hx (rowGet_own hg) H hB
theorem E_ldON {x : KO} {k o n : Nat} {cs : List Value} (hx : x.ev fr = .pointer (some ⟨h.length + k, o, none⟩)) (hg : rowGet L ⟨k, o, none⟩ n = some cs) (H : AE B T fi prs (i + 1) r (put fr d (.agg cs.toArray)) (h ++ L) m K) (hB : (∀ b, B b → b ≠ h.length + k) ∨ ∀ p ∈ prs, p.1 ≠ i := by first | exact .inl fun b hb => hb.elim | exact .inr (by decide) | (left; intro b hb; subst hb; omega) | (left; intro b hb; rcases hb with rfl | rfl <;> omega) | (left; intro b hb; omega) | (left; intro b hb; simp only at hb; omega)) : AE B T fi prs i (⟨d, .ld x (some n), none⟩ :: r) fr (h ++ L) m K := E_ldN hx (rowGet_own hg) H hB
theorem E_ldB {x : KO} {a : Addr} {v : Value} (hx : x.ev fr = .pointer (some a)) (hg : rowGet h a 1 = some [v]) (H : AE B T fi prs (i + 1) r (put fr d v) (h ++ L) m K) (hB : (∀ b, B b → h.length ≤ b) ∨ ∀ p ∈ prs, p.1 ≠ i := by first | exact .inl fun b hb => hb.elim | exact .inr (by decide) | (left; intro b hb; subst hb; omega) | (left; intro b hb; rcases hb with rfl | rfl <;> omega) | (left; intro b hb; omega) | (left; intro b hb; simp only at hb; omega)) : AE B T fi prs i (⟨d, .ld x none, none⟩ :: r) fr (h ++ L) m K := E_ld1 hx (rowGet_base hg) H (hB.imp_left fun hB b hb => by have := hB b hb; have := rowGet_lt hg; omega)
theorem E_ldBN {x : KO} {a : Addr} {n : Nat} {cs : List Value} (hx : x.ev fr = .pointer (some a)) (hg : rowGet h a n = some cs) (H : AE B T fi prs (i + 1) r (put fr d (.agg cs.toArray)) (h ++ L) m K) (hB : (∀ b, B b → h.length ≤ b) ∨ ∀ p ∈ prs, p.1 ≠ i := by first | exact .inl fun b hb => hb.elim | exact .inr (by decide) | (left; intro b hb; subst hb; omega) | (left; intro b hb; rcases hb with rfl | rfl <;> omega) | (left; intro b hb; omega) | (left; intro b hb; simp only at hb; omega)) : AE B T fi prs i (⟨d, .ld x (some n), none⟩ :: r) fr (h ++ L) m K := E_ldN hx (rowGet_base hg) H (hB.imp_left fun hB b hb => by have := hB b hb; have := rowGet_lt hg; omega)
theorem E_stO {x y : KO} {k o n : Nat} {l : List Value} {ob : CO} (hpr : prs.any (fun p => p.1 = i ∨ p.2 = i) = false) (hx : x.ev fr = .pointer (some ⟨h.length + k, o, none⟩)) {v : Value} (hy : y.ev fr = v) (hl : cellsOf v = some l) (hn : l.length = n) (hs : rowSet L ⟨k, o, none⟩ l = some ob)
    (H : AE B T fi prs (i + 1) r (put fr d undef) (h ++ L.set k ob) m K) : AE B T fi prs i (⟨d, .st x y n, none⟩ :: r) fr (h ++ L) m K :=
  E_set (v := undef) (e := .upd (h.length + k) ob) hpr rfl (by simp only [kop, hx, hy, hl, hn, if_true, rowSet_own hs]) (by simpa [Eff.on, set_own] using H)
theorem E_stP {x y : KO} {k o n : Nat} {l : List Value} {ob : CO} (hb : B (h.length + k)) (hpr : ∀ p ∈ prs, p.1 ≠ i) (hx : x.ev fr = .pointer (some ⟨h.length + k, o, none⟩)) {v : Value} (hy : y.ev fr = v) (hl : cellsOf v = some l) (hn : l.length = n) (hs : rowSet L ⟨k, o, none⟩ l = some ob)
    (H : AE B T fi prs (i + 1) r (put fr d undef) (h ++ L.set k ob) m K) : AE B T fi prs i (⟨d, .st x y n, none⟩ :: r) fr (h ++ L) m K :=
  E_setP (v := undef) (b := h.length + k) (ob := ob) hb hpr rfl (by simp only [kop, hx, hy, hl, hn, if_true, rowSet_own hs]) (by simpa [set_own] using H)
end
theorem ACall_own {f : Nat} {k : KFunc} {args : List Value} {h : Heap} {K : Value → Heap → Prop} (hT : T f = some k) (hl : args.length = k.np)
    (H : AX T ⟨f, k.nt, none⟩ k.body (frOf args) (h ++ []) [] (Fin k h K)) (hi : isIns k.body = false := by rfl) : ACall T f args h K := ACall_of hT hl (by simpa using H) hi
def puts (fr : Nat → Value) : List (Nat × Value) → (Nat → Value)
  | [] => fr
  | (t, v) :: r => put (puts fr r) (some t) v
def Holds (fr : Nat → Value) : List (Nat × Value) → Prop
  | [] => True
  | (t, v) :: r => fr t = v ∧ Holds fr r
theorem puts_eq {fr : Nat → Value} : ∀ {σ : List (Nat × Value)}, Holds fr σ → puts fr σ = fr
  | [], _ => rfl
  | (t, v) :: r, h => by
    obtain ⟨h1, h2⟩ := h
    simp only [puts, puts_eq h2]
    funext x
    simp only [put]
    split
    · rename_i hx; rw [hx, h1]
    · rfl
/-- A loop: at each round's head, by a ghost, the slots σ and what holds of the objects and marks. -/
theorem AX_loopF {a : KC} {γ : Type} {h : Heap} {Q : Ex → (Nat → Value) → Heap → List Nat → Prop} (σ : γ → List (Nat × Value)) (I : γ → Heap → List Nat → Prop) (μ : γ → Nat) (g : γ) (hσ : Holds fr (σ g)) (hI : I g h m)
    (round : ∀ g fr h m, I g h m → ∀ K' : Ex → (Nat → Value) → Heap → List Nat → Prop, (∀ g' fr' h' m', Holds fr' (σ g') → I g' h' m' → μ g' < μ g → K' .normal fr' h' m') → (∀ fr h m, Q .ret fr h m → K' .ret fr h m) → (∀ id fr h m, Q (.exit id) fr h m → K' (.exit id) fr h m) →
      AX T fi a (puts fr (σ g)) h m K') : AX T fi (.loop a) fr h m Q := by
  refine AX_loop (γ := γ) (fun g fr h m => Holds fr (σ g) ∧ I g h m) μ g ⟨hσ, hI⟩ ?_
  rintro g fr h m ⟨h1, h2⟩ K' hN hR hE
  have := round g fr h m h2 K' (fun g' fr' h' m' a b c => hN g' fr' h' m' ⟨a, b⟩ c) hR hE
  rwa [puts_eq h1] at this
/-- Two pieces, with what the second one needs to know between them. -/
theorem AX_cut {a b : KC} {X : Type} {h : Heap} {Q : Ex → (Nat → Value) → Heap → List Nat → Prop} (σ : X → List (Nat × Value)) (I : X → Heap → List Nat → Prop)
    (H1 : ∀ K' : Ex → (Nat → Value) → Heap → List Nat → Prop, (∀ x fr' h' m', Holds fr' (σ x) → I x h' m' → K' .normal fr' h' m') → (∀ fr h m, Q .ret fr h m → K' .ret fr h m) → (∀ id fr h m, Q (.exit id) fr h m → K' (.exit id) fr h m) → AX T fi a fr h m K')
    (H2 : ∀ x fr h m, I x h m → AX T fi b (puts fr (σ x)) h m Q) : AX T fi (.seq a b) fr h m Q := by
  refine AX_seq (H1 _ ?_ (fun _ _ _ k => k) (fun _ _ _ _ k => k))
  intro x fr' h' m' h1 h2
  have := H2 x fr' h' m' h2
  rwa [puts_eq h1] at this
theorem AX_condT {x : KO} {a b : KC} {h : Heap} {Q : Ex → (Nat → Value) → Heap → List Nat → Prop} (hc : x.ev fr = .bool true) (H : AX T fi a fr h m Q) : AX T fi (.cond x a b) fr h m Q := AX_cond hc H
theorem AX_condF {x : KO} {a b : KC} {h : Heap} {Q : Ex → (Nat → Value) → Heap → List Nat → Prop} (hc : x.ev fr = .bool false) (H : AX T fi b fr h m Q) : AX T fi (.cond x a b) fr h m Q := AX_cond hc H
/-- What must stand at a function's end, told by its results alone. -/
def FinR (res : List KRes) (h : Heap) (K : Value → Heap → Prop) : Ex → (Nat → Value) → Heap → List Nat → Prop
  | .exit _, _, _, _ => False
  | _, fr, h', m => ∃ v, resultsK h' fr res = some v ∧ (∀ x ∈ m, h'[x]? = some .mark) ∧ K v (forget h v (m.foldl (fun h x => h.set x .gone) h'))
theorem FinR_fin {k : KFunc} {h : Heap} {K : Value → Heap → Prop} {e : Ex} {fr : Nat → Value} {h' : Heap} {m : List Nat} (H : FinR k.res h K e fr h' m) : Fin k h K e fr h' m := by cases e <;> exact H
theorem Ret_own {f np nt : Nat} {res : List KRes} {body : KC} {args : List Value} {h h' : Heap} {v : Value} (hT : T f = some ⟨np, nt, res, body⟩) (hl : args.length = np)
    (H : AX T ⟨f, nt, none⟩ body (frOf args) (h ++ []) [] (FinR res h fun u k => u = v ∧ k = h')) (hi : isIns body = false := by rfl) : Ret T f args h v h' :=
  ret_of_acall (ACall_own hT hl (H.mono fun _ _ _ _ x => FinR_fin x) hi)
end Go.Canon
namespace Go.Canon
set_option linter.unusedVariables false
set_option linter.unusedSimpArgs false
open Go
open Classical
/-- Where a slice lies: its first element, its capacity. -/
abbrev Pl := Option Addr × Nat
/-- So many elements of sz cells each, in a row that S lets in. -/
def Cells (S : Nat → Prop) (h : Heap) (sz : Nat) (p : Pl) (n : Nat) (cells : List Value) : Prop :=
  cells.length = n * sz ∧ n ≤ p.2 ∧ ((p.1 = none ∧ p.2 = 0) ∨ ∃ b o cs wr gr, p.1 = some ⟨b, o, none⟩ ∧ S b ∧ h[b]? = some (.row cs wr gr) ∧ (gr = none ∨ gr = some sz) ∧ (n = 0 ∨ o + n * sz ≤ cs.length ∧ (cs.drop o).take (n * sz) = cells))
def allB : Nat → Prop := fun _ => True
def Ints (S : Nat → Prop) (h : Heap) (p : Pl) (l : List Int) : Prop := Cells S h 1 p l.length (l.map (.int .i64 ·))
structure G where
  k : Int
  ws : List Int
  b : Int
  f : Int
  deriving DecidableEq, Inhabited
structure C where
  w : Int
  b : Int
  gs : List G
  deriving DecidableEq, Inhabited
abbrev gcells (g : G) (p : Pl) : List Value := [.int .i64 g.k, .slice p.1 g.ws.length p.2, .int .i64 g.b, .int .i64 g.f]
abbrev gv (g : G) (p : Pl) : Value := .agg #[.int .i64 g.k, .slice p.1 g.ws.length p.2, .int .i64 g.b, .int .i64 g.f]
abbrev cv (c : C) (p : Pl) : Value := .agg #[.int .i64 c.w, .int .i64 c.b, .slice p.1 c.gs.length p.2]
def flat (gs : List G) (ps : List Pl) : List Value := (List.zipWith gcells gs ps).flatten
def Gates (S : Nat → Prop) (h : Heap) (p : Pl) (gs : List G) : Prop :=
  ∃ ps : List Pl, ps.length = gs.length ∧ Cells S h 4 p gs.length (flat gs ps) ∧ ∀ i (h1 : i < gs.length) (h2 : i < ps.length), Ints S h ps[i] gs[i].ws
theorem Cells.congr {S S' : Nat → Prop} {h h' : Heap} {sz n : Nat} {p : Pl} {cells : List Value} (H : Cells S h sz p n cells) (hs : ∀ b, S b → S' b) (hh : ∀ b, S b → b < h.length → h'[b]? = h[b]?) : Cells S' h' sz p n cells := by
  obtain ⟨h1, h2, h3 | ⟨b, o, cs, wr, gr, e1, e2, e3, e4, e5⟩⟩ := H
  · exact ⟨h1, h2, .inl h3⟩
  · exact ⟨h1, h2, .inr ⟨b, o, cs, wr, gr, e1, hs _ e2, by rw [hh _ e2 (List.getElem?_eq_some_iff.1 e3).1, e3], e4, e5⟩⟩
theorem Ints.congr {S S' : Nat → Prop} {h h' : Heap} {p : Pl} {l : List Int} (H : Ints S h p l) (hs : ∀ b, S b → S' b) (hh : ∀ b, S b → b < h.length → h'[b]? = h[b]?) : Ints S' h' p l := Cells.congr H hs hh
theorem Gates.congr {S S' : Nat → Prop} {h h' : Heap} {p : Pl} {l : List G} (H : Gates S h p l) (hs : ∀ b, S b → S' b) (hh : ∀ b, S b → b < h.length → h'[b]? = h[b]?) : Gates S' h' p l :=
  let ⟨ps, e, a, b⟩ := H; ⟨ps, e, a.congr hs hh, fun i h1 h2 => (b i h1 h2).congr hs hh⟩
theorem pre_get {h L : Heap} {b : Nat} (hb : b < h.length) : (h ++ L)[b]? = h[b]? := List.getElem?_append_left hb
theorem Cells.app {S : Nat → Prop} {h L : Heap} {sz n : Nat} {p : Pl} {cells : List Value} (H : Cells S h sz p n cells) : Cells S (h ++ L) sz p n cells := H.congr (fun _ x => x) fun _ _ hb => pre_get hb
theorem Ints.app {S : Nat → Prop} {h L : Heap} {p : Pl} {l : List Int} (H : Ints S h p l) : Ints S (h ++ L) p l := Cells.app H
theorem Gates.app {S : Nat → Prop} {h L : Heap} {p : Pl} {l : List G} (H : Gates S h p l) : Gates S (h ++ L) p l := H.congr (fun _ x => x) fun _ _ hb => pre_get hb
theorem Ints.all {S : Nat → Prop} {h : Heap} {p : Pl} {l : List Int} (H : Ints S h p l) : Ints allB h p l := H.congr (fun _ _ => trivial) fun _ _ _ => rfl
theorem Gates.all {S : Nat → Prop} {h : Heap} {p : Pl} {l : List G} (H : Gates S h p l) : Gates allB h p l := H.congr (fun _ _ => trivial) fun _ _ _ => rfl
theorem Cells.row {S : Nat → Prop} {h : Heap} {sz n : Nat} {p : Pl} {cells : List Value} (H : Cells S h sz p n cells) {j k : Nat} (hk : k ≠ 0) (hj : j + k ≤ n * sz) :
    ∃ b o, p.1 = some ⟨b, o, none⟩ ∧ rowGet h ⟨b, o + j, none⟩ k = some ((cells.drop j).take k) := by
  obtain ⟨h1, h2, ⟨h3, h4⟩ | ⟨b, o, cs, wr, gr, e1, e2, e3, e4, e5 | ⟨e5, e6⟩⟩⟩ := H
  · have : n = 0 := by omega
    subst this; omega
  · subst e5; omega
  · refine ⟨b, o, e1, ?_⟩
    unfold rowGet
    simp only [e3]
    rw [if_pos ⟨trivial, by omega⟩, ← e6, List.drop_take, List.take_take, List.drop_drop]
    congr 2
    omega
theorem rowGet_c {h : Heap} {b o n j : Nat} {cs : List Value} {v : Value} (hr : rowGet h ⟨b, o, none⟩ n = some cs) (hj : cs[j]? = some v) : rowGet h ⟨b, o + j, none⟩ 1 = some [v] := by
  unfold rowGet at hr ⊢
  simp only at hr ⊢
  split at hr
  · rename_i cs' wr gr he
    split at hr
    · rename_i hc
      injection hr with hr
      subst hr
      have hjn : j < n := by
        have := (List.getElem?_eq_some_iff.1 hj).1
        simp only [List.length_take] at this
        omega
      rw [if_pos ⟨trivial, by omega⟩]
      rw [List.getElem?_take_of_lt hjn, List.getElem?_drop] at hj
      obtain ⟨h1, h2⟩ := List.getElem?_eq_some_iff.1 hj
      rw [List.drop_eq_getElem_cons h1, h2]
      rfl
    · cases hr
  · cases hr
theorem flat_len : ∀ (gs : List G) (ps : List Pl), ps.length = gs.length → (flat gs ps).length = gs.length * 4
  | [], [], _ => rfl
  | g :: gs, p :: ps, e => by
    have := flat_len gs ps (by simpa using e)
    simp only [flat, List.zipWith_cons_cons, List.flatten_cons, List.length_append, List.length_cons, List.length_nil] at this ⊢
    omega
  | [], _ :: _, e => by simp at e
  | _ :: _, [], e => by simp at e
theorem flat_at : ∀ (gs : List G) (ps : List Pl) (e : ps.length = gs.length) (j : Nat) (h1 : j < gs.length) (h2 : j < ps.length), ((flat gs ps).drop (j * 4)).take 4 = gcells gs[j] ps[j]
  | g :: gs, p :: ps, e, 0, _, _ => by simp [flat, gcells]
  | g :: gs, p :: ps, e, j + 1, h1, h2 => by
    have := flat_at gs ps (by simpa using e) j (by simpa using h1) (by simpa using h2)
    simp only [List.getElem_cons_succ]
    rw [← this]
    simp only [flat, List.zipWith_cons_cons, List.flatten_cons]
    have e2 : (j + 1) * 4 = 4 + j * 4 := by omega
    rw [e2, ← List.drop_drop]
    rfl
  | [], [], _, _, h1, _ => by simp at h1
  | [], _ :: _, e, _, _, _ => by simp at e
  | _ :: _, [], e, _, _, _ => by simp at e
theorem Ints.row {S : Nat → Prop} {h : Heap} {p : Pl} {l : List Int} (H : Ints S h p l) {j : Nat} (hj : j < l.length) : ∃ b o, p.1 = some ⟨b, o, none⟩ ∧ rowGet h ⟨b, o + j * 1, none⟩ 1 = some [.int .i64 l[j]] := by
  obtain ⟨b, o, e, r⟩ := Cells.row H (j := j * 1) (k := 1) (by simp) (by omega)
  refine ⟨b, o, e, ?_⟩
  rw [r, Nat.mul_one, List.drop_eq_getElem_cons (by simpa using hj)]
  simp
theorem Gates.row {S : Nat → Prop} {h : Heap} {p : Pl} {l : List G} (H : Gates S h p l) {j : Nat} (hj : j < l.length) : ∃ b o q, p.1 = some ⟨b, o, none⟩ ∧ Ints S h q l[j].ws ∧ rowGet h ⟨b, o + j * 4, none⟩ 4 = some (gcells l[j] q) := by
  obtain ⟨ps, e, a, c⟩ := H
  obtain ⟨b, o, e1, r⟩ := Cells.row a (j := j * 4) (k := 4) (by simp) (by omega)
  refine ⟨b, o, ps[j], e1, c j hj (by omega), ?_⟩
  rw [r, flat_at _ _ e j hj (by omega)]
variable {B : Nat → Prop} {T : Nat → Option KFunc} {fi : FI} {prs : List (Nat × Nat)} {i : Nat} {d : Option Nat} {r : List KOper} {fr : Nat → Value} {h : Heap} {m : List Nat} {K : (Nat → Value) → Heap → List Nat → Prop} {S : Nat → Prop}
/-- An element of a list of numbers. -/
theorem E_iaI {x y : KO} {p : Pl} {n j : Nat} {l : List Int} {k : IntKind} {z : Int} (hx : x.ev fr = .slice p.1 n p.2) (hI : Ints S h p l) (hn : n = l.length) (hy : y.ev fr = .int k z) (hz : z = (j : Int)) (hj : j < l.length)
    (H : ∀ b o, rowGet h ⟨b, o, none⟩ 1 = some [.int .i64 l[j]] → AE B T fi prs (i + 1) r (put fr d (.pointer (some ⟨b, o, none⟩))) h m K) : AE B T fi prs i (⟨d, .iaS x y 1, none⟩ :: r) fr h m K := by
  obtain ⟨b, o, e, g⟩ := hI.row hj
  obtain ⟨p1, p2⟩ := p
  subst e hz hn
  exact E_iaS hx hy (by omega) (by omega) (by simpa using H b _ g)
theorem E_iaG {x y : KO} {p : Pl} {n j : Nat} {l : List G} {k : IntKind} {z : Int} (hx : x.ev fr = .slice p.1 n p.2) (hI : Gates S h p l) (hn : n = l.length) (hy : y.ev fr = .int k z) (hz : z = (j : Int)) (hj : j < l.length)
    (H : ∀ b o q, Ints S h q l[j].ws → rowGet h ⟨b, o, none⟩ 4 = some (gcells l[j] q) → AE B T fi prs (i + 1) r (put fr d (.pointer (some ⟨b, o, none⟩))) h m K) : AE B T fi prs i (⟨d, .iaS x y 4, none⟩ :: r) fr h m K := by
  obtain ⟨b, o, q, e, a, g⟩ := hI.row hj
  obtain ⟨p1, p2⟩ := p
  subst e hz hn
  exact E_iaS hx hy (by omega) (by omega) (by simpa using H b _ q a g)
section
variable {x y : KO} {k : IntKind} {a b : Int}
theorem E_lssS (hx : x.ev fr = .int k a) (hy : y.ev fr = .int k b) (H1 : a < b → AE B T fi prs (i + 1) r (put fr d (.bool true)) h m K) (H2 : ¬ a < b → AE B T fi prs (i + 1) r (put fr d (.bool false)) h m K) : AE B T fi prs i (⟨d, .bin .lss x y, none⟩ :: r) fr h m K :=
  E_lss hx hy fun c hc => by cases c with | false => exact H2 (by simpa using hc) | true => exact H1 (by simpa using hc)
theorem E_leqS (hx : x.ev fr = .int k a) (hy : y.ev fr = .int k b) (H1 : a ≤ b → AE B T fi prs (i + 1) r (put fr d (.bool true)) h m K) (H2 : ¬ a ≤ b → AE B T fi prs (i + 1) r (put fr d (.bool false)) h m K) : AE B T fi prs i (⟨d, .bin .leq x y, none⟩ :: r) fr h m K :=
  E_leq hx hy fun c hc => by cases c with | false => exact H2 (by simpa using hc) | true => exact H1 (by simpa using hc)
theorem E_gtrS (hx : x.ev fr = .int k a) (hy : y.ev fr = .int k b) (H1 : b < a → AE B T fi prs (i + 1) r (put fr d (.bool true)) h m K) (H2 : ¬ b < a → AE B T fi prs (i + 1) r (put fr d (.bool false)) h m K) : AE B T fi prs i (⟨d, .bin .gtr x y, none⟩ :: r) fr h m K :=
  E_gtr hx hy fun c hc => by cases c with | false => exact H2 (by simpa using hc) | true => exact H1 (by simpa using hc)
theorem E_geqS (hx : x.ev fr = .int k a) (hy : y.ev fr = .int k b) (H1 : b ≤ a → AE B T fi prs (i + 1) r (put fr d (.bool true)) h m K) (H2 : ¬ b ≤ a → AE B T fi prs (i + 1) r (put fr d (.bool false)) h m K) : AE B T fi prs i (⟨d, .bin .geq x y, none⟩ :: r) fr h m K :=
  E_geq hx hy fun c hc => by cases c with | false => exact H2 (by simpa using hc) | true => exact H1 (by simpa using hc)
theorem E_eqlS (hx : x.ev fr = .int k a) (hy : y.ev fr = .int k b) (H1 : a = b → AE B T fi prs (i + 1) r (put fr d (.bool true)) h m K) (H2 : ¬ a = b → AE B T fi prs (i + 1) r (put fr d (.bool false)) h m K) : AE B T fi prs i (⟨d, .bin .eql x y, none⟩ :: r) fr h m K :=
  E_eql hx hy fun c hc => by cases c with | false => exact H2 (by simpa using hc) | true => exact H1 (by simpa using hc)
theorem E_neqS (hx : x.ev fr = .int k a) (hy : y.ev fr = .int k b) (H1 : ¬ a = b → AE B T fi prs (i + 1) r (put fr d (.bool true)) h m K) (H2 : a = b → AE B T fi prs (i + 1) r (put fr d (.bool false)) h m K) : AE B T fi prs i (⟨d, .bin .neq x y, none⟩ :: r) fr h m K :=
  E_neq hx hy fun c hc => by cases c with | false => exact H2 (by simpa using hc) | true => exact H1 (by simpa using hc)
theorem E_lssV (hx : x.ev fr = .int k a) (hy : y.ev fr = .int k b) (H : AE B T fi prs (i + 1) r (put fr d (.bool (decide (a < b)))) h m K) : AE B T fi prs i (⟨d, .bin .lss x y, none⟩ :: r) fr h m K := E_lss hx hy fun c hc => hc ▸ H
theorem E_geqV (hx : x.ev fr = .int k a) (hy : y.ev fr = .int k b) (H : AE B T fi prs (i + 1) r (put fr d (.bool (decide (b ≤ a)))) h m K) : AE B T fi prs i (⟨d, .bin .geq x y, none⟩ :: r) fr h m K := E_geq hx hy fun c hc => by subst hc; exact H
theorem E_eqlV (hx : x.ev fr = .int k a) (hy : y.ev fr = .int k b) (H : AE B T fi prs (i + 1) r (put fr d (.bool (decide (a = b)))) h m K) : AE B T fi prs i (⟨d, .bin .eql x y, none⟩ :: r) fr h m K := E_eql hx hy fun c hc => by subst hc; rw [show (a == b) = decide (a = b) from rfl]; exact H
theorem E_neqV (hx : x.ev fr = .int k a) (hy : y.ev fr = .int k b) (H : AE B T fi prs (i + 1) r (put fr d (.bool (decide (a ≠ b)))) h m K) : AE B T fi prs i (⟨d, .bin .neq x y, none⟩ :: r) fr h m K := E_neq hx hy fun c hc => by
  have : (a != b) = decide (a ≠ b) := by simp [bne, BEq.beq]
  rw [this] at hc; subst hc; exact H
end
theorem E_notV {x : KO} {b c : Bool} (hx : x.ev fr = .bool b) (hc : (!b) = c) (H : AE B T fi prs (i + 1) r (put fr d (.bool c)) h m K) : AE B T fi prs i (⟨d, .not x, none⟩ :: r) fr h m K := E_not hx fun c' hc' => by subst hc' hc; exact H
theorem E_eqN {x : KO} {neg b : Bool} {kd : Nat} (hx : isNil kd (x.ev fr) = some b) (H : AE B T fi prs (i + 1) r (put fr d (.bool (neg != b))) h m K) : AE B T fi prs i (⟨d, .eqN neg kd x, none⟩ :: r) fr h m K := E_no (by simp only [kop, hx, Option.map_some]) H
theorem E_eqA {x y : KO} {neg b : Bool} {ks : List Nat} {u v : Array Value} (hx : x.ev fr = .agg u) (hy : y.ev fr = .agg v) (hb : cellsEq ks u.toList v.toList = some b) (H : AE B T fi prs (i + 1) r (put fr d (.bool (neg != b))) h m K) : AE B T fi prs i (⟨d, .eqA neg ks x y, none⟩ :: r) fr h m K := E_no (by simp only [kop, hx, hy, hb, Option.map_some]) H
theorem E_mk {z : List Value} {ps : List (Nat × Nat × KO)} {cs : List Value} (hc : overlay z (ps.map fun (o, s, x) => (o, s, x.ev fr)) = some cs) (H : AE B T fi prs (i + 1) r (put fr d (.agg cs.toArray)) h m K) : AE B T fi prs i (⟨d, .mk z ps, none⟩ :: r) fr h m K := E_no (by simp only [kop, hc]) H
theorem E_ext {x : KO} {j : Nat} {vs : Array Value} {v : Value} (hx : x.ev fr = .tuple vs) (hp : vs[j]? = some v) (H : AE B T fi prs (i + 1) r (put fr d v) h m K) : AE B T fi prs i (⟨d, .ext x j, none⟩ :: r) fr h m K := E_no (by simp only [kop, hx, hp, Option.map_some]) H
theorem E_fn {f : Nat} {a b : List KO} {u v : List Value} (hu : a.map (·.ev fr) = u) (hv : b.map (·.ev fr) = v) (H : AE B T fi prs (i + 1) r (put fr d (.func (.func f) u.toArray v.toArray)) h m K) : AE B T fi prs i (⟨d, .fn f a b, none⟩ :: r) fr h m K := E_no (by simp only [kop, hu, hv]) H
theorem E_iaA {x y : KO} {len sz b o j : Nat} {k : IntKind} {z : Int} (hx : x.ev fr = .pointer (some ⟨b, o, none⟩)) (hy : y.ev fr = .int k z) (hz : z = (j : Int)) (hj : j < len) (H : AE B T fi prs (i + 1) r (put fr d (.pointer (some ⟨b, o + j * sz, none⟩))) h m K) : AE B T fi prs i (⟨d, .iaA x y len sz, none⟩ :: r) fr h m K := by
  subst hz
  exact E_no (by simp only [kop, hx, hy]; rw [if_pos ⟨by omega, by omega⟩, add_pl, Int.toNat_natCast]) H
theorem E_nilc {x : KO} {a : Addr} (hx : x.ev fr = .pointer (some a)) (H : AE B T fi prs (i + 1) r (put fr d (.pointer (some a))) h m K) : AE B T fi prs i (⟨d, .nilc x, none⟩ :: r) fr h m K := E_no (by simp only [kop, hx]) H
/-- A call that leaves all as it was, and a bool of which either is looked at. -/
theorem E_callS {f : KO} {xs : List KO} {g : Nat} {args : List Value} {b : Bool} (hk : kop (.call f xs) fr h = some (.call g args)) (hr : Ret T g args h (.bool b) h) (H1 : b = true → AE noB T fi prs (i + 1) r (put fr d (.bool true)) h m K) (H2 : b = false → AE noB T fi prs (i + 1) r (put fr d (.bool false)) h m K) : AE noB T fi prs i (⟨d, .call f xs, none⟩ :: r) fr h m K := by
  cases b
  · exact E_callR rfl hk hr (.inr (List.prefix_refl _)) (H2 rfl)
  · exact E_callR rfl hk hr (.inr (List.prefix_refl _)) (H1 rfl)
theorem E_callP {f : KO} {xs : List KO} {g : Nat} {args : List Value} {P : Prop} [Decidable P] (hk : kop (.call f xs) fr h = some (.call g args)) (hr : Ret T g args h (.bool (decide P)) h) (H1 : P → AE noB T fi prs (i + 1) r (put fr d (.bool true)) h m K) (H2 : ¬ P → AE noB T fi prs (i + 1) r (put fr d (.bool false)) h m K) : AE noB T fi prs i (⟨d, .call f xs, none⟩ :: r) fr h m K :=
  E_callS hk hr (fun e => H1 (by simpa using e)) (fun e => H2 (by simpa using e))
theorem E_callV {f : KO} {xs : List KO} {g : Nat} {args : List Value} {v : Value} (hk : kop (.call f xs) fr h = some (.call g args)) (hr : Ret T g args h v h) (H : AE noB T fi prs (i + 1) r (put fr d v) h m K) : AE noB T fi prs i (⟨d, .call f xs, none⟩ :: r) fr h m K :=
  E_callR rfl hk hr (.inr (List.prefix_refl _)) H
/-- Slices of slices. -/
theorem Cells.take {sz n j : Nat} {p : Pl} {cells : List Value} (H : Cells S h sz p n cells) (hj : j ≤ n) : Cells S h sz p j (cells.take (j * sz)) := by
  obtain ⟨h1, h2, h3 | ⟨b, o, cs, wr, gr, e1, e2, e3, e4, e5⟩⟩ := H
  · exact ⟨by rw [List.length_take, h1]; exact Nat.min_eq_left (Nat.mul_le_mul_right _ hj), by omega, .inl h3⟩
  · refine ⟨by rw [List.length_take, h1]; exact Nat.min_eq_left (Nat.mul_le_mul_right _ hj), by omega, .inr ⟨b, o, cs, wr, gr, e1, e2, e3, e4, ?_⟩⟩
    by_cases h0 : j = 0
    · exact .inl h0
    · obtain ⟨a1, a2⟩ := e5.resolve_left (by omega)
      have := Nat.mul_le_mul_right sz hj
      refine .inr ⟨by omega, ?_⟩
      rw [← a2, List.take_take, Nat.min_eq_left this]
theorem Cells.drop {sz n j : Nat} {p : Pl} {cells : List Value} (H : Cells S h sz p n cells) (hj : j ≤ n) : Cells S h sz (if p.2 = j then p.1 else p.1.map (·.add (j * sz)), p.2 - j) (n - j) (cells.drop (j * sz)) := by
  obtain ⟨h1, h2, ⟨h3, h4⟩ | ⟨b, o, cs, wr, gr, e1, e2, e3, e4, e5⟩⟩ := H
  · obtain ⟨p1, p2⟩ := p
    simp only at h3 h4
    subst h3 h4
    have : n = 0 := by simpa using h2
    subst this
    have : j = 0 := by omega
    subst this
    exact ⟨by simpa using h1, Nat.le_refl _, .inl ⟨by simp, rfl⟩⟩
  · obtain ⟨p1, p2⟩ := p
    simp only at e1 h2
    subst e1
    refine ⟨by rw [List.length_drop, h1, Nat.sub_mul], by simp only; omega, .inr ?_⟩
    by_cases hc : p2 = j
    · exact ⟨b, o, cs, wr, gr, by simp [hc], e2, e3, e4, .inl (by omega)⟩
    · refine ⟨b, o + j * sz, cs, wr, gr, by simp [hc, add_pl], e2, e3, e4, ?_⟩
      by_cases h0 : n = j
      · exact .inl (by omega)
      · obtain ⟨a1, a2⟩ := e5.resolve_left (by omega)
        have := Nat.mul_le_mul_right sz hj
        refine .inr ⟨by rw [Nat.sub_mul]; omega, ?_⟩
        rw [← a2, List.drop_take, List.drop_drop, Nat.sub_mul]
theorem Cells.gr {sz n : Nat} {p : Pl} {cells : List Value} (H : Cells S h sz p n cells) : grOk h p.1 sz = true := by
  obtain ⟨h1, h2, ⟨h3, h4⟩ | ⟨b, o, cs, wr, gr, e1, e2, e3, e4, e5⟩⟩ := H
  · simp [grOk, h3]
  · rcases e4 with e4 | e4 <;> simp [grOk, e1, e3, e4]
theorem Ints.take {p : Pl} {l : List Int} (H : Ints S h p l) {j : Nat} (hj : j ≤ l.length) : Ints S h p (l.take j) := by
  have := Cells.take H hj
  unfold Ints
  rw [List.length_take, Nat.min_eq_left hj, List.map_take]
  simpa using this
theorem flat_take : ∀ (gs : List G) (ps : List Pl) (j : Nat), (flat gs ps).take (j * 4) = flat (gs.take j) (ps.take j)
  | _, _, 0 => by simp [flat]
  | [], _, _ => by simp [flat]
  | _ :: _, [], _ => by simp [flat]
  | g :: gs, p :: ps, j + 1 => by
    have := flat_take gs ps j
    have e2 : (j + 1) * 4 = 4 + j * 4 := by omega
    rw [e2]
    simp only [flat, List.zipWith_cons_cons, List.flatten_cons, List.take_succ_cons] at this ⊢
    rw [← this, List.take_append, List.take_of_length_le (by simp)]
    simp
theorem flat_drop : ∀ (gs : List G) (ps : List Pl) (j : Nat), (flat gs ps).drop (j * 4) = flat (gs.drop j) (ps.drop j)
  | _, _, 0 => by simp [flat]
  | [], _, _ => by simp [flat]
  | _ :: _, [], _ => by simp [flat]
  | g :: gs, p :: ps, j + 1 => by
    have := flat_drop gs ps j
    have e2 : (j + 1) * 4 = 4 + j * 4 := by omega
    rw [e2, ← List.drop_drop]
    simp only [flat, List.zipWith_cons_cons, List.flatten_cons, List.drop_succ_cons] at this ⊢
    rw [← this]
    rfl
theorem bnds_hi {n c j : Nat} {k : IntKind} (hj : j ≤ c) : bnds n c none (some (.int k (j : Int))) none = some (0, j, c) := by
  have h1 : (0 : Int) ≤ j ∧ (j : Int) ≤ c := by omega
  simp only [bnds, bnd?, bnd, if_pos h1, Int.toNat_natCast]
theorem bnds_lo {n c j : Nat} {k : IntKind} (hj : j ≤ n) (hn : n ≤ c) : bnds n c (some (.int k (j : Int))) none none = some (j, n, c) := by
  have h1 : (0 : Int) ≤ j ∧ (j : Int) ≤ n := by omega
  simp only [bnds, bnd?, bnd, if_pos h1, Int.toNat_natCast]
theorem bnds_lh {n c i j : Nat} {k k' : IntKind} (hij : i ≤ j) (hj : j ≤ c) : bnds n c (some (.int k (i : Int))) (some (.int k' (j : Int))) none = some (i, j, c) := by
  have h1 : (0 : Int) ≤ j ∧ (j : Int) ≤ c := by omega
  have h2 : (0 : Int) ≤ i ∧ (i : Int) ≤ j := by omega
  simp only [bnds, bnd?, bnd, if_pos h1, if_pos h2, Int.toNat_natCast]
theorem map_add0 {a : Option Addr} {sz : Nat} : a.map (fun x => x.add (0 * sz)) = a := by
  cases a with
  | none => rfl
  | some a => simp [Addr.add]
theorem Cells.le {sz n : Nat} {p : Pl} {cells : List Value} (H : Cells S h sz p n cells) : n ≤ p.2 := H.2.1
theorem E_slHi {x y : KO} {p : Pl} {n j sz : Nat} {k : IntKind} {z : Int} {cells : List Value} (hx : x.ev fr = .slice p.1 n p.2) (hI : Cells S h sz p n cells) (hy : y.ev fr = .int k z) (hz : z = (j : Int)) (hj : j ≤ n)
    (H : AE noB T fi prs (i + 1) r (put fr d (.slice p.1 j p.2)) h m K) : AE noB T fi prs i (⟨d, .slS x none (some y) none sz, none⟩ :: r) fr h m K := by
  subst hz
  have := hI.le
  refine E_look ?_ (.inl fun b hb => hb.elim) H
  simp only [kop, hx, hI.gr, if_true, Option.map_none, Option.map_some, hy, bnds_hi (Nat.le_trans hj this), Nat.sub_zero, map_add0, ite_self]
theorem E_slLo {x y : KO} {p : Pl} {n j sz : Nat} {k : IntKind} {z : Int} {cells : List Value} (hx : x.ev fr = .slice p.1 n p.2) (hI : Cells S h sz p n cells) (hy : y.ev fr = .int k z) (hz : z = (j : Int)) (hj : j ≤ n)
    (H : AE noB T fi prs (i + 1) r (put fr d (.slice (if p.2 = j then p.1 else p.1.map (·.add (j * sz))) (n - j) (p.2 - j))) h m K) : AE noB T fi prs i (⟨d, .slS x (some y) none none sz, none⟩ :: r) fr h m K := by
  subst hz
  have := hI.le
  refine E_look ?_ (.inl fun b hb => hb.elim) H
  simp only [kop, hx, hI.gr, if_true, Option.map_none, Option.map_some, hy, bnds_lo hj this]
theorem E_slHiI {x y : KO} {p : Pl} {n j : Nat} {k : IntKind} {z : Int} {l : List Int} (hx : x.ev fr = .slice p.1 n p.2) (hI : Ints S h p l) (hn : n = l.length) (hy : y.ev fr = .int k z) (hz : z = (j : Int)) (hj : j ≤ l.length)
    (H : Ints S h p (l.take j) → AE noB T fi prs (i + 1) r (put fr d (.slice p.1 (l.take j).length p.2)) h m K) : AE noB T fi prs i (⟨d, .slS x none (some y) none 1, none⟩ :: r) fr h m K := by
  subst hn
  have := H (hI.take hj)
  rw [List.length_take, Nat.min_eq_left hj] at this
  exact E_slHi hx hI hy hz hj this
theorem all_next {α : Type} {P : α → Prop} {l : List α} {g : Nat} (hg : g < l.length) (H : ∀ x ∈ l.take g, P x) (h1 : P l[g]) : ∀ x ∈ l.take (g + 1), P x := by
  rw [List.take_succ_eq_append_getElem hg]
  intro x hx
  rcases List.mem_append.1 hx with hx | hx
  · exact H x hx
  · simp at hx; subst hx; exact h1
theorem all_all {α : Type} {P : α → Prop} {l : List α} {g : Nat} (hg : ¬ ((g : Int) < (l.length : Int))) (H : ∀ x ∈ l.take g, P x) : ∀ x ∈ l, P x := by
  rwa [List.take_of_length_le (by omega)] at H
theorem nodup_take {l : List Int} {j : Nat} (hj : j < l.length) : (l.take (j + 1)).Nodup ↔ (l.take j).Nodup ∧ l[j] ∉ l.take j := by
  rw [List.take_succ_eq_append_getElem hj, List.nodup_append]
  constructor
  · rintro ⟨a, _, c⟩
    exact ⟨a, fun hm => c _ hm _ (by simp) rfl⟩
  · rintro ⟨a, b⟩
    refine ⟨a, by simp, fun x hx y hy e => ?_⟩
    simp at hy
    subst hy e
    exact b hx
section
variable {L : Heap} {x y : KO} {p : Pl} {n j : Nat} {k : IntKind} {z : Int}
theorem E_iaIb {l : List Int} (hx : x.ev fr = .slice p.1 n p.2) (hI : Ints S h p l) (hn : n = l.length) (hy : y.ev fr = .int k z) (hz : z = (j : Int)) (hj : j < l.length)
    (H : ∀ b o, rowGet h ⟨b, o, none⟩ 1 = some [.int .i64 l[j]] → AE B T fi prs (i + 1) r (put fr d (.pointer (some ⟨b, o, none⟩))) (h ++ L) m K) : AE B T fi prs i (⟨d, .iaS x y 1, none⟩ :: r) fr (h ++ L) m K := by
  obtain ⟨b, o, e, g⟩ := hI.row hj
  obtain ⟨p1, p2⟩ := p
  subst e hz hn
  exact E_iaS hx hy (by omega) (by omega) (by simpa using H b _ g)
theorem E_iaGb {l : List G} (hx : x.ev fr = .slice p.1 n p.2) (hI : Gates S h p l) (hn : n = l.length) (hy : y.ev fr = .int k z) (hz : z = (j : Int)) (hj : j < l.length)
    (H : ∀ b o q, Ints S h q l[j].ws → rowGet h ⟨b, o, none⟩ 4 = some (gcells l[j] q) → AE B T fi prs (i + 1) r (put fr d (.pointer (some ⟨b, o, none⟩))) (h ++ L) m K) : AE B T fi prs i (⟨d, .iaS x y 4, none⟩ :: r) fr (h ++ L) m K := by
  obtain ⟨b, o, q, e, a, g⟩ := hI.row hj
  obtain ⟨p1, p2⟩ := p
  subst e hz hn
  exact E_iaS hx hy (by omega) (by omega) (by simpa using H b _ q a g)
theorem E_slHiIb {l : List Int} (hx : x.ev fr = .slice p.1 n p.2) (hI : Ints S h p l) (hn : n = l.length) (hy : y.ev fr = .int k z) (hz : z = (j : Int)) (hj : j ≤ l.length)
    (H : Ints S h p (l.take j) → AE noB T fi prs (i + 1) r (put fr d (.slice p.1 (l.take j).length p.2)) (h ++ L) m K) : AE noB T fi prs i (⟨d, .slS x none (some y) none 1, none⟩ :: r) fr (h ++ L) m K :=
  E_slHiI hx hI.app hn hy hz hj fun _ => H (hI.take hj)
end
theorem app0 (H A : Heap) : H ++ A = H ++ (A ++ []) := by simp
theorem app3 (H A z L : Heap) : (H ++ (A ++ z)) ++ L = H ++ (A ++ (z ++ L)) := by simp
theorem AX_nil {c : KC} {Q : Ex → (Nat → Value) → Heap → List Nat → Prop} (H : AX T fi c fr (h ++ []) m Q) : AX T fi c fr h m Q := by rwa [List.append_nil] at H
theorem res_tmp {t : Nat} {v : Value} (e : fr t = v) : resOf h fr (.tmp t) = some v := by subst e; rfl
theorem res_cellN {L : Heap} {t k o n : Nat} {cs : List Value} (e : fr t = .pointer (some ⟨h.length + k, o, none⟩)) (hg : rowGet L ⟨k, o, none⟩ n = some cs) : resOf (h ++ L) fr (.cell t (some n)) = some (.agg cs.toArray) := by
  simp only [resOf, e, rowGet_own hg, Option.map_some]
theorem res1 {r1 : KRes} {a : Value} (h1 : resOf h fr r1 = some a) : resultsK h fr [r1] = some a := by
  simp [resultsK, h1]
theorem res2 {r1 r2 : KRes} {a b : Value} (h1 : resOf h fr r1 = some a) (h2 : resOf h fr r2 = some b) : resultsK h fr [r1, r2] = some (.tuple #[a, b]) := by
  simp [resultsK, h1, h2]
theorem res3 {r1 r2 r3 : KRes} {a b c : Value} (h1 : resOf h fr r1 = some a) (h2 : resOf h fr r2 = some b) (h3 : resOf h fr r3 = some c) : resultsK h fr [r1, r2, r3] = some (.tuple #[a, b, c]) := by
  simp [resultsK, h1, h2, h3]
/-- Twelve cells. -/
def bl (f : Nat → Bool) : List Value := [.bool (f 0), .bool (f 1), .bool (f 2), .bool (f 3), .bool (f 4), .bool (f 5), .bool (f 6), .bool (f 7), .bool (f 8), .bool (f 9), .bool (f 10), .bool (f 11)]
theorem bl_ext {f g : Nat → Bool} (H : ∀ i, i < 12 → f i = g i) : bl f = bl g := by
  simp only [bl, H 0 (by decide), H 1 (by decide), H 2 (by decide), H 3 (by decide), H 4 (by decide), H 5 (by decide), H 6 (by decide), H 7 (by decide), H 8 (by decide), H 9 (by decide), H 10 (by decide), H 11 (by decide)]
theorem bl_at {f : Nat → Bool} {j : Nat} (hj : j < 12) : (bl f)[j]? = some (.bool (f j)) := by
  have : j = 0 ∨ j = 1 ∨ j = 2 ∨ j = 3 ∨ j = 4 ∨ j = 5 ∨ j = 6 ∨ j = 7 ∨ j = 8 ∨ j = 9 ∨ j = 10 ∨ j = 11 := by omega
  rcases this with h | h | h | h | h | h | h | h | h | h | h | h <;> subst h <;> rfl
theorem bl_get {L : Heap} {k j : Nat} {f : Nat → Bool} {wr : Bool} {gr : Option Nat} (hk : L[k]? = some (.row (bl f) wr gr)) (hj : j < 12) : rowGet L ⟨k, 0 + j * 1, none⟩ 1 = some [.bool (f j)] := by
  unfold rowGet
  simp only [hk, Nat.zero_add, Nat.mul_one]
  rw [if_pos ⟨trivial, by show j + 1 ≤ 12; omega⟩]
  obtain ⟨h1, h2⟩ := List.getElem?_eq_some_iff.1 (bl_at (f := f) hj)
  rw [List.drop_eq_getElem_cons h1, h2]
  rfl
theorem bl_set {L : Heap} {k j : Nat} {f : Nat → Bool} {gr : Option Nat} {b : Bool} (hk : L[k]? = some (.row (bl f) true gr)) (hj : j < 12) : rowSet L ⟨k, 0 + j * 1, none⟩ [.bool b] = some (.row (bl fun i => if i = j then b else f i) true gr) := by
  unfold rowSet
  simp only [hk, Nat.zero_add, Nat.mul_one]
  rw [if_pos ⟨trivial, by show j + 1 ≤ 12; omega, rfl⟩]
  have : j = 0 ∨ j = 1 ∨ j = 2 ∨ j = 3 ∨ j = 4 ∨ j = 5 ∨ j = 6 ∨ j = 7 ∨ j = 8 ∨ j = 9 ∨ j = 10 ∨ j = 11 := by omega
  rcases this with h | h | h | h | h | h | h | h | h | h | h | h <;> subst h <;> rfl
theorem bl_eq {f g : Nat → Bool} [Decidable (∀ i, i < 12 → f i = g i)] : cellsEq [0, 0, 0, 0, 0, 0, 0, 0, 0, 0, 0, 0] (bl f) (bl g) = some (decide (∀ i, i < 12 → f i = g i)) := by
  have : (∀ i, i < 12 → f i = g i) ↔ f 0 = g 0 ∧ f 1 = g 1 ∧ f 2 = g 2 ∧ f 3 = g 3 ∧ f 4 = g 4 ∧ f 5 = g 5 ∧ f 6 = g 6 ∧ f 7 = g 7 ∧ f 8 = g 8 ∧ f 9 = g 9 ∧ f 10 = g 10 ∧ f 11 = g 11 := by
    constructor
    · intro H; exact ⟨H 0 (by decide), H 1 (by decide), H 2 (by decide), H 3 (by decide), H 4 (by decide), H 5 (by decide), H 6 (by decide), H 7 (by decide), H 8 (by decide), H 9 (by decide), H 10 (by decide), H 11 (by decide)⟩
    · rintro ⟨h0, h1, h2, h3, h4, h5, h6, h7, h8, h9, h10, h11⟩ j hj
      have : j = 0 ∨ j = 1 ∨ j = 2 ∨ j = 3 ∨ j = 4 ∨ j = 5 ∨ j = 6 ∨ j = 7 ∨ j = 8 ∨ j = 9 ∨ j = 10 ∨ j = 11 := by omega
      rcases this with h | h | h | h | h | h | h | h | h | h | h | h <;> subst h <;> assumption
  simp only [bl, cellsEq, cellEq, Option.some.injEq]
  rw [Bool.eq_iff_iff, decide_eq_true_iff, this]
  simp
theorem E_eqAP {x y : KO} {neg : Bool} {ks : List Nat} {u v : Array Value} {P : Prop} [Decidable P] (hx : x.ev fr = .agg u) (hy : y.ev fr = .agg v) (hb : cellsEq ks u.toList v.toList = some (decide P)) (H1 : P → AE B T fi prs (i + 1) r (put fr d (.bool (!neg))) h m K) (H2 : ¬ P → AE B T fi prs (i + 1) r (put fr d (.bool neg)) h m K) : AE B T fi prs i (⟨d, .eqA neg ks x y, none⟩ :: r) fr h m K := by
  refine E_eqA hx hy hb ?_
  by_cases hp : P
  · have := H1 hp
    rw [show decide P = true from decide_eq_true hp]
    cases neg <;> exact this
  · have := H2 hp
    rw [show decide P = false from decide_eq_false hp]
    cases neg <;> exact this
/-- A bool of which either is looked at. -/
theorem E_bs {e : Bool} (H1 : e = true → AE B T fi prs i r (put fr d (.bool true)) h m K) (H2 : e = false → AE B T fi prs i r (put fr d (.bool false)) h m K) : AE B T fi prs i r (put fr d (.bool e)) h m K := by
  cases e
  · exact H2 rfl
  · exact H1 rfl
section
variable {L : Heap}
theorem E_mkM (H : AE B T fi prs (i + 1) r (put fr d (.map (some (h.length + L.length)))) (h ++ (L ++ [.map [] 0])) m K) : AE B T fi prs i (⟨d, .mkM, none⟩ :: r) fr (h ++ L) m K :=
  E_add (v := .map (some (h ++ L).length)) (e := .new (.map [] 0)) rfl rfl (List.prefix_append _ _) (.inl fun b _ => ⟨rfl, by simp [rds]⟩) (by simpa [Eff.on] using H)
theorem E_ins {x y z : KO} {kd k cl : Nat} {es : List MapEntry} {key val : Value} (hpr : prs.any (fun p => p.1 = i ∨ p.2 = i) = false) (hm : x.ev fr = .map (some (h.length + k))) (hL : L[k]? = some (.map es cl)) (hk : y.ev fr = key) (hv : z.ev fr = val) (hi : isKey kd key = true) (hf : findK kd key es 0 = some none)
    (H : AE B T fi prs (i + 1) r (put fr d undef) (h ++ L.set k (.map (es ++ [{ key := key, val := val, born := cl }]) (cl + 1))) m K) : AE B T fi prs i (⟨d, .ins kd x y z, none⟩ :: r) fr (h ++ L) m K :=
  E_set (v := undef) (e := .upd (h.length + k) (.map (es ++ [{ key := key, val := val, born := cl }]) (cl + 1))) hpr rfl (by simp only [kop, hm, hk, hv, own_get, hL, hi, hf, if_true]) (by simpa [Eff.on, set_own] using H)
end
theorem E_lk {x y : KO} {kd b cl : Nat} {es : List MapEntry} {key zero : Value} {q : Option (Nat × Value)} (hm : x.ev fr = .map (some b)) (hL : h[b]? = some (.map es cl)) (hk : y.ev fr = key) (hi : isKey kd key = true) (hf : findK kd key es 0 = some q)
    (H : AE noB T fi prs (i + 1) r (put fr d (match q with | none => .tuple #[zero, .bool false] | some (_, v) => .tuple #[v, .bool true])) h m K) : AE noB T fi prs i (⟨d, .lk kd x y zero true, none⟩ :: r) fr h m K := by
  refine E_look ?_ (.inl fun b hb => hb.elim) H
  cases q with
  | none => simp only [kop, hm, hk, hi, hL, hf, if_true]
  | some q => obtain ⟨a, v⟩ := q; simp only [kop, hm, hk, hi, hL, hf, if_true]
/-- A call that makes objects. -/
theorem E_callX {f : KO} {xs : List KO} {g : Nat} {args : List Value} {v : Value} {L X : Heap} (hk : kop (.call f xs) fr (h ++ L) = some (.call g args)) (hr : Ret T g args (h ++ L) v (h ++ L ++ X)) (H : AE noB T fi prs (i + 1) r (put fr d v) ((h ++ (L ++ X)) ++ []) m K) : AE noB T fi prs i (⟨d, .call f xs, none⟩ :: r) fr (h ++ L) m K :=
  E_callR rfl hk hr (.inr (List.prefix_append _ _)) (by simpa using H)
theorem Ret_grow {f np nt : Nat} {res : List KRes} {body : KC} {args : List Value} {h : Heap} (Q : Value → Heap → Prop) (hT : T f = some ⟨np, nt, res, body⟩) (hl : args.length = np)
    (H : AX T ⟨f, nt, none⟩ body (frOf args) (h ++ []) [] (FinR res h fun u k => ∃ X, k = h ++ X ∧ Q u X)) (hi : isIns body = false := by rfl) : ∃ u X, Ret T f args h u (h ++ X) ∧ Q u X := by
  obtain ⟨n, u, k, e, X, rfl, q⟩ := ACall_own hT hl (H.mono fun _ _ _ _ x => FinR_fin x) hi
  exact ⟨u, X, ⟨n, e⟩, q⟩
theorem forget_any {h h' : Heap} {u : Value} (hp : h <+: h') : ∃ X, forget h u h' = h ++ X := by
  unfold forget
  split
  · exact ⟨[], by simp⟩
  · obtain ⟨t, rfl⟩ := hp; exact ⟨t, rfl⟩
theorem forget_nil {h h' : Heap} {u : Value} (hf : flat2 u = true) (hp : h <+: h') : forget h u h' = h ++ [] := by rw [forget_flat hf hp, List.append_nil]
theorem Ints.nil {S : Nat → Prop} {h : Heap} : Ints S h (none, 0) [] := ⟨rfl, Nat.le_refl _, .inl ⟨rfl, rfl⟩⟩
theorem Gates.nil {S : Nat → Prop} {h : Heap} : Gates S h (none, 0) [] := ⟨[], rfl, ⟨rfl, Nat.le_refl _, .inl ⟨rfl, rfl⟩⟩, fun i h1 => by simp at h1⟩
theorem Ints.grow {S : Nat → Prop} {h L X : Heap} {p : Pl} {l : List Int} (H : Ints S (h ++ L) p l) : Ints S (h ++ (L ++ X)) p l := by rw [← List.append_assoc]; exact H.app
end Go.Canon
namespace Go.Canon
set_option linter.unusedVariables false
set_option linter.unusedSimpArgs false
open Go
open Classical
variable {B : Nat → Prop} {T : Nat → Option KFunc} {fi : FI} {prs : List (Nat × Nat)} {i : Nat} {d : Option Nat} {r : List KOper} {fr : Nat → Value} {h : Heap} {m : List Nat} {K : (Nat → Value) → Heap → List Nat → Prop} {S : Nat → Prop}
def segB (n k : Nat) : Nat → Prop := fun b => n ≤ b ∧ b < n + k
def IntsZ (n : Nat) (X : Heap) (p : Pl) (l : List Int) : Prop := ∀ A : Heap, A.length = n → Ints (segB n X.length) (A ++ X) p l
/-- Is the block b not the row of p's? -/
def offP (p : Pl) (b : Nat) : Prop := ∀ a, p.1 = some a → a.block ≠ b
/-- Two places in rows of their own. -/
def dis (p q : Pl) : Prop := ∀ a b, p.1 = some a → q.1 = some b → a.block ≠ b.block
/-- Gates all of whose rows are different. -/
def GatesP (S : Nat → Prop) (h : Heap) (p : Pl) (gs : List G) : Prop :=
  ∃ ps : List Pl, ps.length = gs.length ∧ Cells S h 4 p gs.length (flat gs ps) ∧ (∀ i (h1 : i < gs.length) (h2 : i < ps.length), Ints (fun b => S b ∧ offP p b) h ps[i] gs[i].ws) ∧ ∀ i j (h1 : i < ps.length) (h2 : j < ps.length), i ≠ j → dis ps[i] ps[j]
theorem GatesP.gates {S : Nat → Prop} {h : Heap} {p : Pl} {gs : List G} (H : GatesP S h p gs) : Gates S h p gs :=
  let ⟨ps, a, b, c, _⟩ := H; ⟨ps, a, b, fun i h1 h2 => (c i h1 h2).congr (fun _ x => x.1) fun _ _ _ => rfl⟩
theorem GatesP.nil {S : Nat → Prop} {h : Heap} : GatesP S h (none, 0) [] := ⟨[], rfl, ⟨rfl, Nat.le_refl _, .inl ⟨rfl, rfl⟩⟩, fun i h1 => by simp at h1, fun i j h1 => by simp at h1⟩
theorem GatesP.congr {S S' : Nat → Prop} {h h' : Heap} {p : Pl} {l : List G} (H : GatesP S h p l) (hs : ∀ b, S b → S' b) (hh : ∀ b, S b → b < h.length → h'[b]? = h[b]?) : GatesP S' h' p l :=
  let ⟨ps, e, a, b, d⟩ := H; ⟨ps, e, a.congr hs hh, fun i h1 h2 => (b i h1 h2).congr (fun _ x => ⟨hs _ x.1, x.2⟩) fun b hb => hh b hb.1, d⟩
theorem GatesP.app {S : Nat → Prop} {h L : Heap} {p : Pl} {l : List G} (H : GatesP S h p l) : GatesP S (h ++ L) p l := H.congr (fun _ x => x) fun _ _ hb => pre_get hb
def GatesZ (n : Nat) (X : Heap) (p : Pl) (l : List G) : Prop := ∀ A : Heap, A.length = n → GatesP (segB n X.length) (A ++ X) p l
theorem IntsZ.at {n : Nat} {h L X : Heap} {p : Pl} {l : List Int} (H : IntsZ n X p l) (hn : (h ++ L).length = n) : Ints allB (h ++ (L ++ X)) p l := by rw [← List.append_assoc]; exact (H _ hn).all
theorem GatesZ.at {n : Nat} {h L X : Heap} {p : Pl} {l : List G} (H : GatesZ n X p l) (hn : (h ++ L).length = n) : Gates allB (h ++ (L ++ X)) p l := by rw [← List.append_assoc]; exact (H _ hn).gates.all
theorem IntsZ.app {n : Nat} {X W : Heap} {p : Pl} {l : List Int} (H : IntsZ n X p l) : IntsZ n (X ++ W) p l := by
  intro A hA
  rw [← List.append_assoc]
  exact (H A hA).app.congr (fun b hb => ⟨hb.1, by have := hb.2; simp only [List.length_append]; omega⟩) fun _ _ _ => rfl
theorem GatesZ.app {n : Nat} {X W : Heap} {p : Pl} {l : List G} (H : GatesZ n X p l) : GatesZ n (X ++ W) p l := by
  intro A hA
  rw [← List.append_assoc]
  exact (H A hA).app.congr (fun b hb => ⟨hb.1, by have := hb.2; simp only [List.length_append]; omega⟩) fun _ _ _ => rfl
theorem IntsZ.pre {n k : Nat} {X W : Heap} {p : Pl} {l : List Int} (H : IntsZ k X p l) (hk : k = n + W.length) : IntsZ n (W ++ X) p l := by
  intro A hA
  rw [← List.append_assoc]
  exact (H (A ++ W) (by simp; omega)).congr (fun b hb => ⟨by have := hb.1; omega, by have := hb.2; simp only [List.length_append]; omega⟩) fun _ _ _ => rfl
theorem GatesZ.pre {n k : Nat} {X W : Heap} {p : Pl} {l : List G} (H : GatesZ k X p l) (hk : k = n + W.length) : GatesZ n (W ++ X) p l := by
  intro A hA
  rw [← List.append_assoc]
  exact (H (A ++ W) (by simp; omega)).congr (fun b hb => ⟨by have := hb.1; omega, by have := hb.2; simp only [List.length_append]; omega⟩) fun _ _ _ => rfl
def Grown (sz n : Nat) (Z : Heap) (p : Pl) (k : Nat) (cells : List Value) : Prop :=
  cells.length = k * sz ∧ ((p = (none, 0) ∧ k = 0) ∨ ∃ j gr, p = (some ⟨n + j, 0, none⟩, k) ∧ Z[j]? = some (.row cells true gr) ∧ (gr = none ∨ gr = some sz))
theorem Grown.nil {sz n : Nat} {Z : Heap} : Grown sz n Z (none, 0) 0 [] := ⟨by simp, .inl ⟨rfl, rfl⟩⟩
theorem Grown.app {sz n k : Nat} {Z W : Heap} {p : Pl} {cells : List Value} (H : Grown sz n Z p k cells) : Grown sz n (Z ++ W) p k cells := by
  obtain ⟨a, b | ⟨j, gr, e, c, d⟩⟩ := H
  · exact ⟨a, .inl b⟩
  · exact ⟨a, .inr ⟨j, gr, e, by rw [List.getElem?_append_left (List.getElem?_eq_some_iff.1 c).1]; exact c, d⟩⟩
theorem Grown.cells {sz n k : Nat} {Z A : Heap} {p : Pl} {cells : List Value} (H : Grown sz n Z p k cells) (hA : A.length = n) : Cells (segB n Z.length) (A ++ Z) sz p k cells := by
  obtain ⟨a, ⟨b, c⟩ | ⟨j, gr, e, c, d⟩⟩ := H
  · subst b c
    exact ⟨a, Nat.le_refl _, .inl ⟨rfl, rfl⟩⟩
  · have hj := (List.getElem?_eq_some_iff.1 c).1
    subst e
    refine ⟨a, Nat.le_refl _, .inr ⟨n + j, 0, cells, true, gr, rfl, ⟨by omega, by omega⟩, ?_, d, .inr ⟨by omega, ?_⟩⟩⟩
    · rw [List.getElem?_append_right (by omega), show n + j - A.length = j by omega]; exact c
    · rw [List.drop_zero, ← a, List.take_length]
theorem Grown.le {sz n k : Nat} {Z : Heap} {p : Pl} {cells : List Value} (H : Grown sz n Z p k cells) : p.2 = k := by
  obtain ⟨a, ⟨b, c⟩ | ⟨j, gr, e, c, d⟩⟩ := H
  · subst b c; rfl
  · subst e; rfl
theorem E_appZ {s x : KO} {sz bytes n k kx cx : Nat} {ax : Option Addr} {p : Pl} {cells new : List Value} {Bs Z : Heap} (hn : Bs.length = n) (ho : Grown sz n Z p k cells) (hs : s.ev fr = .slice p.1 k p.2) (hx : x.ev fr = .slice ax kx cx)
    (hnew : firstC (Bs ++ Z) sz kx (.slice ax kx cx) = some new) (hkx : kx ≠ 0) (hroom : (k + kx) * bytes ≤ roomB) (hcell : new.all isCell = true) (hlen : new.length = kx * sz) (hpr : prs.any (fun p => p.1 = i ∨ p.2 = i) = false)
    (H : ∀ Z', Z'.length = Z.length + 1 → Grown sz n Z' (some ⟨n + Z.length, 0, none⟩, k + kx) (k + kx) (cells ++ new) → (∀ i, i < Z.length → p.1 ≠ some ⟨n + i, 0, none⟩ → Z'[i]? = Z[i]?) →
      AE B T fi prs (i + 1) r (put fr d (.slice (some ⟨n + Z.length, 0, none⟩) (k + kx) (k + kx))) (Bs ++ Z') m K) : AE B T fi prs i (⟨d, .app s x sz bytes, none⟩ :: r) fr (Bs ++ Z) m K := by
  have hBZ : (Bs ++ Z).length = n + Z.length := by simp; omega
  have hpk := ho.le
  obtain ⟨a, ⟨b, c⟩ | ⟨j, gr, e, c, dd⟩⟩ := id ho
  · subst b c
    have hc0 : cells = [] := by simpa using a
    subst hc0
    have := H (Z ++ [.row ([] ++ new) true (some sz)]) (by simp) ⟨by simp [hlen], .inr ⟨Z.length, some sz, rfl, by simp, .inr rfl⟩⟩ (fun i hi _ => List.getElem?_append_left hi)
    refine E_set (v := .slice (some ⟨(Bs ++ Z).length, 0, none⟩) (0 + kx) (0 + kx)) (e := .new (.row ([] ++ new) true (some sz))) hpr rfl ?_ ?_
    · simp only [kop, hs, hx, kapp, hnew]
      rw [if_neg (by omega), if_neg (by omega)]
      simp [firstC]
    · simp only [Eff.on]
      rw [List.append_assoc, hBZ]
      exact this
  · have hj := (List.getElem?_eq_some_iff.1 c).1
    subst e
    have hrow : (Bs ++ Z)[n + j]? = some (.row cells true gr) := by rw [List.getElem?_append_right (by omega), show n + j - Bs.length = j by omega]; exact c
    have hold : firstC (Bs ++ Z) sz k (.slice (some ⟨n + j, 0, none⟩) k k) = some cells := by
      show (if k * sz = 0 then some [] else rowGet (Bs ++ Z) ⟨n + j, 0, none⟩ (k * sz)) = some cells
      split
      · rename_i h0
        have : cells = [] := List.length_eq_zero_iff.1 (by omega)
        rw [this]
      · unfold rowGet
        simp only [hrow, Nat.zero_add]
        rw [if_pos ⟨trivial, by omega⟩, List.drop_zero, ← a, List.take_length]
    rcases dd with dd | dd
    · subst dd
      have := H (Z ++ [.row (cells ++ new) true (some sz)]) (by simp) ⟨by simp [hlen, a, Nat.add_mul], .inr ⟨Z.length, some sz, rfl, by simp, .inr rfl⟩⟩ (fun i hi _ => List.getElem?_append_left hi)
      refine E_set (v := .slice (some ⟨(Bs ++ Z).length, 0, none⟩) (k + kx) (k + kx)) (e := .new (.row (cells ++ new) true (some sz))) hpr rfl ?_ ?_
      · simp only [kop, hs, hx, kapp, hnew]
        rw [if_neg (by omega), if_neg (by omega)]
        simp only [hold, hrow]
      · simp only [Eff.on]
        rw [List.append_assoc, hBZ]
        exact this
    · subst dd
      have := H (Z.set j .gone ++ [.row (cells ++ new) true (some sz)]) (by simp) ⟨by simp [hlen, a, Nat.add_mul], .inr ⟨Z.length, some sz, rfl, by simp, .inr rfl⟩⟩ (fun i hi hne => by
        rw [List.getElem?_append_left (by simpa using hi), List.getElem?_set_ne]
        intro e; exact hne (by rw [e]))
      refine E_set (v := .slice (some ⟨(Bs ++ Z).length, 0, none⟩) (k + kx) (k + kx)) (e := .kill (n + j) (.row (cells ++ new) true (some sz))) hpr rfl ?_ ?_
      · simp only [kop, hs, hx, kapp, hnew]
        rw [if_neg (by omega), if_neg (by omega)]
        simp only [hold, hrow]
        rw [if_pos ⟨trivial, hcell⟩]
      · simp only [Eff.on]
        rw [hBZ, List.set_append_right _ _ (by omega), List.append_assoc, show n + j - Bs.length = j by omega]
        exact this
theorem E_hp {ops : List KOper} {h h' : Heap} (e : h = h') (H : AE B T fi prs i ops fr h' m K) : AE B T fi prs i ops fr h m K := e ▸ H
theorem AX_hp {c : KC} {h h' : Heap} {Q : Ex → (Nat → Value) → Heap → List Nat → Prop} (e : h = h') (H : AX T fi c fr h' m Q) : AX T fi c fr h m Q := e ▸ H
def Bld (n : Nat) (Z : Heap) (p : Pl) (gs : List G) : Prop :=
  ∃ ps : List Pl, ps.length = gs.length ∧ Grown 4 n Z p gs.length (flat gs ps) ∧ (∀ i (h1 : i < gs.length) (h2 : i < ps.length), ∀ A : Heap, A.length = n → Ints (fun b => segB n Z.length b ∧ offP p b) (A ++ Z) ps[i] gs[i].ws) ∧ ∀ i j (h1 : i < ps.length) (h2 : j < ps.length), i ≠ j → dis ps[i] ps[j]
theorem Bld.nil {n : Nat} {Z : Heap} : Bld n Z (none, 0) [] := ⟨[], rfl, Grown.nil, fun i h1 => by simp at h1, fun i j h1 => by simp at h1⟩
theorem Bld.gates {n : Nat} {Z : Heap} {p : Pl} {gs : List G} (H : Bld n Z p gs) : GatesZ n Z p gs := by
  intro A hA
  obtain ⟨ps, a, b, c, d⟩ := H
  exact ⟨ps, a, b.cells hA, fun i h1 h2 => c i h1 h2 A hA, d⟩
theorem flat_snoc : ∀ (gs : List G) (ps : List Pl) (g : G) (p : Pl), ps.length = gs.length → flat (gs ++ [g]) (ps ++ [p]) = flat gs ps ++ gcells g p
  | [], [], g, p, _ => by simp [flat]
  | x :: gs, y :: ps, g, p, e => by
    have := flat_snoc gs ps g p (by simpa using e)
    simp only [flat, List.cons_append, List.zipWith_cons_cons, List.flatten_cons, List.append_assoc] at this ⊢
    rw [this]
  | [], _ :: _, _, _, e => by simp at e
  | _ :: _, [], _, _, e => by simp at e
/-- One more gate. -/
theorem Bld.snoc {n : Nat} {Z Z' : Heap} {p q : Pl} {gs : List G} {g : G} {ps : List Pl} (a : ps.length = gs.length) (c : ∀ i (h1 : i < gs.length) (h2 : i < ps.length), ∀ A : Heap, A.length = n → Ints (fun b => segB n Z.length b ∧ offP p b) (A ++ Z) ps[i] gs[i].ws) (hl : Z'.length = Z.length + 1)
    (ho : Grown 4 n Z' (some ⟨n + Z.length, 0, none⟩, gs.length + 1) (gs.length + 1) (flat gs ps ++ gcells g q))
    (hk : ∀ i, i < Z.length → p.1 ≠ some ⟨n + i, 0, none⟩ → Z'[i]? = Z[i]?) (hq : ∀ A : Heap, A.length = n → Ints (fun b => segB n Z.length b ∧ offP p b) (A ++ Z) q g.ws) (dd : ∀ i j (h1 : i < ps.length) (h2 : j < ps.length), i ≠ j → dis ps[i] ps[j]) (dq : ∀ i (h1 : i < ps.length), dis ps[i] q ∧ dis q ps[i]) : Bld n Z' (some ⟨n + Z.length, 0, none⟩, gs.length + 1) (gs ++ [g]) := by
  have key : ∀ (w : Pl) (l : List Int), (∀ A : Heap, A.length = n → Ints (fun b => segB n Z.length b ∧ offP p b) (A ++ Z) w l) → ∀ A : Heap, A.length = n → Ints (fun b => segB n Z'.length b ∧ offP (some ⟨n + Z.length, 0, none⟩, gs.length + 1) b) (A ++ Z') w l := by
    intro w l hw A hA
    refine (hw A hA).congr (fun b hb => ⟨⟨hb.1.1, by have := hb.1.2; omega⟩, ?_⟩) fun b hb _ => ?_
    · intro a ha
      simp only [Option.some.injEq] at ha
      subst ha
      have := hb.1.2
      simp only
      omega
    · have h1 := hb.1.1
      have h2 := hb.1.2
      rw [List.getElem?_append_right (by omega), List.getElem?_append_right (by omega)]
      refine hk _ (by omega) fun e => ?_
      have := hb.2 _ e
      simp only at this
      omega
  refine ⟨ps ++ [q], by simp [a], ?_, ?_, ?_⟩
  · rw [List.length_append, flat_snoc _ _ _ _ a]
    exact ho
  · intro i h1 h2 A hA
    by_cases hi : i < gs.length
    · rw [List.getElem_append_left hi, List.getElem_append_left (by omega)]
      exact key _ _ (c i hi (by omega)) A hA
    · have : i = gs.length := by simp at h1; omega
      subst this
      rw [List.getElem_append_right (by omega), List.getElem_append_right (by omega)]
      simp only [a, Nat.sub_self, List.getElem_cons_zero]
      exact key _ _ hq A hA
  · intro i j h1 h2 hij
    by_cases hi : i < ps.length
    · by_cases hj : j < ps.length
      · rw [List.getElem_append_left hi, List.getElem_append_left hj]; exact dd i j hi hj hij
      · have : j = ps.length := by simp at h2; omega
        subst this
        rw [List.getElem_append_left hi, List.getElem_append_right (by omega)]
        simpa using (dq i hi).1
    · have : i = ps.length := by simp at h1; omega
      subst this
      have hj : j < ps.length := by simp at h2; omega
      rw [List.getElem_append_left hj, List.getElem_append_right (by omega)]
      simpa using (dq j hj).2
/-- The append that puts one more gate behind. -/
theorem E_appG {s x : KO} {n cx b o : Nat} {p q : Pl} {gs gs' : List G} {g : G} {h0 h A Z W : Heap} (he : h0 = h ++ (A ++ (Z ++ W))) (hgs : gs' = gs ++ [g]) (hn : (h ++ A).length = n) (hb : Bld n Z p gs) (hs : s.ev fr = .slice p.1 gs.length p.2) (hx : x.ev fr = .slice (some ⟨b, o, none⟩) 1 cx)
    (hnew : rowGet h0 ⟨b, o, none⟩ 4 = some (gcells g q)) (hq : ∀ A : Heap, A.length = n → Ints (segB (n + Z.length) W.length) (A ++ (Z ++ W)) q g.ws) (hroom : gs.length < 4294967296) (hpr : prs.any (fun p => p.1 = i ∨ p.2 = i) = false)
    (H : ∀ Z' p', Bld n Z' p' gs' → AE B T fi prs (i + 1) r (put fr d (.slice p'.1 gs'.length p'.2)) (h ++ (A ++ Z')) m K) : AE B T fi prs i (⟨d, .app s x 4 48, none⟩ :: r) fr h0 m K := by
  obtain ⟨ps0, a0, b0, c0, dd0⟩ := id hb
  have hlt : ∀ a, p.1 = some a → a.block < n + Z.length := by
    intro ad ha
    rcases b0.2 with ⟨h1, _⟩ | ⟨j, gr, h1, h2, _⟩
    · rw [h1] at ha; cases ha
    · rw [h1] at ha
      injection ha with ha
      subst ha
      have := (List.getElem?_eq_some_iff.1 h2).1
      simp only
      omega
  have hpl : ∀ i (h1 : i < ps0.length) a, ps0[i].1 = some a → a.block < n + Z.length := by
    intro i h1 ad ha
    obtain ⟨_, _, ⟨h3, _⟩ | ⟨b, o, cs, wr, gr, e1, e2, _⟩⟩ := c0 i (by omega) h1 (List.replicate n .gone) (by simp)
    · rw [h3] at ha; cases ha
    · rw [e1] at ha; injection ha with ha; subst ha; have := e2.1.2; simp only; omega
  have hqg : ∀ a, q.1 = some a → n + Z.length ≤ a.block := by
    intro ad ha
    obtain ⟨_, _, ⟨h3, _⟩ | ⟨b, o, cs, wr, gr, e1, e2, _⟩⟩ := hq (List.replicate n .gone) (by simp)
    · rw [h3] at ha; cases ha
    · rw [e1] at ha; injection ha with ha; subst ha; exact e2.1
  subst he hgs
  rw [← List.append_assoc] at hnew ⊢
  have b1 : Grown 4 n (Z ++ W) p gs.length (flat gs ps0) := b0.app
  have c1 : ∀ i (h1 : i < gs.length) (h2 : i < ps0.length), ∀ A : Heap, A.length = n → Ints (fun b => segB n (Z ++ W).length b ∧ offP p b) (A ++ (Z ++ W)) ps0[i] gs[i].ws := by
    intro i h1 h2 A hA
    rw [← List.append_assoc]
    exact (c0 i h1 h2 A hA).app.congr (fun b hb => ⟨⟨hb.1.1, by have := hb.1.2; simp only [List.length_append]; omega⟩, hb.2⟩) fun _ _ _ => rfl
  refine E_appZ (kx := 1) (new := gcells g q) hn b1 hs hx (by show (if 1 * 4 = 0 then some [] else rowGet (h ++ A ++ (Z ++ W)) ⟨_, o, none⟩ (1 * 4)) = _; exact hnew) (by decide) ?_ rfl rfl hpr ?_
  · simp only [roomB]; omega
  · intro Z' hl ho hk
    have := H Z' _ (Bld.snoc a0 c1 hl ho hk (fun A hA => (hq A hA).congr (fun b hb => ⟨⟨by have := hb.1; omega, by have := hb.2; simp only [List.length_append]; omega⟩, fun ad ha e => by have h1 := hlt ad ha; have h2 := hb.1; omega⟩) fun _ _ _ => rfl) dd0 (fun i h1 => ⟨fun x y hx hy e => by have := hpl i h1 x hx; have := hqg y hy; omega, fun x y hx hy e => by have := hqg x hx; have := hpl i h1 y hy; omega⟩))
    have e : (gs ++ [g]).length = gs.length + 1 := by simp
    rw [e, ← List.append_assoc] at this
    exact this
/-- What a call has made behind a list that is being made. -/
theorem IntsZ.inside {k n : Nat} {X W R Z : Heap} {q : Pl} {l : List Int} (H : IntsZ k X q l) (hk : k = n + Z.length + R.length) : ∀ A : Heap, A.length = n → Ints (segB (n + Z.length) (R ++ (X ++ W)).length) (A ++ (Z ++ (R ++ (X ++ W)))) q l := by
  intro A hA
  have := H (A ++ Z ++ R) (by simp; omega)
  rw [show A ++ (Z ++ (R ++ (X ++ W))) = (A ++ Z ++ R ++ X) ++ W by simp]
  exact this.app.congr (fun b hb' => ⟨by have := hb'.1; omega, by have := hb'.2; simp only [List.length_append]; omega⟩) fun _ _ _ => rfl
theorem GatesZ.none {n : Nat} {X : Heap} {p : Pl} {l : List G} (H : GatesZ n X p l) (hp : p.1 = none) : GatesZ n [] p l := by
  intro A hA
  obtain ⟨ps, h0, ⟨h1, h2, h3 | ⟨b, o, cs, wr, gr, e1, _⟩⟩, h4, h6⟩ := H A hA
  · exact ⟨ps, h0, ⟨h1, h2, .inl h3⟩, fun i h5 => by omega, h6⟩
  · rw [hp] at e1; cases e1
/-- A function's end that hands back a list of its own. -/
theorem leafG {h h' A Z : Heap} {u : Value} {n : Nat} {p : Pl} {gs : List G} (he : h' = h ++ (A ++ Z)) (hz : GatesZ n Z p gs) (hn : n = h.length + A.length) (hf : flat2 u = true → p.1 = none) : ∃ X, forget h u h' = h ++ X ∧ GatesZ h.length X p gs := by
  subst he
  by_cases hu : flat2 u = true
  · exact ⟨[], forget_nil hu (List.prefix_append _ _), by have := (hz.none (hf hu)).app (W := []); intro A hA; obtain ⟨ps, h0, ⟨h1, h2, h3 | ⟨b, o, cs, wr, gr, e1, _⟩⟩, h4, h6⟩ := hz (List.replicate n .gone) (by simp); exact ⟨ps, h0, ⟨h1, h2, .inl h3⟩, fun i h5 => by omega, h6⟩; rw [hf hu] at e1; cases e1⟩
  · exact ⟨A ++ Z, forget_more (by simpa using hu), hz.pre hn⟩
theorem leafI {h h' A Z : Heap} {u : Value} {n : Nat} {p : Pl} {l : List Int} (he : h' = h ++ (A ++ Z)) (hz : IntsZ n Z p l) (hn : n = h.length + A.length) (hf : flat2 u = true → p.1 = none) : ∃ X, forget h u h' = h ++ X ∧ IntsZ h.length X p l := by
  subst he
  by_cases hu : flat2 u = true
  · refine ⟨[], forget_nil hu (List.prefix_append _ _), ?_⟩
    intro A hA
    obtain ⟨h1, h2, h3 | ⟨b, o, cs, wr, gr, e1, _⟩⟩ := hz (List.replicate n .gone) (by simp)
    · exact ⟨h1, h2, .inl h3⟩
    · rw [hf hu] at e1; cases e1
  · exact ⟨A ++ Z, forget_more (by simpa using hu), hz.pre hn⟩
section
variable {L : Heap}
theorem E_mkS {z : List Value} {n : Nat} {ps : List (Nat × Nat × KO)} {cs : List Value} (hc : overlay z (ps.map fun (o, s, x) => (o, s, x.ev fr)) = some cs) (H : AE B T fi prs (i + 1) r (put fr d (.slice (some ⟨h.length + L.length, 0, none⟩) n n)) (h ++ (L ++ [.row cs true none])) m K) : AE B T fi prs i (⟨d, .mkS z n ps, none⟩ :: r) fr (h ++ L) m K :=
  E_add (v := .slice (some ⟨(h ++ L).length, 0, none⟩) n n) (e := .new (.row cs true none)) rfl (by simp only [kop, hc]) (List.prefix_append _ _) (.inl fun b _ => ⟨rfl, by simp [rds]⟩) (by simpa [Eff.on] using H)
/-- Something behind an empty slice's literal. -/
theorem E_app0 {s x : KO} {sz bytes k kx cx : Nat} {ax : Option Addr} {new : List Value} (hs : s.ev fr = .slice (some ⟨h.length + k, 0, none⟩) 0 0) (hL : L[k]? = some (.row [] true none)) (hx : x.ev fr = .slice ax kx cx)
    (hnew : firstC (h ++ L) sz kx (.slice ax kx cx) = some new) (hroom : kx * bytes ≤ roomB) (hlen : new.length = kx * sz)
    (H : ∀ (W : Heap) (p' : Pl), (kx = 0 ∧ p' = (some ⟨h.length + k, 0, none⟩, 0) ∧ W = [] ∨ kx ≠ 0 ∧ p' = (some ⟨h.length + L.length, 0, none⟩, kx) ∧ W = [.row new true (some sz)]) → AE noB T fi prs (i + 1) r (put fr d (.slice p'.1 kx p'.2)) (h ++ (L ++ W)) m K) : AE noB T fi prs i (⟨d, .app s x sz bytes, none⟩ :: r) fr (h ++ L) m K := by
  have hrow : (h ++ L)[h.length + k]? = some (.row [] true none) := by rw [own_get]; exact hL
  by_cases h0 : kx = 0
  · subst h0
    have hn0 : new = [] := by simpa using hlen
    subst hn0
    refine E_add (v := .slice (some ⟨h.length + k, 0, none⟩) 0 0) (e := .no) rfl ?_ (List.prefix_refl _) (.inl fun b hb => hb.elim) ?_
    · simp only [kop, hs, hx, kapp, hnew]
      rfl
    · have := H [] (some ⟨h.length + k, 0, none⟩, 0) (.inl ⟨rfl, rfl, rfl⟩)
      simpa [Eff.on] using this
  · refine E_add (v := .slice (some ⟨(h ++ L).length, 0, none⟩) (0 + kx) (0 + kx)) (e := .new (.row ([] ++ new) true (some sz))) rfl ?_ (List.prefix_append _ _) (.inl fun b hb => hb.elim) ?_
    · simp only [kop, hs, hx, kapp, hnew]
      rw [if_neg (by omega), if_neg (by rw [Nat.zero_add]; omega)]
      have : firstC (h ++ L) sz 0 (.slice (some ⟨h.length + k, 0, none⟩) 0 0) = some [] := by simp [firstC]
      simp only [this, hrow]
    · have := H [.row new true (some sz)] (some ⟨h.length + L.length, 0, none⟩, kx) (.inr ⟨h0, rfl, rfl⟩)
      simpa [Eff.on] using this
end
theorem Cells.first {sz n : Nat} {p : Pl} {cells : List Value} (H : Cells S h sz p n cells) : firstC h sz n (.slice p.1 n p.2) = some cells := by
  obtain ⟨h1, h2, ⟨h3, h4⟩ | ⟨b, o, cs, wr, gr, e1, e2, e3, e4, e5⟩⟩ := H
  · have : n = 0 := by omega
    subst this
    rw [h3]
    have : cells = [] := by simpa using h1
    simp [firstC, this]
  · rw [e1]
    show (if n * sz = 0 then some [] else rowGet h ⟨b, o, none⟩ (n * sz)) = some cells
    split
    · rename_i h0
      have : cells = [] := List.length_eq_zero_iff.1 (by omega)
      rw [this]
    · rename_i h0
      obtain ⟨a1, a2⟩ := e5.resolve_left (by intro e; subst e; omega)
      unfold rowGet
      simp only [e3]
      rw [if_pos ⟨trivial, a1⟩, a2]
theorem Grown.ints {n : Nat} {Z : Heap} {p : Pl} {l : List Int} (H : Grown 1 n Z p l.length (l.map (.int .i64 ·))) : IntsZ n Z p l := fun A hA => H.cells hA
theorem gv_more {g : G} {q : Pl} (hq : q.1 ≠ none) : flat2 (gv g q) = false := by
  obtain ⟨q1, q2⟩ := q
  cases q1 with
  | none => exact (hq rfl).elim
  | some a => simp [flat2, flat1, flat0]
theorem cv_flat {c : C} {p : Pl} (h : flat2 (cv c p) = true) : p.1 = none := by
  obtain ⟨q1, q2⟩ := p
  cases q1 with
  | none => rfl
  | some a => simp [flat2, flat1, flat0] at h
theorem sl_flat {p : Pl} {n : Nat} (h : flat2 (.slice p.1 n p.2) = true) : p.1 = none := by
  obtain ⟨q1, q2⟩ := p
  cases q1 with
  | none => rfl
  | some a => simp [flat2, flat1, flat0] at h
theorem IntsZ.empty {n : Nat} {X : Heap} {j : Nat} {cs : List Value} {wr : Bool} (hj : X[j]? = some (.row cs wr Option.none)) : IntsZ n X (some ⟨n + j, 0, Option.none⟩, 0) [] := by
  intro A hA
  have := (List.getElem?_eq_some_iff.1 hj).1
  exact ⟨rfl, Nat.le_refl _, .inr ⟨n + j, 0, cs, wr, Option.none, rfl, ⟨by omega, by omega⟩, by rw [List.getElem?_append_right (by omega), show n + j - A.length = j by omega]; exact hj, .inl rfl, .inl rfl⟩⟩
theorem IntsZ.row {n : Nat} {X : Heap} {j : Nat} {l : List Int} {gr : Option Nat} (hj : X[j]? = some (.row (l.map (.int .i64 ·)) true gr)) (hg : gr = Option.none ∨ gr = some 1) : IntsZ n X (some ⟨n + j, 0, Option.none⟩, l.length) l :=
  Grown.ints ⟨by simp, .inr ⟨j, gr, rfl, hj, hg⟩⟩
section
variable {L : Heap}
theorem E_mkSlI {x y : KO} {n : Nat} (hx : x.ev fr = .int .i64 (n : Int)) (hy : y.ev fr = .int .i64 (n : Int)) (hr : n < 4294967296) (H : AE B T fi prs (i + 1) r (put fr d (.slice (some ⟨h.length + L.length, 0, none⟩) n n)) (h ++ (L ++ [.row ((List.replicate n (0 : Int)).map (.int .i64 ·)) true none])) m K) : AE B T fi prs i (⟨d, .mkSl x y [.int .i64 0] 8, none⟩ :: r) fr (h ++ L) m K := by
  have e : (List.replicate n [Value.int .i64 0]).flatten = (List.replicate n (0 : Int)).map (.int .i64 ·) := by
    induction n with
    | zero => rfl
    | succ n ih => simp [List.replicate_succ]
  refine E_add (v := .slice (some ⟨(h ++ L).length, 0, none⟩) n n) (e := .new (.row ((List.replicate n (0 : Int)).map (.int .i64 ·)) true none)) rfl ?_ (List.prefix_append _ _) (.inl fun b _ => ⟨rfl, by simp [rds]⟩) (by simpa [Eff.on] using H)
  simp only [kop, hx, hy]
  rw [if_pos ⟨by omega, by omega, by simp only [roomB]; omega⟩]
  simp only [Int.toNat_natCast, e]
theorem E_cpyI {x y : KO} {k n : Nat} {l : List Int} {cs : List Value} {p : Pl} (hpr : prs.any (fun p => p.1 = i ∨ p.2 = i) = false) (hx : x.ev fr = .slice (some ⟨h.length + k, 0, none⟩) n n) (hL : L[k]? = some (.row cs true none)) (hcs : cs.length = n) (hy : y.ev fr = .slice p.1 l.length p.2) (hI : Ints S (h ++ L) p l) (hn : n = l.length)
    (H : AE B T fi prs (i + 1) r (put fr d (.int .i64 (n : Int))) (h ++ L.set k (.row (l.map (.int .i64 ·)) true none)) m K) : AE B T fi prs i (⟨d, .cpy x y 1, none⟩ :: r) fr (h ++ L) m K := by
  have hf := Cells.first hI
  subst hn
  by_cases h0 : l.length = 0
  · have hl : l = [] := List.length_eq_zero_iff.1 h0
    subst hl
    have hc : cs = [] := List.length_eq_zero_iff.1 hcs
    subst hc
    have hs : L.set k (.row ([].map (Value.int .i64 ·)) true none) = L := by
      obtain ⟨h1, h2⟩ := List.getElem?_eq_some_iff.1 hL
      simp only [List.map_nil]
      rw [← h2, List.set_getElem_self]
    rw [hs] at H
    exact E_add (v := .int .i64 ((0 : Nat) : Int)) (e := .no) rfl (by simp only [kop, hx, hy, kcpy]; rfl) (List.prefix_refl _) (.inr fun p hp e => by
      have := hpr
      simp only [List.any_eq_false] at this
      exact this p hp (by simp [e])) H
  · refine E_set (v := .int .i64 (l.length : Int)) (e := .upd (h.length + k) (.row (l.map (.int .i64 ·)) true none)) hpr rfl ?_ (by simpa [Eff.on, set_own] using H)
    simp only [kop, hx, hy, kcpy, Nat.min_self]
    rw [if_neg (by omega), hf]
    have : rowSet (h ++ L) ⟨h.length + k, 0, none⟩ (l.map (.int .i64 ·)) = some (.row (l.map (.int .i64 ·)) true none) := by
      unfold rowSet
      simp only [own_get, hL]
      rw [if_pos ⟨trivial, by simp [hcs], by simp [isCell]⟩]
      simp [hcs]
    simp only [this]
end
theorem E_iaCb {L : Heap} {x y : KO} {p : Pl} {n j : Nat} {cells : List Value} {v : Value} {k : IntKind} {z : Int} (hx : x.ev fr = .slice p.1 n p.2) (hI : Cells S h 1 p n cells) (hy : y.ev fr = .int k z) (hz : z = (j : Int)) (hj : j < n) (hv : cells[j]? = some v)
    (H : ∀ b o, rowGet h ⟨b, o, none⟩ 1 = some [v] → AE B T fi prs (i + 1) r (put fr d (.pointer (some ⟨b, o, none⟩))) (h ++ L) m K) : AE B T fi prs i (⟨d, .iaS x y 1, none⟩ :: r) fr (h ++ L) m K := by
  obtain ⟨b, o, e, g⟩ := Cells.row hI (j := j * 1) (k := 1) (by simp) (by omega)
  obtain ⟨p1, p2⟩ := p
  subst e hz
  obtain ⟨h1, h2⟩ := List.getElem?_eq_some_iff.1 hv
  rw [Nat.mul_one, List.drop_eq_getElem_cons h1, h2] at g
  have := H b (o + j) g
  exact E_iaS hx hy (by omega) (by omega) (by simpa using this)
def Lists (S : Nat → Prop) (h : Heap) (p : Pl) (ps : List Pl) (gss : List (List G)) : Prop := ps.length = gss.length ∧ Cells S h 1 p gss.length (List.zipWith (fun (gs : List G) (q : Pl) => Value.slice q.1 gs.length q.2) gss ps)
theorem lists_at {gss : List (List G)} {ps : List Pl} {j : Nat} (h1 : j < gss.length) (h2 : j < ps.length) : (List.zipWith (fun (gs : List G) (q : Pl) => Value.slice q.1 gs.length q.2) gss ps)[j]? = some (.slice ps[j].1 gss[j].length ps[j].2) := by
  rw [List.getElem?_zipWith]
  simp [h1, h2]
end Go.Canon
namespace Go.Canon
set_option linter.unusedVariables false
set_option linter.unusedSimpArgs false
open Go
open Classical
variable {B : Nat → Prop} {T : Nat → Option KFunc} {fi : FI} {prs : List (Nat × Nat)} {i : Nat} {d : Option Nat} {r : List KOper} {fr : Nat → Value} {h : Heap} {m : List Nat} {K : (Nat → Value) → Heap → List Nat → Prop} {S : Nat → Prop}
theorem flat_append : ∀ (gs hs : List G) (ps qs : List Pl), ps.length = gs.length → flat (gs ++ hs) (ps ++ qs) = flat gs ps ++ flat hs qs
  | [], _, [], _, _ => by simp [flat]
  | x :: gs, hs, y :: ps, qs, e => by
    have := flat_append gs hs ps qs (by simpa using e)
    simp only [flat, List.cons_append, List.zipWith_cons_cons, List.flatten_cons, List.append_assoc] at this ⊢
    rw [this]
  | [], _, _ :: _, _, e => by simp at e
  | _ :: _, _, [], _, e => by simp at e
theorem flat_erase {gs : List G} {ps : List Pl} (e : ps.length = gs.length) (b : Nat) : (flat gs ps).take (b * 4) ++ (flat gs ps).drop ((b + 1) * 4) = flat (gs.eraseIdx b) (ps.eraseIdx b) := by
  rw [flat_take, flat_drop, List.eraseIdx_eq_take_drop_succ, List.eraseIdx_eq_take_drop_succ, flat_append _ _ _ _ (by simp [e])]
/-- Something, or nothing, behind a list that has just been made. -/
theorem E_app2 {s x : KO} {sz bytes n k kx cx : Nat} {ax : Option Addr} {p : Pl} {cells new : List Value} {h0 Bs Z : Heap} (he : h0 = Bs ++ Z) (hn : Bs.length = n) (ho : Grown sz n Z p k cells) (hs : s.ev fr = .slice p.1 k p.2) (hx : x.ev fr = .slice ax kx cx)
    (hnew : firstC h0 sz kx (.slice ax kx cx) = some new) (hroom : (k + kx) * bytes ≤ roomB) (hcell : new.all isCell = true) (hlen : new.length = kx * sz) (hpr : prs.any (fun p => p.1 = i ∨ p.2 = i) = false)
    (H : ∀ Z' p', Grown sz n Z' p' (k + kx) (cells ++ new) → (∀ a, p'.1 = some a → n ≤ a.block) → AE B T fi prs (i + 1) r (put fr d (.slice p'.1 (k + kx) p'.2)) ((Bs ++ ([] ++ Z')) ++ []) m K) : AE B T fi prs i (⟨d, .app s x sz bytes, none⟩ :: r) fr h0 m K := by
  subst he
  have hge : ∀ a, p.1 = some a → n ≤ a.block := by
    intro a ha
    rcases ho.2 with ⟨h, _⟩ | ⟨j, gr, h1, _⟩
    · rw [h] at ha; cases ha
    · rw [h1] at ha; injection ha with ha; subst ha; simp
  by_cases h0 : kx = 0
  · subst h0
    have hn0 : new = [] := by simpa using hlen
    subst hn0
    have hpk := ho.le
    have := H Z p (by simpa using ho) hge
    refine E_add (v := .slice p.1 k p.2) (e := .no) rfl ?_ (List.prefix_refl _) (.inr fun q hq e => ?_) (by simpa [Eff.on] using this)
    · simp only [kop, hs, hx, kapp, hnew]
      rw [if_pos (by omega), if_pos trivial]
    · have h1 := hpr
      simp only [List.any_eq_false] at h1
      exact h1 q hq (by simp [e])
  · refine E_appZ hn ho hs hx hnew h0 hroom hcell hlen hpr ?_
    intro Z' _ hg _
    have := H Z' _ hg (fun a ha => by injection ha with ha; subst ha; simp)
    simpa using this
theorem E_nilR {ops : List KOper} {h : Heap} (H : AE B T fi prs i ops fr (h ++ []) m K) : AE B T fi prs i ops fr h m K := by rwa [List.append_nil] at H
theorem flat_cells {gs : List G} {ps : List Pl} : ∀ v ∈ flat gs ps, isCell v = true := by
  induction gs generalizing ps with
  | nil => simp [flat]
  | cons g gs ih =>
    cases ps with
    | nil => simp [flat]
    | cons p ps =>
      intro v hv
      simp only [flat, List.zipWith_cons_cons, List.flatten_cons, List.mem_append] at hv
      rcases hv with hv | hv
      · simp only [gcells, List.mem_cons, List.not_mem_nil, or_false] at hv
        rcases hv with rfl | rfl | rfl | rfl <;> rfl
      · exact ih v hv
/-- An element of a list of gates whose wires' places are known. -/
theorem E_iaPb {L : Heap} {x y : KO} {p : Pl} {n j : Nat} {gs : List G} {ps : List Pl} {k : IntKind} {z : Int} (hx : x.ev fr = .slice p.1 n p.2) (hI : Cells S h 4 p gs.length (flat gs ps)) (hn : n = gs.length) (hps : ps.length = gs.length) (hy : y.ev fr = .int k z) (hz : z = (j : Int)) (hj : j < gs.length) (hj2 : j < ps.length)
    (H : ∀ b o, rowGet h ⟨b, o, none⟩ 4 = some (gcells gs[j] ps[j]) → AE B T fi prs (i + 1) r (put fr d (.pointer (some ⟨b, o, none⟩))) (h ++ L) m K) : AE B T fi prs i (⟨d, .iaS x y 4, none⟩ :: r) fr (h ++ L) m K := by
  obtain ⟨b, o, e1, g⟩ := Cells.row hI (j := j * 4) (k := 4) (by simp) (by omega)
  obtain ⟨p1, p2⟩ := p
  subst e1 hz hn
  rw [flat_at _ _ hps j hj hj2] at g
  exact E_iaS hx hy (by omega) (by omega) (by simpa using H b (o + j * 4) g)
theorem ints_own {L : Heap} {k : Nat} {l : List Int} {wr : Bool} (hL : L[k]? = some (.row (l.map (.int .i64 ·)) wr none)) : Ints allB (h ++ L) (some ⟨h.length + k, 0, none⟩, l.length) l :=
  ⟨by simp, Nat.le_refl _, .inr ⟨h.length + k, 0, _, wr, none, rfl, trivial, by rw [own_get]; exact hL, .inl rfl, .inr ⟨by simp, by rw [List.drop_zero]; exact List.take_of_length_le (by simp)⟩⟩⟩
theorem ARound.mono {l : Nat} {args : List Value} {h : Heap} {K K' : Value → Heap → Prop} (H : ARound T l args h K) (hk : ∀ v h', K v h' → K' v h') : ARound T l args h K' :=
  let ⟨n, v, h', e, k⟩ := H; ⟨n, v, h', e, hk _ _ k⟩
theorem E_yield {f : KO} {xs : List KO} {l : Nat} {args : List Value} (hpr : prs.any (fun p => p.1 = i ∨ p.2 = i) = false) (hk : kop (.call f xs) fr h = some (.yield l args)) (H : ARound T l args h fun v h' => AE B T fi prs (i + 1) r (put fr d v) h' m K) : AE B T fi prs i (⟨d, .call f xs, none⟩ :: r) fr h m K := by
  refine ⟨fun log hl => AOps_yield (o := ⟨d, .call f xs, none⟩) hpr rfl hk ?_⟩
  exact H.mono fun v h' x => x.go log (fine_next hl)
/-- The record of a range over a function, at its start. -/
def rec0 (fi : FI) (fr : Nat → Value) (ps : List Nat) (a b : KC) (n : Nat) : CLoop := { st := .ready, pending := none, fi := { fi with rd := some (n + 1) }, fr := fr, params := ps, assign := a, body := b, blk := n }
theorem AX_rf {f : KO} {ps : List Nat} {a b : KC} {g : Nat} {x y : Array Value} {Q : Ex → (Nat → Value) → Heap → List Nat → Prop} (hf : f.ev fr = .func (.func g) x y) (hrd : fi.rd = none)
    (H : ACall T g (x.toList ++ [.func (.yield (h.length + 1)) #[] #[]] ++ y.toList) (h ++ [.mark, .loop (rec0 fi fr ps a b h.length)]) fun _ h' => ∃ r, h'[h.length + 1]? = some (.loop r) ∧ r.st ≠ .busy ∧
      (match r.pending with
        | none => Q .normal fr (h'.set (h.length + 1) (.loop { r with st := .exhausted })) (h.length :: m)
        | some .ret => Q .ret fr (h'.set (h.length + 1) (.loop { r with st := .exhausted })) (h.length :: m)
        | some (.exit id) => Q (.exit id) fr (h'.set (h.length + 1) (.loop { r with st := .exhausted })) (h.length :: m))) : AX T fi (.rf f ps a b) fr h m Q := by
  obtain ⟨n, v, h', e, r, hr, hb, hq⟩ := H
  refine ⟨⟨n + 2, ?_⟩⟩
  have he : kcall T (n + 1) g (x.toList ++ [.func (.yield (h.length + 1)) #[] #[]] ++ y.toList) (h ++ [.mark, .loop { st := .ready, pending := none, fi := { fi with rd := some (h.length + 1) }, fr := fr, params := ps, assign := a, body := b, blk := h.length }]) = some (v, h') := kcall_up (Nat.le_succ n) e
  obtain ⟨st, pd, fi', fr', ps', a', b', bk⟩ := r
  cases pd with
  | none =>
    refine ⟨.normal, ⟨fr, h'.set (h.length + 1) (.loop ⟨.exhausted, none, fi', fr', ps', a', b', bk⟩), h.length :: m⟩, ?_, hq⟩
    unfold kcode
    simp only [hf, hrd, he]
    unfold kafter
    simp only [hr]
    rw [if_neg hb]
  | some p =>
    cases p with
    | ret =>
      refine ⟨.ret, ⟨fr, h'.set (h.length + 1) (.loop ⟨.exhausted, some .ret, fi', fr', ps', a', b', bk⟩), h.length :: m⟩, ?_, hq⟩
      unfold kcode
      simp only [hf, hrd, he]
      unfold kafter
      simp only [hr]
      rw [if_neg hb]
    | exit id =>
      refine ⟨(.exit id), ⟨fr, h'.set (h.length + 1) (.loop ⟨.exhausted, some (.exit id), fi', fr', ps', a', b', bk⟩), h.length :: m⟩, ?_, hq⟩
      unfold kcode
      simp only [hf, hrd, he]
      unfold kafter
      simp only [hr]
      rw [if_neg hb]
/-- A round. -/
theorem ARound_of {l : Nat} {args : List Value} {R : CLoop} {P : Value → Heap → Prop} (hR : h[l]? = some (.loop R)) (ha : args.length = R.params.length) (hs : R.st = .ready) (hrd : R.fi.rd = some l)
    (H : AX T R.fi R.assign (putAll R.fr R.params args) h [] fun e fr1 h1 m1 => e = .normal ∧ m1 = [] ∧ ∃ r1, h1[l]? = some (.loop r1) ∧ r1.st = .ready ∧
      AX T R.fi R.body fr1 (h1.set l (.loop { r1 with st := .busy })) [] fun e fr2 h2 m2 => m2 = [] ∧ ∃ r2, h2[l]? = some (.loop r2) ∧
        (match e with
          | .normal => P (.bool true) (h2.set l (.loop { r2 with st := .ready, pending := none }))
          | .ret => P (.bool false) (h2.set l (.loop { r2 with st := .done, pending := some .ret }))
          | .exit id => P (.bool false) (h2.set l (.loop { r2 with st := .done, pending := some (.exit id) })))) : ARound T l args h P := by
  obtain ⟨n, e, s1, e1, rfl, hm1, r1, hr1, hst, n2, ex, s2, e2, hm2, r2, hr2, hP⟩ := H
  have e1' := kcode_up (Nat.le_max_left n n2) e1
  have e2' := kcode_up (Nat.le_max_right n n2) e2
  have key : ∀ v h', (match ex with
          | .normal => ((.bool true, s2.h.set l (.loop { r2 with st := .ready, pending := none })) : Value × Heap)
          | .ret => (.bool false, s2.h.set l (.loop { r2 with st := .done, pending := some .ret }))
          | .exit id => (.bool false, s2.h.set l (.loop { r2 with st := .done, pending := some (.exit id) }))) = (v, h') → kround T (max n n2 + 1) l args h = some (v, h') := by
    intro v h' hv
    unfold kround
    simp only [hR]
    rw [if_pos ⟨ha, hs, hrd⟩, e1']
    simp only [hr1, hm1, hst, if_true]
    rw [e2']
    simp only [hr2, hm2]
    cases ex with
    | normal => exact congrArg some hv
    | ret => exact congrArg some hv
    | exit id => exact congrArg some hv
  cases ex with
  | normal => exact ⟨_, _, _, key _ _ rfl, hP⟩
  | ret => exact ⟨_, _, _, key _ _ rfl, hP⟩
  | exit id => exact ⟨_, _, _, key _ _ rfl, hP⟩
theorem ACall_ownR {f np nt : Nat} {res : List KRes} {body : KC} {args : List Value} {P : Value → Heap → Prop} (hT : T f = some ⟨np, nt, res, body⟩) (hl : args.length = np)
    (H : AX T ⟨f, nt, none⟩ body (frOf args) (h ++ []) [] (FinR res h P)) (hi : isIns body = false := by rfl) : ACall T f args h P :=
  ACall_own hT hl (H.mono fun _ _ _ _ x => FinR_fin x) hi
theorem E_appIn {s x : KO} {b k kx cap cx bytes : Nat} {ax : Option Addr} {new cs : List Value} {gr : Option Nat} (hs : s.ev fr = .slice (some ⟨b, 0, none⟩) k cap) (hx : x.ev fr = .slice ax kx cx) (hnew : firstC h 4 kx (.slice ax kx cx) = some new) (hrow : h[b]? = some (.row cs true gr))
    (hcap : k + kx ≤ cap) (hfit : (k + kx) * 4 ≤ cs.length) (hlen : new.length = kx * 4) (hcell : new.all isCell = true) (hpr : prs.any (fun p => p.1 = i ∨ p.2 = i) = false)
    (H : AE B T fi prs (i + 1) r (put fr d (.slice (some ⟨b, 0, none⟩) (k + kx) cap)) (h.set b (.row (cs.take (k * 4) ++ new ++ cs.drop (k * 4 + new.length)) true gr)) m K) : AE B T fi prs i (⟨d, .app s x 4 bytes, none⟩ :: r) fr h m K := by
  by_cases h0 : kx = 0
  · subst h0
    have hn0 : new = [] := by simpa using hlen
    subst hn0
    have hset : h.set b (.row (cs.take (k * 4) ++ [] ++ cs.drop (k * 4 + ([] : List Value).length)) true gr) = h := by
      obtain ⟨h1, h2⟩ := List.getElem?_eq_some_iff.1 hrow
      simp only [List.append_nil, List.length_nil, Nat.add_zero, List.take_append_drop]
      rw [← h2, List.set_getElem_self]
    rw [hset] at H
    refine E_add (v := .slice (some ⟨b, 0, none⟩) k cap) (e := .no) rfl ?_ (List.prefix_refl _) (.inr fun q hq e => ?_) (by simpa [Eff.on] using H)
    · simp only [kop, hs, hx, kapp, hnew]
      rw [if_pos hcap, if_pos trivial]
    · have h1 := hpr
      simp only [List.any_eq_false] at h1
      exact h1 q hq (by simp [e])
  · refine E_set (v := .slice (some ⟨b, 0, none⟩) (k + kx) cap) (e := .upd b (.row (cs.take (k * 4) ++ new ++ cs.drop (k * 4 + new.length)) true gr)) hpr rfl ?_ (by simpa [Eff.on] using H)
    simp only [kop, hs, hx, kapp, hnew]
    rw [if_pos hcap, if_neg h0]
    have : rowSet h ⟨b, k * 4, none⟩ new = some (.row (cs.take (k * 4) ++ new ++ cs.drop (k * 4 + new.length)) true gr) := by
      unfold rowSet
      simp only [hrow]
      rw [if_pos ⟨trivial, by rw [hlen]; omega, hcell⟩]
    simp only [add_pl, Nat.zero_add, this]
theorem E_clr1 {x : KO} {b o cap : Nat} {z cs : List Value} {gr : Option Nat} (hx : x.ev fr = .slice (some ⟨b, o, none⟩) 1 cap) (hz : z.length = 4) (hrow : h[b]? = some (.row cs true gr)) (hfit : o + 4 ≤ cs.length) (hcell : z.all isCell = true) (hpr : prs.any (fun p => p.1 = i ∨ p.2 = i) = false)
    (H : AE B T fi prs (i + 1) r (put fr d (.tuple #[])) (h.set b (.row (cs.take o ++ z ++ cs.drop (o + z.length)) true gr)) m K) : AE B T fi prs i (⟨d, .clr x z, none⟩ :: r) fr h m K := by
  refine E_set (v := .tuple #[]) (e := .upd b (.row (cs.take o ++ z ++ cs.drop (o + z.length)) true gr)) hpr rfl ?_ (by simpa [Eff.on] using H)
  simp only [kop, hx]
  rw [if_neg (by omega)]
  have hf : (List.replicate 1 z).flatten = z := by simp
  have : rowSet h ⟨b, o, none⟩ z = some (.row (cs.take o ++ z ++ cs.drop (o + z.length)) true gr) := by
    unfold rowSet
    simp only [hrow]
    rw [if_pos ⟨trivial, by omega, hcell⟩]
  simp only [hf, this]
theorem E_sl3 {x lo hi mx : KO} {b k cap : Nat} {i1 i2 : Nat} {cs : List Value} {gr : Option Nat} (hx : x.ev fr = .slice (some ⟨b, 0, none⟩) k cap) (hrow : h[b]? = some (.row cs true gr)) (hg : gr = none ∨ gr = some 4) (hlo : lo.ev fr = .int .i64 (i1 : Int)) (hhi : hi.ev fr = .int .i64 (i2 : Int)) (hmx : mx.ev fr = .int .i64 (k : Int)) (h1 : i1 ≤ i2) (h2 : i2 ≤ k) (h3 : k ≤ cap)
    (H : ∀ v, AE noB T fi prs (i + 1) r (put fr d v) h m K) : AE noB T fi prs i (⟨d, .slS x (some lo) (some hi) (some mx) 4, none⟩ :: r) fr h m K := by
  have hgr : grOk h (some ⟨b, 0, none⟩) 4 = true := by rcases hg with e | e <;> subst e <;> simp [grOk, hrow]
  have hb : bnds k cap (some (.int .i64 (i1 : Int))) (some (.int .i64 (i2 : Int))) (some (.int .i64 (k : Int))) = some (i1, i2, k) := by
    have a1 : (0 : Int) ≤ k ∧ (k : Int) ≤ cap := by omega
    have a2 : (0 : Int) ≤ i2 ∧ (i2 : Int) ≤ k := by omega
    have a3 : (0 : Int) ≤ i1 ∧ (i1 : Int) ≤ i2 := by omega
    simp only [bnds, bnd?, bnd, if_pos a1, if_pos a2, if_pos a3, Int.toNat_natCast]
  refine E_look (v := .slice (if k = i1 then some ⟨b, 0, none⟩ else (some ⟨b, 0, none⟩ : Option Addr).map (·.add (i1 * 4))) (i2 - i1) (k - i1)) ?_ (.inl fun b hb => hb.elim) (H _)
  simp only [kop, hx, hgr, if_true, Option.map_some, hlo, hhi, hmx, hb]
theorem E_slLH {x lo hi : KO} {b cap : Nat} {n i1 i2 : Nat} {cs : List Value} {gr : Option Nat} (hx : x.ev fr = .slice (some ⟨b, 0, none⟩) n cap) (hrow : h[b]? = some (.row cs true gr)) (hg : gr = none ∨ gr = some 4) (hlo : lo.ev fr = .int .i64 (i1 : Int)) (hhi : hi.ev fr = .int .i64 (i2 : Int)) (h1 : i1 ≤ i2) (h2 : i2 ≤ cap) (h3 : i1 < cap)
    (H : AE noB T fi prs (i + 1) r (put fr d (.slice (some ⟨b, i1 * 4, none⟩) (i2 - i1) (cap - i1))) h m K) : AE noB T fi prs i (⟨d, .slS x (some lo) (some hi) none 4, none⟩ :: r) fr h m K := by
  have hgr : grOk h (some ⟨b, 0, none⟩) 4 = true := by rcases hg with e | e <;> subst e <;> simp [grOk, hrow]
  refine E_look ?_ (.inl fun b hb => hb.elim) H
  simp only [kop, hx, hgr, if_true, Option.map_some, Option.map_none, hlo, hhi, bnds_lh h1 h2]
  rw [if_neg (by omega)]
  simp [add_pl]
theorem cvt_flat {c : C} {p : Pl} {k : IntKind} {e : Int} (h : flat2 (.tuple #[cv c p, .int k e]) = true) : p.1 = none := by
  obtain ⟨q1, q2⟩ := p
  cases q1 with
  | none => rfl
  | some a => simp [flat2, flat1, flat0] at h
theorem slt_flat {p : Pl} {n : Nat} {k : IntKind} {e : Int} (h : flat2 (.tuple #[.slice p.1 n p.2, .int k e]) = true) : p.1 = none := by
  obtain ⟨q1, q2⟩ := p
  cases q1 with
  | none => rfl
  | some a => simp [flat2, flat1, flat0] at h
end Go.Canon
namespace Go.Canon
set_option linter.unusedVariables false
set_option linter.unusedSimpArgs false
open Go
open Classical
variable {T : Nat → Option KFunc}
/-- A row that may not be written. -/
def ro : CO → Bool
  | .row _ false _ => true
  | _ => false
/-- From N on no object is such a row. -/
def JW (N : Nat) (h : Heap) : Prop := ∀ b ob, N ≤ b → h[b]? = some ob → ro ob = false
theorem JW.app {N : Nat} {h L : Heap} (H : JW N h) (hL : ∀ o ∈ L, ro o = false) : JW N (h ++ L) := by
  intro b ob hb ho
  by_cases hl : b < h.length
  · rw [List.getElem?_append_left hl] at ho; exact H b ob hb ho
  · rw [List.getElem?_append_right (by omega)] at ho
    exact hL _ (List.mem_of_getElem? ho)
theorem JW.set {N k : Nat} {h : Heap} {o : CO} (H : JW N h) (ho : ro o = false) : JW N (h.set k o) := by
  intro b ob hb hob
  by_cases e : k = b
  · subst e
    rw [List.getElem?_set] at hob
    simp only [if_true] at hob
    split at hob
    · injection hob with hob; subst hob; exact ho
    · cases hob
  · rw [List.getElem?_set_ne e] at hob; exact H b ob hb hob
def effW : Eff → Prop
  | .no => True
  | .new o | .upd _ o | .kill _ o => ro o = false
theorem JW.on {N : Nat} {h : Heap} {e : Eff} (H : JW N h) (he : effW e) : JW N (e.on h) := by
  cases e with
  | no => exact H
  | new o => exact H.app (by simpa [effW] using he)
  | upd b o => exact H.set he
  | kill b o => exact (H.set rfl).app (by simpa [effW] using he)
theorem rowSet_w {h : Heap} {a : Addr} {vs : List Value} {o : CO} (hs : rowSet h a vs = some o) : ro o = false := by
  unfold rowSet at hs
  split at hs
  · split at hs
    · cases hs; rfl
    · cases hs
  · cases hs
theorem kop_w {k : KOp} {fr : Nat → Value} {h : Heap} {v : Value} {e : Eff} (hk : kop k fr h = some (.val v e)) : effW e := by
  cases k
  case st x y n =>
    simp only [kop] at hk
    repeat' split at hk
    all_goals first | (cases hk; done) | skip
    rename_i ob hs
    cases hk
    exact rowSet_w hs
  case app s x sz bytes =>
    simp only [kop, kapp] at hk
    repeat' split at hk
    all_goals first | (cases hk; trivial) | (cases hk; rfl) | (cases hk; done) | skip
    all_goals
      rename_i ob hset
      cases hk
      exact rowSet_w hset
  case cpy d s sz =>
    simp only [kop, kcpy] at hk
    repeat' split at hk
    all_goals first | (cases hk; trivial) | (cases hk; done) | skip
    rename_i ob hset
    cases hk
    exact rowSet_w hset
  case clr x z =>
    simp only [kop] at hk
    repeat' split at hk
    all_goals first | (cases hk; trivial) | (cases hk; done) | skip
    rename_i ob hset
    cases hk
    exact rowSet_w hset
  all_goals
    simp only [kop] at hk
    first
      | (cases hk; trivial)
      | (cases hk; rfl)
      | (rw [Option.map_eq_some_iff] at hk; obtain ⟨_, _, hk⟩ := hk; cases hk; trivial)
      | (repeat' split at hk
         all_goals first
           | (cases hk; trivial)
           | (cases hk; rfl)
           | (cases hk; done)
           | (rw [Option.map_eq_some_iff] at hk; obtain ⟨_, _, hk⟩ := hk; cases hk; trivial))
theorem kins_w {c : KC} {args : List Value} {h : Heap} {v : Value} {e : Eff} (hk : kinsB c args h = some (v, e)) : effW e := by
  unfold kinsB kins kinsG at hk
  repeat' split at hk
  all_goals first | (cases hk; rfl) | (cases hk; done)
theorem JW.gone {N : Nat} : ∀ (m : List Nat) {h : Heap}, JW N h → JW N (m.foldl (fun h m => h.set m .gone) h)
  | [], _, H => H
  | x :: m, _, H => JW.gone m (H.set rfl)
theorem JW.forget {N : Nat} {h h' : Heap} {v : Value} (H : JW N h) (H' : JW N h') : JW N (forget h v h') := by
  unfold Go.Canon.forget
  split
  · exact H
  · exact H'
theorem wr_all (N : Nat) : ∀ n : Nat,
    (∀ fi c s e s', kcode T n fi c s = some (e, s') → JW N s.h → JW N s'.h) ∧
    (∀ l s o e s', kafter T n l s o = some (e, s') → (∀ v h, o = some (v, h) → JW N h) → JW N s'.h) ∧
    (∀ ops fi prs i log s s', kops T n fi prs i log ops s = some s' → JW N s.h → JW N s'.h) ∧
    (∀ fi op s v h, kstep T n fi op s = some (v, h) → JW N s.h → JW N h) ∧
    (∀ f args h v h', kcall T n f args h = some (v, h') → JW N h → JW N h') ∧
    (∀ l args h v h', kround T n l args h = some (v, h') → JW N h → JW N h') := by
  intro n
  induction n with
  | zero =>
    refine ⟨?_, ?_, ?_, ?_, ?_, ?_⟩
    · intro fi c s e s' h; unfold kcode at h; cases h
    · intro l s o e s' h; unfold kafter at h; cases h
    · intro ops fi prs i log s s' h; unfold kops at h; cases h
    · intro fi op s v h hh; unfold kstep at hh; cases hh
    · intro f args h v h' hh; unfold kcall at hh; cases hh
    · intro l args h v h' hh; unfold kround at hh; cases hh
  | succ n ih =>
    obtain ⟨hcode, hafter, hops, hstep, hcall, hround⟩ := ih
    refine ⟨?_, ?_, ?_, ?_, ?_, ?_⟩
    · intro fi c s e s' h hj
      unfold kcode at h
      cases c with
      | skip => cases h; exact hj
      | ret => cases h; exact hj
      | exit id => cases h; exact hj
      | reg ops prs =>
        dsimp only at h
        cases hk : kops T n fi prs 0 [] ops s with
        | none => rw [hk] at h; cases h
        | some s1 => rw [hk] at h; cases h; exact hops _ _ _ _ _ _ _ hk hj
      | seq a b =>
        dsimp only at h
        cases hk : kcode T n fi a s with
        | none => rw [hk] at h; cases h
        | some q =>
          obtain ⟨e1, s1⟩ := q
          rw [hk] at h
          have h1 := hcode _ _ _ _ _ hk hj
          cases e1 with
          | normal => exact hcode _ _ _ _ _ h h1
          | exit id => cases h; exact h1
          | ret => cases h; exact h1
      | cond k a b =>
        dsimp only at h
        split at h
        · exact hcode _ _ _ _ _ h hj
        · cases h
      | block id a =>
        dsimp only at h
        cases hk : kcode T n fi a s with
        | none => rw [hk] at h; cases h
        | some q =>
          obtain ⟨e1, s1⟩ := q
          rw [hk] at h
          have h1 := hcode _ _ _ _ _ hk hj
          cases e1 with
          | normal => cases h; exact h1
          | exit id' => dsimp only at h; split at h <;> (cases h; exact h1)
          | ret => cases h; exact h1
      | loop a =>
        dsimp only at h
        cases hk : kcode T n fi a s with
        | none => rw [hk] at h; cases h
        | some q =>
          obtain ⟨e1, s1⟩ := q
          rw [hk] at h
          have h1 := hcode _ _ _ _ _ hk hj
          cases e1 with
          | normal => exact hcode _ _ _ _ _ h h1
          | exit id => cases h; exact h1
          | ret => cases h; exact h1
      | rf f ps a b =>
        dsimp only at h
        split at h
        · split at h
          · refine hafter _ _ _ _ _ h fun v h2 e => hcall _ _ _ _ _ e (hj.app ?_)
            intro o ho
            simp only [List.mem_cons, List.not_mem_nil, or_false] at ho
            rcases ho with rfl | rfl <;> rfl
          · split at h
            · refine hafter _ _ _ _ _ h fun v h2 e => hcall _ _ _ _ _ e (hj.app ?_)
              intro o ho
              simp only [List.mem_cons, List.not_mem_nil, or_false] at ho
              subst ho; rfl
            · cases h
        · cases h
    · intro l s o e s' h ho
      unfold kafter at h
      dsimp only at h
      split at h
      · rename_i v h2
        have hj := ho _ _ rfl
        split at h
        · rename_i r hr
          split at h
          · cases h
          · split at h <;> (cases h; exact hj.set rfl)
        · cases h
      · cases h
    · intro ops fi prs i log s s' h hj
      unfold kops at h
      cases ops with
      | nil => cases h; exact hj
      | cons o r =>
        dsimp only at h
        split at h
        · split at h
          · rename_i v h2 hs
            have h1 := hstep _ _ _ _ _ hs hj
            split at h
            · split at h
              · exact hops _ _ _ _ _ _ _ h h1
              · cases h
            · exact hops _ _ _ _ _ _ _ h h1
          · cases h
        · split at h
          · exact hops _ _ _ _ _ _ _ h hj
          · cases h
    · intro fi op s v h hh hj
      unfold kstep at hh
      split at hh
      · rename_i v' e' hk
        cases hh
        exact hj.on (kop_w hk)
      · exact hcall _ _ _ _ _ hh hj
      · exact hround _ _ _ _ _ hh hj
      · cases hh
    · intro f args h v h' hh hj
      unfold kcall at hh
      split at hh
      · split at hh
        · split at hh
          · rename_i v1 e1 hki
            cases hh; exact hj.on (kins_w hki)
          · cases hh
        split at hh
        · split at hh
          · rename_i s1 hk
            have h1 := hcode _ _ _ _ _ hk hj
            split at hh
            · split at hh
              · cases hh; exact hj.forget (JW.gone _ h1)
              · cases hh
            · cases hh
          · rename_i s1 hk
            have h1 := hcode _ _ _ _ _ hk hj
            split at hh
            · split at hh
              · cases hh; exact hj.forget (JW.gone _ h1)
              · cases hh
            · cases hh
          · cases hh
        · cases hh
      · cases hh
    · intro l args h v h' hh hj
      unfold kround at hh
      split at hh
      · split at hh
        · split at hh
          · rename_i s1 hk
            have h1 := hcode _ _ _ _ _ hk hj
            split at hh
            · split at hh
              · split at hh
                · rename_i e2 s2 hk2
                  have h2 := hcode _ _ _ _ _ hk2 (h1.set rfl)
                  split at hh
                  · split at hh <;> (cases hh; exact h2.set rfl)
                  · cases hh
                · cases hh
              · cases hh
            · cases hh
          · cases hh
        · cases hh
      · cases hh
/-- What a call has made may be written. -/
theorem Ret.wr {f : Nat} {args : List Value} {h X : Heap} {v : Value} (H : Ret T f args h v (h ++ X)) : ∀ (j : Nat) (cs : List Value) (wr : Bool) (gr : Option Nat), X[j]? = some (CO.row cs wr gr) → wr = true := by
  obtain ⟨n, e⟩ := H
  intro j cs wr gr hj
  have h0 : JW h.length h := fun b ob hb ho => by have := (List.getElem?_eq_some_iff.1 ho).1; omega
  have := (wr_all h.length n).2.2.2.2.1 _ _ _ _ _ e h0 (h.length + j) _ (by omega) (by rw [List.getElem?_append_right (by omega), show h.length + j - h.length = j by omega]; exact hj)
  cases wr with
  | true => rfl
  | false => simp [ro] at this
section
variable {B : Nat → Prop} {fi : FI} {prs : List (Nat × Nat)} {i : Nat} {d : Option Nat} {r : List KOper} {fr : Nat → Value} {h : Heap} {m : List Nat} {K : (Nat → Value) → Heap → List Nat → Prop}
theorem E_mx2 {x y : KO} {a b : Int} (hx : x.ev fr = .int .i64 a) (hy : y.ev fr = .int .i64 b) (H : AE B T fi prs (i + 1) r (put fr d (.int .i64 (if b > a then b else a))) h m K) : AE B T fi prs i (⟨d, .mx [x, y], none⟩ :: r) fr h m K := by
  refine E_no ?_ H
  simp [kop, hx, hy, ints, asI64, most]
end
section
variable {B : Nat → Prop} {fi : FI} {prs : List (Nat × Nat)} {i : Nat} {d : Option Nat} {r : List KOper} {fr : Nat → Value} {h : Heap} {m : List Nat} {K : (Nat → Value) → Heap → List Nat → Prop}
/-- The append that puts one more number behind, with what stays. -/
theorem E_appI2 {s x : KO} {n cx b o : Nat} {p : Pl} {l l' : List Int} {v : Int} {h0 h A Z : Heap} (he : h0 = h ++ (A ++ Z)) (hl' : l' = l ++ [v]) (hn : (h ++ A).length = n) (hb : Grown 1 n Z p l.length (l.map (.int .i64 ·))) (hs : s.ev fr = .slice p.1 l.length p.2) (hx : x.ev fr = .slice (some ⟨b, o, none⟩) 1 cx)
    (hnew : rowGet h0 ⟨b, o, none⟩ 1 = some [.int .i64 v]) (hroom : l.length < 4294967296) (hpr : prs.any (fun p => p.1 = i ∨ p.2 = i) = false)
    (H : ∀ Z' p', Grown 1 n Z' p' l'.length (l'.map (.int .i64 ·)) → (∀ i, i < Z.length → p.1 ≠ some ⟨n + i, 0, none⟩ → Z'[i]? = Z[i]?) → AE B T fi prs (i + 1) r (put fr d (.slice p'.1 l'.length p'.2)) (h ++ (A ++ Z')) m K) : AE B T fi prs i (⟨d, .app s x 1 8, none⟩ :: r) fr h0 m K := by
  subst he hl'
  rw [← List.append_assoc] at hnew ⊢
  refine E_appZ (kx := 1) (new := [.int .i64 v]) hn hb hs hx (by show (if 1 * 1 = 0 then some [] else rowGet (h ++ A ++ Z) ⟨_, o, none⟩ (1 * 1)) = _; exact hnew) (by decide) ?_ rfl rfl hpr ?_
  · simp only [roomB]; omega
  · intro Z' hl ho hk
    have := H Z' (some ⟨n + Z.length, 0, none⟩, l.length + 1) (by rw [List.length_append, List.map_append]; exact ho) hk
    rwa [List.length_append, ← List.append_assoc] at this
theorem Grown.gone {sz n k j : Nat} {Z : Heap} {p : Pl} {cells : List Value} (H : Grown sz n Z p k cells) (hj : Z[j]? = some .mark) : Grown sz n (Z.set j .gone) p k cells := by
  obtain ⟨a, b | ⟨j1, gr, e, c, dd⟩⟩ := H
  · exact ⟨a, .inl b⟩
  · refine ⟨a, .inr ⟨j1, gr, e, ?_, dd⟩⟩
    by_cases hjj : j = j1
    · subst hjj; rw [hj] at c; cases c
    · rw [List.getElem?_set_ne hjj]; exact c
end
end Go.Canon
namespace Go.Canon
set_option linter.unusedVariables false
set_option linter.unusedSimpArgs false
open Go
open Classical
variable {B : Nat → Prop} {T : Nat → Option KFunc} {fi : FI} {prs : List (Nat × Nat)} {i : Nat} {d : Option Nat} {r : List KOper} {fr : Nat → Value} {h : Heap} {m : List Nat} {K : (Nat → Value) → Heap → List Nat → Prop} {S : Nat → Prop}
theorem rowSet_at {h : Heap} {b o : Nat} {l cs : List Value} {gr : Option Nat} (hrow : h[b]? = some (.row cs true gr)) (hfit : o + l.length ≤ cs.length) (hc : l.all isCell = true) : rowSet h ⟨b, o, none⟩ l = some (.row (cs.take o ++ l ++ cs.drop (o + l.length)) true gr) := by
  unfold rowSet
  simp only [hrow]
  rw [if_pos ⟨trivial, hfit, hc⟩]
/-- A write to any row. -/
theorem E_stX {x y : KO} {b o n : Nat} {l cs : List Value} {gr : Option Nat} {v : Value} (hx : x.ev fr = .pointer (some ⟨b, o, none⟩)) (hy : y.ev fr = v) (hl : cellsOf v = some l) (hn : l.length = n) (hrow : h[b]? = some (.row cs true gr)) (hfit : o + l.length ≤ cs.length) (hc : l.all isCell = true) (hpr : prs.any (fun p => p.1 = i ∨ p.2 = i) = false)
    (H : ∀ h', h' = h.set b (.row (cs.take o ++ l ++ cs.drop (o + l.length)) true gr) → AE B T fi prs (i + 1) r (put fr d undef) (h' ++ []) m K) : AE B T fi prs i (⟨d, .st x y n, none⟩ :: r) fr h m K :=
  E_set (v := undef) (e := .upd b (.row (cs.take o ++ l ++ cs.drop (o + l.length)) true gr)) hpr rfl (by simp only [kop, hx, hy, hl, hn, if_true, rowSet_at hrow hfit hc]) (by simpa [Eff.on] using H _ rfl)
/-- An append to a list that fills its row. -/
theorem E_appK {s x : KO} {sz bytes k kx cx : Nat} {ax : Option Addr} {p : Pl} {cells new : List Value} (ho : Grown sz 0 h p k cells) (hs : s.ev fr = .slice p.1 k p.2) (hx : x.ev fr = .slice ax kx cx)
    (hnew : firstC h sz kx (.slice ax kx cx) = some new) (hkx : kx ≠ 0) (hroom : (k + kx) * bytes ≤ roomB) (hcell : new.all isCell = true) (hlen : new.length = kx * sz) (hpr : prs.any (fun p => p.1 = i ∨ p.2 = i) = false)
    (H : ∀ h', h'.length = h.length + 1 → Grown sz 0 h' (some ⟨h.length, 0, none⟩, k + kx) (k + kx) (cells ++ new) → (∀ i, i < h.length → offP p i → h'[i]? = h[i]?) →
      AE B T fi prs (i + 1) r (put fr d (.slice (some ⟨h.length, 0, none⟩) (k + kx) (k + kx))) (h' ++ []) m K) : AE B T fi prs i (⟨d, .app s x sz bytes, none⟩ :: r) fr h m K := by
  have := E_appZ (B := B) (T := T) (fi := fi) (prs := prs) (i := i) (d := d) (r := r) (fr := fr) (m := m) (K := K) (Bs := []) (Z := h) (n := 0) rfl ho hs hx (by simpa using hnew) hkx hroom hcell hlen hpr (s := s) (x := x) (fun Z' h1 h2 h3 => by
    rw [Nat.zero_add] at h2 ⊢
    have := H Z' h1 h2 (fun i hi ho => h3 i hi fun e => by have := ho _ e; simp at this)
    simpa using this)
  simpa using this
def Mk (n : Nat) (h : Heap) (m : List Nat) : Prop := ∀ x ∈ m, n ≤ x ∧ h[x]? = some .mark
theorem Mk.nil {n : Nat} {h : Heap} : Mk n h [] := fun x hx => by simp at hx
theorem Mk.mono {n : Nat} {h h' : Heap} {m : List Nat} (M : Mk n h m) (H : ∀ b, n ≤ b → h[b]? = some .mark → h'[b]? = some .mark) : Mk n h' m := fun x hx => ⟨(M x hx).1, H x (M x hx).1 (M x hx).2⟩
theorem Mk.app {n : Nat} {h L : Heap} {m : List Nat} (M : Mk n h m) : Mk n (h ++ L) m := M.mono fun b _ hb => by rw [pre_get (List.getElem?_eq_some_iff.1 hb).1]; exact hb
theorem Mk.cons {n x : Nat} {h : Heap} {m : List Nat} (M : Mk n h m) (h1 : n ≤ x) (h2 : h[x]? = some .mark) : Mk n h (x :: m) := fun y hy => by
  rcases List.mem_cons.1 hy with rfl | hy
  · exact ⟨h1, h2⟩
  · exact M y hy
theorem Mk.marks {n : Nat} {h : Heap} {m : List Nat} (M : Mk n h m) : ∀ x ∈ m, h[x]? = some .mark := fun x hx => (M x hx).2
def allGone (m : List Nat) (h : Heap) : Heap := m.foldl (fun h x => h.set x .gone) h
theorem allGone_len : ∀ (m : List Nat) (h : Heap), (allGone m h).length = h.length
  | [], _ => rfl
  | x :: m, h => by
    have := allGone_len m (h.set x .gone)
    simpa [allGone] using this
theorem allGone_get {b : Nat} : ∀ (m : List Nat) (h : Heap), (∀ x ∈ m, x ≠ b) → (allGone m h)[b]? = h[b]?
  | [], _, _ => rfl
  | x :: m, h, H => by
    have := allGone_get m (h.set x .gone) fun y hy => H y (List.mem_cons_of_mem _ hy)
    rw [List.getElem?_set_ne (H x List.mem_cons_self)] at this
    simpa [allGone] using this
theorem Mk.row {n b : Nat} {h : Heap} {m : List Nat} {cs : List Value} {wr : Bool} {gr : Option Nat} (M : Mk n h m) (hb : h[b]? = some (.row cs wr gr)) : (allGone m h)[b]? = some (.row cs wr gr) := by
  rw [allGone_get m h fun x hx e => by subst e; rw [(M x hx).2] at hb; cases hb]
  exact hb
theorem Cells.lt {h : Heap} {sz n : Nat} {p : Pl} {cells : List Value} (H : Cells S h sz p n cells) : Cells (fun b => S b ∧ b < h.length) h sz p n cells := by
  obtain ⟨h1, h2, h3 | ⟨b, o, cs, wr, gr, e1, e2, e3, e4, e5⟩⟩ := H
  · exact ⟨h1, h2, .inl h3⟩
  · exact ⟨h1, h2, .inr ⟨b, o, cs, wr, gr, e1, ⟨e2, (List.getElem?_eq_some_iff.1 e3).1⟩, e3, e4, e5⟩⟩
/-- Facts go over to a heap that has the same rows. -/
theorem Cells.rows {S' : Nat → Prop} {h h' : Heap} {sz n : Nat} {p : Pl} {cells : List Value} (H : Cells S h sz p n cells) (hs : ∀ b, S b → b < h.length → S' b) (hh : ∀ b cs wr gr, S b → h[b]? = some (.row cs wr gr) → h'[b]? = some (.row cs wr gr)) : Cells S' h' sz p n cells := by
  obtain ⟨h1, h2, h3 | ⟨b, o, cs, wr, gr, e1, e2, e3, e4, e5⟩⟩ := H
  · exact ⟨h1, h2, .inl h3⟩
  · exact ⟨h1, h2, .inr ⟨b, o, cs, wr, gr, e1, hs _ e2 (List.getElem?_eq_some_iff.1 e3).1, hh _ _ _ _ e2 e3, e4, e5⟩⟩
theorem GatesP.lt {h : Heap} {p : Pl} {gs : List G} (H : GatesP S h p gs) : GatesP (fun b => S b ∧ b < h.length) h p gs := by
  obtain ⟨ps, a, b, c, e⟩ := H
  exact ⟨ps, a, b.lt, fun i h1 h2 => (c i h1 h2).rows (fun b hb hl => ⟨⟨hb.1, hl⟩, hb.2⟩) fun _ _ _ _ _ x => x, e⟩
theorem leafK {h h' : Heap} {u : Value} {p : Pl} {gs : List G} (hl : h.length ≤ h'.length) (hp : ∀ b, b < h.length → h'[b]? = h[b]?) (hz : GatesP (fun b => h.length ≤ b) h' p gs) (hf : flat2 u = true → p.1 = none) : ∃ X, forget h u h' = h ++ X ∧ GatesZ h.length X p gs := by
  have e : h' = h ++ ([] ++ h'.drop h.length) := by
    rw [List.nil_append]
    refine List.ext_getElem? fun b => ?_
    by_cases hb : b < h.length
    · rw [pre_get hb]; exact hp b hb
    · rw [List.getElem?_append_right (by omega), List.getElem?_drop]
      congr 1; omega
  refine leafG e (n := h.length) ?_ (by simp) hf
  intro A hA
  refine hz.lt.congr (fun b hb => ⟨hb.1, by have := hb.2; simp only [List.length_drop]; omega⟩) fun b hb _ => ?_
  rw [List.getElem?_append_right (by omega), List.getElem?_drop]
  congr 1
  have := hb.1
  omega
/-- What is known of a result, whatever stands before it. -/
theorem GatesZ.opn {n : Nat} {X : Heap} {p : Pl} {gs : List G} (H : GatesZ n X p gs) : ∃ ps : List Pl, ps.length = gs.length ∧ (∀ A : Heap, A.length = n → Cells (segB n X.length) (A ++ X) 4 p gs.length (flat gs ps)) ∧
    (∀ i (h1 : i < gs.length) (h2 : i < ps.length), ∀ A : Heap, A.length = n → Ints (fun b => segB n X.length b ∧ offP p b) (A ++ X) ps[i] gs[i].ws) ∧ ∀ i j (h1 : i < ps.length) (h2 : j < ps.length), i ≠ j → dis ps[i] ps[j] := by
  obtain ⟨ps, a, b, c, e⟩ := H (List.replicate n .gone) (by simp)
  have key : ∀ (A : Heap) (hA : A.length = n) (x : Nat), segB n X.length x → (A ++ X)[x]? = (List.replicate n CO.gone ++ X)[x]? := by
    intro A hA x hx
    have := hx.1
    rw [List.getElem?_append_right (by omega), List.getElem?_append_right (by simpa using this), hA, List.length_replicate]
  exact ⟨ps, a, fun A hA => b.congr (fun _ x => x) fun x hx _ => key A hA x hx, fun i h1 h2 A hA => (c i h1 h2).congr (fun _ x => x) fun x hx _ => key A hA x hx.1, e⟩
theorem Grown.cellsK {sz k : Nat} {h : Heap} {p : Pl} {cells : List Value} (H : Grown sz 0 h p k cells) (hS : ∀ a, p.1 = some a → S a.block) : Cells S h sz p k cells := by
  obtain ⟨a, ⟨b, c⟩ | ⟨j, gr, e, c, d⟩⟩ := H
  · subst b c
    exact ⟨a, Nat.le_refl _, .inl ⟨rfl, rfl⟩⟩
  · subst e
    simp only [Nat.zero_add] at hS
    refine ⟨a, Nat.le_refl _, .inr ⟨0 + j, 0, cells, true, gr, rfl, by rw [Nat.zero_add]; exact hS _ rfl, by rw [Nat.zero_add]; exact c, d, .inr ⟨by omega, ?_⟩⟩⟩
    rw [List.drop_zero, ← a, List.take_length]
theorem Grown.same {sz k : Nat} {h h' : Heap} {p : Pl} {cells : List Value} (H : Grown sz 0 h p k cells) (hh : ∀ a, p.1 = some a → h'[a.block]? = h[a.block]?) : Grown sz 0 h' p k cells := by
  obtain ⟨a, b | ⟨j, gr, e, c, d⟩⟩ := H
  · exact ⟨a, .inl b⟩
  · refine ⟨a, .inr ⟨j, gr, e, ?_, d⟩⟩
    have := hh ⟨0 + j, 0, none⟩ (by rw [e])
    simp only [Nat.zero_add] at this
    rw [this, c]
theorem resOf_at {h : Heap} {t b o n : Nat} {cs : List Value} (e : fr t = .pointer (some ⟨b, o, none⟩)) (hg : rowGet h ⟨b, o, none⟩ n = some cs) : resOf h fr (.cell t (some n)) = some (.agg cs.toArray) := by
  simp only [resOf, e, hg, Option.map_some]
theorem rowGet_all {h : Heap} {b n : Nat} {cs : List Value} {wr : Bool} {gr : Option Nat} (hrow : h[b]? = some (.row cs wr gr)) (hn : cs.length = n) : rowGet h ⟨b, 0, none⟩ n = some cs := by
  subst hn
  unfold rowGet
  simp only [hrow]
  rw [if_pos ⟨trivial, by omega⟩]
  simp
theorem getE_mid (a l c : List Value) (k : Nat) (h1 : a.length ≤ k) (h2 : k < a.length + l.length) : (a ++ l ++ c)[k]? = l[k - a.length]? := by
  rw [List.append_assoc, List.getElem?_append_right h1, List.getElem?_append_left (by omega)]
theorem getE_last (a l c : List Value) (k : Nat) (h1 : a.length + l.length ≤ k) : (a ++ l ++ c)[k]? = c[k - (a.length + l.length)]? := by
  rw [List.getElem?_append_right (by simpa using h1), List.length_append]
/-- Something is written into a list's row. -/
theorem Cells.write {h : Heap} {sz n b o j : Nat} {p : Pl} {cells cs l : List Value} {gr : Option Nat} (H : Cells S h sz p n cells) (hp : p.1 = some ⟨b, o, none⟩) (hrow : h[b]? = some (.row cs true gr)) (hj : j + l.length ≤ n * sz) (hn : n ≠ 0) :
    o + j + l.length ≤ cs.length ∧ Cells S (h.set b (.row (cs.take (o + j) ++ l ++ cs.drop (o + j + l.length)) true gr)) sz p n (cells.take j ++ l ++ cells.drop (j + l.length)) := by
  obtain ⟨h1, h2, ⟨h3, h4⟩ | ⟨b1, o1, cs1, wr1, gr1, e1, e2, e3, e4, e5⟩⟩ := H
  · rw [hp] at h3; cases h3
  · rw [hp] at e1
    injection e1 with e1
    injection e1 with e6 e7 e8
    subst e6 e7
    rw [hrow] at e3
    injection e3 with e3
    injection e3 with e9 e10 e11
    subst e9 e10 e11
    have hb := (List.getElem?_eq_some_iff.1 hrow).1
    obtain ⟨e5, e6⟩ := e5.resolve_left (by omega)
    refine ⟨by omega, by simp only [List.length_append, List.length_take, List.length_drop]; omega, h2, .inr ⟨b, o, _, true, gr, hp, e2, List.getElem?_set_self hb, e4, .inr ⟨by simp only [List.length_append, List.length_take, List.length_drop]; omega, ?_⟩⟩⟩
    subst e6
    refine List.ext_getElem? fun k => ?_
    by_cases k1 : k < j
    · rw [List.getElem?_take_of_lt (by omega), List.getElem?_drop, List.append_assoc, List.append_assoc, List.getElem?_append_left (by simp only [List.length_take]; omega), List.getElem?_append_left (by simp only [List.length_take, List.length_drop]; omega), List.getElem?_take_of_lt (by omega), List.getElem?_take_of_lt (by omega), List.getElem?_take_of_lt (by omega), List.getElem?_drop]
    · by_cases k2 : k < j + l.length
      · rw [List.getElem?_take_of_lt (by omega), List.getElem?_drop, getE_mid (cs.take (o + j)) l _ _ (by simp only [List.length_take]; omega) (by simp only [List.length_take]; omega), getE_mid (((cs.drop o).take (n * sz)).take j) l _ _ (by simp only [List.length_take, List.length_drop]; omega) (by simp only [List.length_take, List.length_drop]; omega)]
        simp only [List.length_take, List.length_drop]
        congr 1; omega
      · by_cases k3 : k < n * sz
        · rw [List.getElem?_take_of_lt k3, List.getElem?_drop, getE_last (cs.take (o + j)) l _ _ (by simp only [List.length_take]; omega), getE_last (((cs.drop o).take (n * sz)).take j) l _ _ (by simp only [List.length_take, List.length_drop]; omega), List.getElem?_drop, List.getElem?_drop]
          simp only [List.length_take, List.length_drop]
          rw [List.getElem?_take_of_lt (by omega), List.getElem?_drop]
          congr 1; omega
        · rw [List.getElem?_eq_none (by simp only [List.length_append, List.length_take, List.length_drop]; omega), List.getElem?_eq_none (by simp only [List.length_append, List.length_take, List.length_drop]; omega)]
end Go.Canon
namespace Go.Canon
set_option linter.unusedVariables false
set_option linter.unusedSimpArgs false
open Go Go.ChangeShapes Go.WideShapes Go.Deep
section
variable {H : Type} {enc : TypeId × Value → H} {P : Program} {w : World}
theorem add_off (a : Addr) (n : Nat) : (a.add n).off = a.off + n := by
  unfold Addr.add; split
  · rename_i h; rw [h]; rfl
  · rfl
theorem cell_can {a : Addr} {v : Value} (h : w.cell? a = some v) : a.spot = none ∧ a.block < w.heap.size ∧ ∃ row : List Value, (h0 w)[a.block]? = some (.row row false none) ∧ row[a.off]? = some (canV w.heap.size v) := by
  unfold World.cell? at h
  split at h
  · rename_i c x y hc
    split at h
    · cases h
    · rename_i hs
      refine ⟨by simpa using hs, (Array.getElem?_eq_some_iff.1 hc).1, _, h0_get hc, ?_⟩
      rw [List.getElem?_map, Array.getElem?_toList, h]; rfl
  · cases h
theorem cells_can {a : Addr} {n : Nat} {cs row : List Value} (h : w.cells? 0 a n = some cs) (hrow : (h0 w)[a.block]? = some (.row row false none)) : a.off + n ≤ row.length ∨ n = 0 := by
  obtain ⟨_, hl, hc⟩ := World.cells?_some h
  cases n with
  | zero => exact .inr rfl
  | succ n =>
    have e := hc n (by omega)
    rw [List.getElem?_eq_getElem (by omega)] at e
    obtain ⟨_, _, row', h1, h2⟩ := cell_can e
    rw [block_add, hrow] at h1
    injection h1 with h1
    injection h1 with h1
    subst h1
    have := (List.getElem?_eq_some_iff.1 h2).1
    rw [add_off] at this
    exact .inl (by omega)
theorem cells_take {a : Addr} {n : Nat} {cs row : List Value} (h : w.cells? 0 a n = some cs) (hrow : (h0 w)[a.block]? = some (.row row false none)) : (row.drop a.off).take n = cs.map (canV w.heap.size) := by
  obtain ⟨_, hl, hc⟩ := World.cells?_some h
  have hb := cells_can h hrow
  apply List.ext_getElem
  · simp only [List.length_take, List.length_drop, List.length_map]; omega
  · intro i h1 h2
    simp only [List.length_map] at h2
    have e := hc i (by omega)
    rw [List.getElem?_eq_getElem h2] at e
    obtain ⟨_, _, row', e1, e2⟩ := cell_can e
    rw [block_add, hrow] at e1
    injection e1 with e1
    injection e1 with e1
    subst e1
    rw [add_off] at e2
    obtain ⟨e3, e4⟩ := List.getElem?_eq_some_iff.1 e2
    rw [List.getElem_take, List.getElem_drop, List.getElem_map]
    exact e4
theorem slice_can {a : Addr} {len cap sz : Nat} (hl : len ≤ cap) (hz : 0 < sz) {f : Nat → List Value} (hx : ∀ i, i < cap → w.cells? 0 (a.add (i * sz)) sz = some (f i)) :
    ∃ p : Pl, canV w.heap.size (.slice (some a) len cap) = .slice p.1 len p.2 ∧ Cells allB (h0 w) sz p len (((List.range len).map fun i => (f i).map (canV w.heap.size)).flatten) := by
  by_cases hc : cap = 0
  · have : len = 0 := by omega
    subst hc this
    refine ⟨(some ⟨w.heap.size, 0, none⟩, 0), ?_, by simp, Nat.le_refl _, .inr ⟨w.heap.size, 0, [], false, none, rfl, trivial, ?_, .inl rfl, .inl rfl⟩⟩
    · obtain ⟨b, o, sp⟩ := a
      simp [canV]
    · exact h0_last w
  · have h1 := hx 0 (by omega)
    obtain ⟨_, g1, g2⟩ := World.cells?_some h1
    have g3 := g2 0 hz
    rw [List.getElem?_eq_getElem (by omega)] at g3
    have ea : (a.add (0 * sz)).add 0 = a := by simp [Addr.add]
    rw [ea] at g3
    obtain ⟨e1, e2, row, e3, e4⟩ := cell_can g3
    obtain ⟨b, o, sp⟩ := a
    simp only at e1
    subst e1
    simp only at e2 e3
    have key : ∀ k, k ≤ cap → (o + k * sz ≤ row.length) ∧ (row.drop o).take (k * sz) = ((List.range k).map fun i => (f i).map (canV w.heap.size)).flatten := by
      intro k
      induction k with
      | zero =>
        intro _
        have := (List.getElem?_eq_some_iff.1 e4).1
        simp only at this
        exact ⟨by omega, by simp⟩
      | succ k ih =>
        intro hk
        obtain ⟨i1, i2⟩ := ih (by omega)
        have hk1 := hx k (by omega)
        have hr : (h0 w)[((⟨b, o, none⟩ : Addr).add (k * sz)).block]? = some (.row row false none) := by rw [block_add]; exact e3
        have c1 := cells_can hk1 hr
        have c2 := cells_take hk1 hr
        rw [add_off] at c1 c2
        simp only at c1 c2
        refine ⟨by rw [Nat.add_mul]; omega, ?_⟩
        rw [List.range_succ, List.map_append, List.flatten_append, ← i2, Nat.add_mul, Nat.one_mul, List.take_add, List.drop_drop, c2]
        simp
    obtain ⟨k1, k2⟩ := key len hl
    refine ⟨(some ⟨b, o, none⟩, cap), ?_, ?_, hl, .inr ⟨b, o, row, false, none, rfl, trivial, e3, .inl rfl, .inr ⟨k1, k2⟩⟩⟩
    · have : ¬ (len = 0 ∧ cap = 0) := fun h => hc h.2
      simp [canV, this, e2, hl]
    · rw [← k2, List.length_take, List.length_drop]; omega
theorem canV_int {n : Nat} {k : IntKind} {z : Int} : canV n (.int k z) = .int k z := rfl
theorem flat_one (l : List Nat) (z : Nat → Int) (k : IntKind) : (l.map fun i => [Value.int k (z i)]).flatten = (l.map z).map (.int k ·) := by
  induction l with
  | nil => rfl
  | cons x l ih => simp only [List.map_cons, List.flatten_cons, ih, List.singleton_append]
end
end Go.Canon
