/-
  Chapter 31: HeaderReads, HeaderWrites.
-/
import Derived.Test.YtkhnfleejgfhgaaK46
set_option linter.all false
set_option linter.unusedSimpArgs false
set_option linter.unusedVariables false
set_option linter.unnecessarySimpa false
namespace Go.Proofs.Ytkhnfleejgfhgaa
open Go.RowKit

theorem hsame_yes {l m : List Int} (h : l = m) : sameB l m = true := by rw [h]; exact same_self m
theorem hbys_app {a b : List Int} (ha : Bys a) (hb : Bys b) : Bys (a ++ b) := fun x hx => by rcases List.mem_append.1 hx with hx | hx; exact ha x hx; exact hb x hx
theorem cl_fat {s : RS} (h : Cl s) (hc : s.code = 0) : s.fat = 0 := h hc
theorem getH_is {b : List Int} (hb : Bys b) (hn : b.length ≤ 140737488355328) : (getH b).1 = (RS.new b).header.2 ∧ (getH b).2.2 = ((RS.new b).header.1.code, (RS.new b).header.1.fat) := by
  have hcl := ((Cl.new b).header)
  unfold getH
  by_cases hc : (RS.new b).header.1.code = 0
  · rw [if_pos hc, hcl hc, hc]; exact ⟨rfl, rfl⟩
  · rw [if_neg hc, header_bad hc]; exact ⟨rfl, rfl⟩
theorem Cl.hbegin {s : RS} (h : Cl s) : Cl s.hbegin.1 := h.lets.vers
theorem verH_is {b : List Int} : (verH b).1 = (RS.new b).hbegin.2 ∧ (verH b).2 = ((RS.new b).hbegin.1.code, (RS.new b).hbegin.1.fat) := by
  have hcl := ((Cl.new b).hbegin)
  unfold verH
  by_cases hc : (RS.new b).hbegin.1.code = 0
  · rw [if_pos hc, hcl hc, hc]; exact ⟨rfl, rfl⟩
  · rw [if_neg hc]; exact ⟨(vers_bad hc).symm, rfl⟩
theorem skip_new {b : List Int} {n : Int} (n0 : 0 ≤ n) (n1 : n ≤ b.length) : (RS.new b).skip n = (⟨b, n, 0, 0⟩, true) := by
  unfold RS.skip RS.left RS.new
  simp only [if_true]
  rw [if_neg (by omega), if_neg (by omega)]
  simp
theorem hplain_begin {s : RS} (h : ROk s) (hc : s.hplain.1.code = 0) : s.hbegin.1.code = 0 := by
  obtain ⟨ka, _⟩ := hbegin_keep h
  obtain ⟨kb, _⟩ := epo_keep ka epRight
  obtain ⟨d1, _⟩ := hbase_is kb hc
  exact (epo_is ka d1).1
theorem getH_own {h : Hd} {r : List Int} (hr : rightH h = true) (hb : 0 ≤ h.base) (hB : Bys (headerB h ++ r)) (hn : (headerB h ++ r).length ≤ 140737488355328) : getH (headerB h ++ r) = (h, ((headerB h).length : Int), (0, 0)) := by
  have e := header_own (ROk.new hB hn) rfl hr hb (new_rest _)
  unfold getH
  rw [e]
  simp only
  rw [if_pos (show ((RS.new (headerB h ++ r)).adv ((headerB h).length : Int)).code = 0 from rfl)]
  show (h, (0 : Int) + _, _) = _
  rw [Int.zero_add]
theorem verH_own {h : Hd} {r : List Int} (hr : rightH h = true) (hb : 0 ≤ h.base) (hB : Bys (plainB h ++ r)) (hn : (plainB h ++ r).length ≤ 140737488355328) : verH (plainB h ++ r) = (h.ver, (0, 0)) := by
  have hok := ROk.new hB hn
  have e := hplain_own hok rfl hr hb (new_rest _)
  have c := hplain_begin hok (by rw [e]; rfl)
  have v : (RS.new (plainB h ++ r)).hbegin.2 = h.ver := by
    have : (RS.new (plainB h ++ r)).hplain.2.ver = (RS.new (plainB h ++ r)).hbegin.2 := rfl
    rw [← this, e]
  unfold verH
  rw [if_pos c, v]
theorem bytesH_bys {h : Hd} (hb : 0 ≤ h.base) : Bys (bytesH h) := by
  unfold bytesH; split
  · rename_i hr; exact headerB_bys hr hb
  · intro x hx; simp at hx
end Go.Proofs.Ytkhnfleejgfhgaa
