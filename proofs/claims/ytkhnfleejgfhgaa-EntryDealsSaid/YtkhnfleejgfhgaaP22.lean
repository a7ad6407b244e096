/-
  Plain laws of chapter 24: entries. No program.
-/
import Derived.Test.YtkhnfleejgfhgaaP16
import Derived.Test.YtkhnfleejgfhgaaP15
set_option linter.all false
set_option linter.unusedSimpArgs false
set_option linter.unusedVariables false
set_option linter.unnecessarySimpa false
namespace Go.Proofs.Ytkhnfleejgfhgaa

/-- An entry: its links, its data. -/
structure En where
  lk : List Lk
  data : List Int
def en0 : En := ⟨[], []⟩
structure En.ok (e : En) : Prop where
  lk : Lks e.lk
  data : Bys e.data
def Ens (l : List En) : Prop := ∀ e ∈ l, e.ok
def rightE (pos : Int) (e : En) : Bool := rightL pos e.lk && decide (e.data.length ≤ 1048576)
theorem rightE_iff {pos : Int} {e : En} : rightE pos e = true ↔ rightL pos e.lk = true ∧ e.data.length ≤ 1048576 := by simp [rightE]
/-- How an entry's head is written. -/
def headE (pos : Int) (e : En) : List Int := linksB pos e.lk ++ vb e.data.length
/-- The reader behind a head, the links, how many bytes. -/
def RS.ehead (s : RS) (pos m : Int) : RS × (List Lk × Int) := if ((s.links pos).1.int m).1.code = 0 then (((s.links pos).1.int m).1, ((s.links pos).2, ((s.links pos).1.int m).2)) else (((s.links pos).1.int m).1, ([], 0))
theorem ehead_keep {s : RS} {pos : Int} (h : ROk s) (p0 : 0 ≤ pos) (p1 : pos < 18446744073709551616) (m : Int) : ROk (s.ehead pos m).1 ∧ (s.ehead pos m).1.l = s.l := by
  obtain ⟨a, b⟩ := links_keep h p0 p1
  obtain ⟨c, d⟩ := a.int m
  unfold RS.ehead
  split <;> exact ⟨c, d.trans b⟩
theorem Cl.many {β : Type} {F : Fmt β} (hF : ∀ s acc, Cl s → Cl (F.f s acc).1) : ∀ (n : Nat) (s : RS) (acc : List β), Cl s → Cl (F.many n s acc).1 := by
  intro n
  induction n with
  | zero => intro s acc h; exact h
  | succ n ih =>
    intro s acc h
    unfold Fmt.many
    split
    · exact ih _ _ (hF s acc h)
    · exact hF s acc h
theorem Cl.counted {β : Type} {F : Fmt β} (hF : ∀ s acc, Cl s → Cl (F.f s acc).1) {s : RS} (h : Cl s) (m : Int) : Cl (F.counted m s).1 := Cl.many hF _ _ _ (h.int m)
theorem Cl.fall {s : RS} (h : Cl s) (b m : Int) : Cl (s.fall b m).1 := by
  refine Cl.counted (F := fallF b) (fun s acc h => ?_) h m
  simp only [fallF]
  split
  · exact h.vint.fail _ _
  · exact h.vint
theorem Cl.links {s : RS} (h : Cl s) (pos : Int) : Cl (s.links pos).1 := by
  refine Cl.counted (F := linkF pos) (fun s acc h => ?_) h 16
  simp only [linkF]
  refine Cl.fall ?_ _ _
  unfold RS.lkHead
  split
  · exact h.vint.fail _ _
  · exact h.vint
theorem Cl.ehead {s : RS} (h : Cl s) (pos m : Int) : Cl (s.ehead pos m).1 := by
  unfold RS.ehead
  split <;> exact (h.links pos).int m
theorem ehead_own {s : RS} {pos m : Int} {e : En} {r : List Int} (h : ROk s) (hc : s.code = 0) (p0 : 0 ≤ pos) (p1 : pos < 18446744073709551616) (he : e.ok) (hr : rightL pos e.lk = true) (hm : (e.data.length : Int) ≤ m) (hn : e.data.length < 18446744073709551616) (hrest : s.rest = headE pos e ++ r) :
    s.ehead pos m = (s.adv ((headE pos e).length : Int), (e.lk, (e.data.length : Int))) := by
  unfold headE at hrest ⊢
  rw [List.append_assoc] at hrest
  have hl := links_own h hc p0 p1 he.lk hr hrest
  have h2 := adv_ok h hrest
  have e2 : (s.adv ((linksB pos e.lk).length : Int)).rest = vb (e.data.length : Int) ++ r := by rw [adv_rest h.at0, hrest, List.drop_left]
  have hi := int_own (m := m) (show (s.adv ((linksB pos e.lk).length : Int)).code = 0 from hc) (by omega) hm (by omega) e2
  unfold RS.ehead
  rw [hl]; simp only
  rw [hi]; simp only
  rw [if_pos (show ((s.adv ((linksB pos e.lk).length : Int)).adv ((vb (e.data.length : Int)).length : Int)).code = 0 from hc), adv_adv, List.length_append]
  rfl
/-- Entries' data, one behind the other. -/
def joinE (l : List En) : List Int := l.flatMap (·.data)
theorem joinE_snoc (l : List En) (e : En) : joinE (l ++ [e]) = joinE l ++ e.data := by simp [joinE]
/-- Entries given data by sizes. -/
def dealGo : List En → List Int → List Int → List En → List En × Bool
  | e :: hs, n :: ns, d, acc => if n < 0 ∨ (d.length : Int) < n then ([], false) else dealGo hs ns (d.drop n.toNat) (acc ++ [⟨e.lk, d.take n.toNat⟩])
  | _, _, d, acc => if d.length = 0 then (acc, true) else ([], false)
def dealE (hs : List En) (ns : List Int) (d : List Int) : List En × Bool := if hs.length = ns.length then dealGo hs ns d [] else ([], false)
theorem dealGo_bad : ∀ (hs : List En) (ns d : List Int) (acc : List En), ¬ (dealGo hs ns d acc).2 = true → (dealGo hs ns d acc).1 = [] := by
  intro hs
  induction hs with
  | nil =>
    intro ns d acc h
    simp only [dealGo] at h ⊢
    split at h
    · exact absurd rfl h
    · rename_i h1; rw [if_neg h1]
  | cons e hs ih =>
    intro ns d acc h
    cases ns with
    | nil =>
      simp only [dealGo] at h ⊢
      split at h
      · exact absurd rfl h
      · rename_i h1; rw [if_neg h1]
    | cons n ns =>
      simp only [dealGo] at h ⊢
      split
      · rfl
      · rename_i h1; rw [if_neg h1] at h; exact ih _ _ _ h
/-- What is joined is dealt as it was. -/
theorem deal_join : ∀ (l acc : List En), dealGo l (l.map fun e => (e.data.length : Int)) (joinE l) acc = (acc ++ l, true) := by
  intro l
  induction l with
  | nil => intro acc; simp [dealGo, joinE]
  | cons e l ih =>
    intro acc
    have ej : joinE (e :: l) = e.data ++ joinE l := by simp [joinE]
    simp only [List.map_cons, dealGo]
    rw [ej, if_neg (by rw [List.length_append]; omega), Int.toNat_natCast, List.drop_left, List.take_left, ih]
    simp
end Go.Proofs.Ytkhnfleejgfhgaa
