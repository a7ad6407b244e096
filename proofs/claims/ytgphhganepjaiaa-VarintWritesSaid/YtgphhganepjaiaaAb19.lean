/-
  Contracts that read or turn two objects. Over any program.
-/
import Derived.Test.YtgphhganepjaiaaAb18
namespace Go.Proofs.Ytgphhganepjaiaa
variable {P : Program} {S : List AObj} {K : KT} {f : FuncId} {args args₀ : List AV}

theorem Ct.u2 {o₀ p₀ o₁ p₁ o p o' p' : AObj} {r : AV} (h : Does P f args₀ [o₀, p₀] r [o₁, p₁]) (i j : Nat) (hij : i ≠ j) (ha : ∀ N, args₀.map (fun x => x.ren (ixs [i, j] N)) = args)
    (ho : ∀ N, o₀.ren (ixs [i, j] N) = o) (hp : ∀ N, p₀.ren (ixs [i, j] N) = p) (ho' : ∀ N, o₁.ren (ixs [i, j] N) = o') (hp' : ∀ N, p₁.ren (ixs [i, j] N) = p') (hd : o₀ ≠ .dead) (hd' : p₀ ≠ .dead) (hr : ∀ ρ, r.ren ρ = r) :
    Ct P f args [(i, o), (j, p)] (fun _ => r) [(i, o'), (j, p')] (fun _ => []) :=
  Ct.mk h [i, j] (by simpa using hij) rfl (by simp) (by simp [hd, hd']) (fun n N => by simpa using ha N) (fun n N => hr _) (fun n N => by simp [ho, hp]) (.inl fun n N => by simp [ho', hp']) (fun n N => rfl)
theorem Ct.r2 {o₀ p₀ o p : AObj} {r : AV} (h : Does P f args₀ [o₀, p₀] r [o₀, p₀]) (i j : Nat) (hij : i ≠ j) (ha : ∀ N, args₀.map (fun x => x.ren (ixs [i, j] N)) = args)
    (ho : ∀ N, o₀.ren (ixs [i, j] N) = o) (hp : ∀ N, p₀.ren (ixs [i, j] N) = p) (hd : o₀ ≠ .dead) (hd' : p₀ ≠ .dead) (hr : ∀ ρ, r.ren ρ = r) :
    Ct P f args [(i, o), (j, p)] (fun _ => r) [] (fun _ => []) :=
  Ct.mk h [i, j] (by simpa using hij) rfl (by simp) (by simp [hd, hd']) (fun n N => by simpa using ha N) (fun n N => hr _) (fun n N => by simp [ho, hp]) (.inr ⟨rfl, rfl⟩) (fun n N => rfl)
theorem CallK.r2 {r : AV} {i j : Nat} {o p : AObj} (h : Ct P f (args.map Proofs.Ytgphhganepjaiaa.untag) [(i, o), (j, p)] (fun _ => r) [] (fun _ => [])) (hS : S[i]? = some o) (hS' : S[j]? = some p) (hK : K r [i, j] [] []) : CallK P f args S K := CallK.of h.untag (by simp [hS, hS']) (by simp) hK
theorem CallK.u2 {r : AV} {i j : Nat} {o p o' p' : AObj} (h : Ct P f (args.map Proofs.Ytgphhganepjaiaa.untag) [(i, o), (j, p)] (fun _ => r) [(i, o'), (j, p')] (fun _ => [])) (hS : S[i]? = some o) (hS' : S[j]? = some p) (hK : K r [i, j] [(i, o'), (j, p')] []) : CallK P f args S K := CallK.of h.untag (by simp [hS, hS']) (by simp) hK
end Go.Proofs.Ytgphhganepjaiaa
