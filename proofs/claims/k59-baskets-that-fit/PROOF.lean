import PyProof.Rows.All
import Wide.All
import OpenK.AllK
import Wide.FinOn
import HandS.ForMost
import HandS.ForExc
import HandS.Codes
import HandS.CallSlots
import HandS.TupAny
import HandS.TupMul
import HandS.TupLe
import HandS.Style
import HandS.Wide
import HandS.Deep
import HandS.Flow
import HandS.IsInst
import HandS.StrMore
import HandS.SortInts
import HandS.Conv
import HandS.Walk
import HandS.Defaults
import HandS.Text
import HandS.Iter
import HandS.More
import PyProof.Rows.RegReprOcc
import PyProof.Rows.StrMul
import KE.GoesEnum
import HandS.Dict
import HandS.Head0
import HandS.Head1
import HandS.Head2
import HandS.HeadEnd
import HandS.HeadHook1
import HandS.HeadHook2
import HandS.HeadHook3
import HandS.HeadHook4
import HandS.Ends
import PySem.Challenge.RW_wickerwork_k59_whole_baskets_that_fit
set_option Elab.async false
set_option linter.all false
set_option maxRecDepth 100000
namespace Wk
open PySem L2

/-- plain data of a Python value -/
inductive D where
  | non | bl (b : Bool) | int (i : Int) | str (s : List Nat)
  | tup (xs : List D) | lst (xs : List D) | dic (kvs : List (D × D))
  | scr (xs : List D)
  | gl (x : Str)
  | obj (c : Str) (fs : List (Str × Bool × D))
  | opq

/-- what a slot of a frame holds: nothing, a value that stays, a list or an object of the frame's own, one lent by the caller -/
inductive Slot where
  | no | val (d : D) | own (d : D) | pin (d : D)
abbrev EnvD := List Slot

/-- an error in flight: its class by name, its fields -/
structure Exn where
  cls : Str
  fs : List (Str × D)

inductive Rs (α : Type) where
  | ok (a : α) (ρ : EnvD) | err (x : Exn) (ρ : EnvD) | stuck
abbrev M (α : Type) := EnvD → Rs α

abbrev Mg := Str → Option Value
/-- a text that the model bears: its signs are signs, and it is not too long -/
def SOk (s : List Nat) : Prop := (∀ c ∈ s, c < 1114112) ∧ s.length ≤ 16777216

mutual
/-- the value v bears the data d, in the part F of the heap that never changes -/
inductive Rp (K : PySem.W.Frag) (mg : Mg) (F : Hp) : V → D → Prop
  | non : Rp K mg F .non .non
  | bl {b : Bool} : Rp K mg F (.bl b) (.bl b)
  | int {i : Int} : Rp K mg F (.int i) (.int i)
  | str {s : List Nat} (h : SOk s) : Rp K mg F (.str ⟨s.toArray⟩) (.str s)
  | tup {a : Addr} {vs : List V} {ds : List D} (h : SqT K F a vs) (r : RpA K mg F vs ds) : Rp K mg F (.ref a) (.tup ds)
  | lst {a : Addr} {vs : List V} {ds : List D} (h : F a = some (.lst vs)) (r : RpA K mg F vs ds) : Rp K mg F (.ref a) (.lst ds)
  | scr {a : Addr} {vs : List V} {ds : List D} (h : SqL K F a vs) (r : RpA K mg F vs ds) : Rp K mg F (.ref a) (.scr ds)
  | dK {a : Addr} {kvs : List (Key × V)} {ds : List (D × D)} (h : Rd F a (.dK kvs)) (r : RpK K mg F kvs ds) : Rp K mg F (.ref a) (.dic ds)
  | dT {a : Addr} {kvs : List (List Key × V)} {ds : List (D × D)} (h : Rd F a (.dT kvs)) (r : RpT K mg F kvs ds) : Rp K mg F (.ref a) (.dic ds)
  | gl {x : Str} {v : V} {u : Value} (h : mg x = some u) (r : RelV v u) : Rp K mg F v (.gl x)
  | opq {v : V} : Rp K mg F v .opq
inductive RpA (K : PySem.W.Frag) (mg : Mg) (F : Hp) : List V → List D → Prop
  | nil : RpA K mg F [] []
  | cons {v : V} {d : D} {vs : List V} {ds : List D} (h : Rp K mg F v d) (t : RpA K mg F vs ds) : RpA K mg F (v :: vs) (d :: ds)
inductive RpK (K : PySem.W.Frag) (mg : Mg) (F : Hp) : List (Key × V) → List (D × D) → Prop
  | nil : RpK K mg F [] []
  | cons {k : Key} {v : V} {dk d : D} {kvs : List (Key × V)} {ds : List (D × D)} (hk : Rp K mg F (kV k) dk) (h : Rp K mg F v d) (t : RpK K mg F kvs ds) : RpK K mg F ((k, v) :: kvs) ((dk, d) :: ds)
inductive RpT (K : PySem.W.Frag) (mg : Mg) (F : Hp) : List (List Key × V) → List (D × D) → Prop
  | nil : RpT K mg F [] []
  | cons {k : List Key} {v : V} {dk : List D} {d : D} {kvs : List (List Key × V)} {ds : List (D × D)} (hk : RpA K mg F (k.map kV) dk) (h : Rp K mg F v d) (t : RpT K mg F kvs ds) : RpT K mg F ((k, v) :: kvs) ((.tup dk, d) :: ds)
end

section
variable {K : PySem.W.Frag} {mg : Mg} {F F' : Hp}

theorem Rd.same {a : Addr} {u : HO} (e : Same F F') (h : Rd F a u) : Rd F' a u := by
  rcases h with h | ⟨o, h⟩
  · exact .inl (e _ _ h)
  · exact .inr ⟨o, e _ _ h⟩
theorem SqT.same {a : Addr} {xs : List V} (e : Same F F') (h : SqT K F a xs) : SqT K F' a xs := by
  rcases h with h | h
  · exact .inl (Rd.same e h)
  · exact .inr h
mutual
theorem Rp.same (e : Same F F') : ∀ {v : V} {d : D}, Rp K mg F v d → Rp K mg F' v d
  | _, _, .non => .non
  | _, _, .bl => .bl
  | _, _, .int => .int
  | _, _, .str h => .str h
  | _, _, .tup h r => .tup (SqT.same e h) (RpA.same e r)
  | _, _, .lst h r => .lst (e _ _ h) (RpA.same e r)
  | _, _, .scr h r => .scr (e.seq h) (RpA.same e r)
  | _, _, .dK h r => .dK (Rd.same e h) (RpK.same e r)
  | _, _, .dT h r => .dT (Rd.same e h) (RpT.same e r)
  | _, _, .gl h r => .gl h r
  | _, _, .opq => .opq
theorem RpA.same (e : Same F F') : ∀ {vs : List V} {ds : List D}, RpA K mg F vs ds → RpA K mg F' vs ds
  | _, _, .nil => .nil
  | _, _, .cons h t => .cons (Rp.same e h) (RpA.same e t)
theorem RpK.same (e : Same F F') : ∀ {kvs : List (Key × V)} {ds : List (D × D)}, RpK K mg F kvs ds → RpK K mg F' kvs ds
  | _, _, .nil => .nil
  | _, _, .cons hk h t => .cons (Rp.same e hk) (Rp.same e h) (RpK.same e t)
theorem RpT.same (e : Same F F') : ∀ {kvs : List (List Key × V)} {ds : List (D × D)}, RpT K mg F kvs ds → RpT K mg F' kvs ds
  | _, _, .nil => .nil
  | _, _, .cons hk h t => .cons (RpA.same e hk) (Rp.same e h) (RpT.same e t)
end
theorem RpA.length : ∀ {vs : List V} {ds : List D}, RpA K mg F vs ds → vs.length = ds.length
  | _, _, .nil => rfl
  | _, _, .cons _ t => congrArg Nat.succ (RpA.length t)
theorem RpA.get : ∀ {vs : List V} {ds : List D} {i : Nat} {d : D}, RpA K mg F vs ds → ds[i]? = some d → ∃ v, vs[i]? = some v ∧ Rp K mg F v d
  | _, _, _, _, .nil, h => by simp at h
  | _, _, 0, _, .cons h _, e => by simp at e; subst e; exact ⟨_, rfl, h⟩
  | _, _, i + 1, _, .cons _ t, e => by
    obtain ⟨v, h1, h2⟩ := RpA.get (i := i) t (by simpa using e)
    exact ⟨v, by simpa using h1, h2⟩
theorem RpA.getV : ∀ {vs : List V} {ds : List D} {i : Nat} {v : V}, RpA K mg F vs ds → vs[i]? = some v → ∃ d, ds[i]? = some d ∧ Rp K mg F v d
  | _, _, _, _, .nil, h => by simp at h
  | _, _, 0, _, .cons h _, e => by simp at e; subst e; exact ⟨_, rfl, h⟩
  | _, _, i + 1, _, .cons _ t, e => by
    obtain ⟨v, h1, h2⟩ := RpA.getV (i := i) t (by simpa using e)
    exact ⟨v, by simpa using h1, h2⟩
theorem RpA.append : ∀ {vs ws : List V} {ds es : List D}, RpA K mg F vs ds → RpA K mg F ws es → RpA K mg F (vs ++ ws) (ds ++ es)
  | _, _, _, _, .nil, h => h
  | _, _, _, _, .cons h t, h' => .cons h (RpA.append t h')
theorem RpA.take : ∀ {vs : List V} {ds : List D} (n : Nat), RpA K mg F vs ds → RpA K mg F (vs.take n) (ds.take n)
  | _, _, 0, _ => .nil
  | _, _, _ + 1, .nil => .nil
  | _, _, n + 1, .cons h t => .cons h (RpA.take n t)
theorem RpA.drop : ∀ {vs : List V} {ds : List D} (n : Nat), RpA K mg F vs ds → RpA K mg F (vs.drop n) (ds.drop n)
  | _, _, 0, h => h
  | _, _, _ + 1, .nil => .nil
  | _, _, n + 1, .cons _ t => RpA.drop n t
theorem RpA.set {v : V} {d : D} (r : Rp K mg F v d) : ∀ {vs : List V} {ds : List D} (i : Nat), RpA K mg F vs ds → RpA K mg F (vs.set i v) (ds.set i d)
  | _, _, _, .nil => .nil
  | _, _, 0, .cons _ t => .cons r t
  | _, _, i + 1, .cons h t => .cons h (RpA.set r i t)
theorem RpA.reverse {vs : List V} {ds : List D} (h : RpA K mg F vs ds) : RpA K mg F vs.reverse ds.reverse := by
  induction vs generalizing ds with
  | nil => cases h; exact .nil
  | cons v vs ih =>
    cases h with
    | cons h t =>
      rw [List.reverse_cons, List.reverse_cons]
      exact (ih t).append (.cons h .nil)
theorem RpA.nil_iff {vs : List V} {ds : List D} (h : RpA K mg F vs ds) : vs = [] ↔ ds = [] := by
  cases h <;> simp
theorem RpA.replicate {v : V} {d : D} (r : Rp K mg F v d) : ∀ n : Nat, RpA K mg F (List.replicate n v) (List.replicate n d)
  | 0 => .nil
  | n + 1 => .cons r (RpA.replicate r n)
end

mutual
/-- an object of the frame's own at v: its content, and the addresses that it takes -/
inductive Ow (K : PySem.W.Frag) (mg : Mg) (F H : Hp) : V → D → List Addr → Prop
  | lst {a : Addr} {vs : List V} {ds : List D} (h : H a = some (.lst vs)) (n : F a = none) (r : RpA K mg F vs ds) : Ow K mg F H (.ref a) (.lst ds) [a]
  | dK {a : Addr} {kvs : List (Key × V)} {ds : List (D × D)} (h : H a = some (.dK kvs)) (n : F a = none) (r : RpK K mg F kvs ds) : Ow K mg F H (.ref a) (.dic ds) [a]
  | dT {a : Addr} {kvs : List (List Key × V)} {ds : List (D × D)} (h : H a = some (.dT kvs)) (n : F a = none) (r : RpT K mg F kvs ds) : Ow K mg F H (.ref a) (.dic ds) [a]
  | obj {a C dx : Addr} {fvs : List (Str × V)} {c : Str} {fs : List (Str × Bool × D)} {L : List Addr} (h : H a = some (.ins C dx fvs)) (n : F a = none) (hc : mg c = some (.ref C)) (r : OwF K mg F H fvs fs L) :
      Ow K mg F H (.ref a) (.obj c fs) (a :: L)
inductive OwF (K : PySem.W.Frag) (mg : Mg) (F H : Hp) : List (Str × V) → List (Str × Bool × D) → List Addr → Prop
  | nil : OwF K mg F H [] [] []
  | val {x : Str} {v : V} {d : D} {fvs : List (Str × V)} {fs : List (Str × Bool × D)} {L : List Addr} (h : Rp K mg F v d) (t : OwF K mg F H fvs fs L) : OwF K mg F H ((x, v) :: fvs) ((x, false, d) :: fs) L
  | own {x : Str} {v : V} {d : D} {fvs : List (Str × V)} {fs : List (Str × Bool × D)} {L1 L : List Addr} (h : Ow K mg F H v d L1) (t : OwF K mg F H fvs fs L) : OwF K mg F H ((x, v) :: fvs) ((x, true, d) :: fs) (L1 ++ L)
end

section
variable {K : PySem.W.Frag} {mg : Mg} {F F' H H' : Hp}
mutual
theorem Ow.out : ∀ {v : V} {d : D} {L : List Addr}, Ow K mg F H v d L → ∀ a ∈ L, F a = none ∧ ∃ o, H a = some o
  | _, _, _, .lst h n _, b, hb => by simp at hb; subst hb; exact ⟨n, _, h⟩
  | _, _, _, .dK h n _, b, hb => by simp at hb; subst hb; exact ⟨n, _, h⟩
  | _, _, _, .dT h n _, b, hb => by simp at hb; subst hb; exact ⟨n, _, h⟩
  | _, _, _, .obj h n _ r, b, hb => by
    rcases List.mem_cons.mp hb with rfl | hb
    · exact ⟨n, _, h⟩
    · exact OwF.out r b hb
theorem OwF.out : ∀ {fvs : List (Str × V)} {fs : List (Str × Bool × D)} {L : List Addr}, OwF K mg F H fvs fs L → ∀ a ∈ L, F a = none ∧ ∃ o, H a = some o
  | _, _, _, .nil, b, hb => by simp at hb
  | _, _, _, .val _ t, b, hb => OwF.out t b hb
  | _, _, _, .own h t, b, hb => by
    rcases List.mem_append.mp hb with hb | hb
    · exact Ow.out h b hb
    · exact OwF.out t b hb
end
mutual
theorem Ow.frame (e : Same F F') : ∀ {v : V} {d : D} {L : List Addr}, Ow K mg F H v d L → (∀ a ∈ L, ∀ o, H a = some o → H' a = some o) → (∀ a ∈ L, F' a = none) → Ow K mg F' H' v d L
  | _, _, _, .lst h n r, k, z => .lst (k _ (by simp) _ h) (z _ (by simp)) (r.same e)
  | _, _, _, .dK h n r, k, z => .dK (k _ (by simp) _ h) (z _ (by simp)) (r.same e)
  | _, _, _, .dT h n r, k, z => .dT (k _ (by simp) _ h) (z _ (by simp)) (r.same e)
  | _, _, _, .obj h n hc r, k, z => .obj (k _ (by simp) _ h) (z _ (by simp)) hc (OwF.frame e r (fun a ha => k a (List.mem_cons_of_mem _ ha)) fun a ha => z a (List.mem_cons_of_mem _ ha))
theorem OwF.frame (e : Same F F') : ∀ {fvs : List (Str × V)} {fs : List (Str × Bool × D)} {L : List Addr}, OwF K mg F H fvs fs L → (∀ a ∈ L, ∀ o, H a = some o → H' a = some o) → (∀ a ∈ L, F' a = none) → OwF K mg F' H' fvs fs L
  | _, _, _, .nil, _, _ => .nil
  | _, _, _, .val h t, k, z => .val (h.same e) (OwF.frame e t k z)
  | _, _, _, .own h t, k, z => .own (Ow.frame e h (fun a ha => k a (List.mem_append_left _ ha)) fun a ha => z a (List.mem_append_left _ ha)) (OwF.frame e t (fun a ha => k a (List.mem_append_right _ ha)) fun a ha => z a (List.mem_append_right _ ha))
end
end

/-- the frame's slots bear ρ; L: the addresses of its own objects -/
inductive ERs (K : PySem.W.Frag) (mg : Mg) (F H : Hp) : St → EnvD → List Addr → Prop
  | nil : ERs K mg F H [] [] []
  | no {o : Option V} {σ : St} {ρ : EnvD} {L : List Addr} (t : ERs K mg F H σ ρ L) : ERs K mg F H (o :: σ) (.no :: ρ) L
  | val {v : V} {d : D} {σ : St} {ρ : EnvD} {L : List Addr} (h : Rp K mg F v d) (t : ERs K mg F H σ ρ L) : ERs K mg F H (some v :: σ) (.val d :: ρ) L
  | own {v : V} {d : D} {σ : St} {ρ : EnvD} {L1 L : List Addr} (h : Ow K mg F H v d L1) (t : ERs K mg F H σ ρ L) : ERs K mg F H (some v :: σ) (.own d :: ρ) (L1 ++ L)
  | pin {v : V} {d : D} {σ : St} {ρ : EnvD} {L1 L : List Addr} (h : Ow K mg F H v d L1) (t : ERs K mg F H σ ρ L) : ERs K mg F H (some v :: σ) (.pin d :: ρ) (L1 ++ L)

structure ER (K : PySem.W.Frag) (mg : Mg) (F H : Hp) (L : List Addr) (σ : St) (ρ : EnvD) : Prop where
  fh : Same F H
  rs : ERs K mg F H σ ρ L
  nd : L.Nodup

section
variable {K : PySem.W.Frag} {mg : Mg} {F F' H H' : Hp}
theorem ERs.out : ∀ {σ : St} {ρ : EnvD} {L : List Addr}, ERs K mg F H σ ρ L → ∀ a ∈ L, F a = none ∧ ∃ o, H a = some o
  | _, _, _, .nil, b, hb => by simp at hb
  | _, _, _, .no t, b, hb => ERs.out t b hb
  | _, _, _, .val _ t, b, hb => ERs.out t b hb
  | _, _, _, .own h t, b, hb => by
    rcases List.mem_append.mp hb with hb | hb
    · exact h.out b hb
    · exact ERs.out t b hb
  | _, _, _, .pin h t, b, hb => by
    rcases List.mem_append.mp hb with hb | hb
    · exact h.out b hb
    · exact ERs.out t b hb
theorem ERs.frame (e : Same F F') : ∀ {σ : St} {ρ : EnvD} {L : List Addr}, ERs K mg F H σ ρ L → (∀ a ∈ L, ∀ o, H a = some o → H' a = some o) → (∀ a ∈ L, F' a = none) → ERs K mg F' H' σ ρ L
  | _, _, _, .nil, _, _ => .nil
  | _, _, _, .no t, k, z => .no (ERs.frame e t k z)
  | _, _, _, .val h t, k, z => .val (h.same e) (ERs.frame e t k z)
  | _, _, _, .own h t, k, z => .own (h.frame e (fun a ha => k a (List.mem_append_left _ ha)) fun a ha => z a (List.mem_append_left _ ha)) (ERs.frame e t (fun a ha => k a (List.mem_append_right _ ha)) fun a ha => z a (List.mem_append_right _ ha))
  | _, _, _, .pin h t, k, z => .pin (h.frame e (fun a ha => k a (List.mem_append_left _ ha)) fun a ha => z a (List.mem_append_left _ ha)) (ERs.frame e t (fun a ha => k a (List.mem_append_right _ ha)) fun a ha => z a (List.mem_append_right _ ha))
theorem ERs.length : ∀ {σ : St} {ρ : EnvD} {L : List Addr}, ERs K mg F H σ ρ L → σ.length = ρ.length
  | _, _, _, .nil => rfl
  | _, _, _, .no t => congrArg Nat.succ (ERs.length t)
  | _, _, _, .val _ t => congrArg Nat.succ (ERs.length t)
  | _, _, _, .own _ t => congrArg Nat.succ (ERs.length t)
  | _, _, _, .pin _ t => congrArg Nat.succ (ERs.length t)
theorem ERs.getVal : ∀ {σ : St} {ρ : EnvD} {L : List Addr} {i : Nat} {d : D}, ERs K mg F H σ ρ L → ρ[i]? = some (.val d) → ∃ v, σ[i]? = some (some v) ∧ Rp K mg F v d
  | _, _, _, _, _, .nil, e => by simp at e
  | _, _, _, 0, _, .no t, e => by simp at e
  | _, _, _, 0, _, .val h t, e => by simp at e; subst e; exact ⟨_, rfl, h⟩
  | _, _, _, 0, _, .own _ t, e => by simp at e
  | _, _, _, 0, _, .pin _ t, e => by simp at e
  | _, _, _, i + 1, _, .no t, e => by simpa using ERs.getVal (i := i) t (by simpa using e)
  | _, _, _, i + 1, _, .val _ t, e => by simpa using ERs.getVal (i := i) t (by simpa using e)
  | _, _, _, i + 1, _, .own _ t, e => by simpa using ERs.getVal (i := i) t (by simpa using e)
  | _, _, _, i + 1, _, .pin _ t, e => by simpa using ERs.getVal (i := i) t (by simpa using e)
end

/-- what may have changed: own objects (at L), new ones; F grows by own or new ones alone -/
structure Ex (F H : Hp) (L : List Addr) (F' H' : Hp) (L' : List Addr) : Prop where
  ff : Same F F'
  keep : ∀ a o, H a = some o → a ∉ L → H' a = some o
  fdom : ∀ a o, F' a = some o → F a = some o ∨ a ∈ L ∨ H a = none
  ldom : ∀ a ∈ L', a ∈ L ∨ H a = none
theorem Ex.refl (F H : Hp) (L : List Addr) : Ex F H L F H L := ⟨Same.refl _, fun _ _ h _ => h, fun _ _ h => .inl h, fun _ h => .inl h⟩
theorem Ex.trans {F H F1 H1 F2 H2 : Hp} {L L1 L2 : List Addr} (a : Ex F H L F1 H1 L1) (b : Ex F1 H1 L1 F2 H2 L2) : Ex F H L F2 H2 L2 where
  ff := a.ff.trans b.ff
  keep := fun c o h n => b.keep c o (a.keep c o h n) fun z => by
    rcases a.ldom c z with z | z
    · exact n z
    · rw [h] at z; cases z
  fdom := fun c o h => by
    have new : H1 c = none → c ∈ L ∨ H c = none := fun z => by
      by_cases hc : c ∈ L
      · exact .inl hc
      · cases q : H c with
        | none => exact .inr rfl
        | some u => rw [a.keep c u q hc] at z; cases z
    rcases b.fdom c o h with h | h | h
    · exact a.fdom c o h
    · exact .inr (a.ldom c h)
    · exact .inr (new h)
  ldom := fun c h => by
    rcases b.ldom c h with h | h
    · exact a.ldom c h
    · by_cases hc : c ∈ L
      · exact .inl hc
      · cases q : H c with
        | none => exact .inr rfl
        | some u => rw [a.keep c u q hc] at h; cases h
/-- what is lent stays lent -/
def Pk (ρ ρ' : EnvD) : Prop := ∀ (i : Nat) (d : D), ρ[i]? = some (Slot.pin d) → ∃ d' : D, ρ'[i]? = some (Slot.pin d')
theorem Pk.refl (ρ : EnvD) : Pk ρ ρ := fun _ d h => ⟨d, h⟩
theorem Pk.trans {ρ ρ1 ρ2 : EnvD} (a : Pk ρ ρ1) (b : Pk ρ1 ρ2) : Pk ρ ρ2 := fun i d h => (a i d h).elim fun d1 h1 => b i d1 h1
/-- with the mode: true for what changes nothing that stood -/
structure Exm (m : Bool) (F H : Hp) (L : List Addr) (ρ : EnvD) (F' H' : Hp) (L' : List Addr) (ρ' : EnvD) : Prop where
  ex : Ex F H L F' H' L'
  pk : Pk ρ ρ'
  pure : m = true → ρ' = ρ ∧ L' = L ∧ Same H H'
theorem Exm.refl (m : Bool) (F H : Hp) (L : List Addr) (ρ : EnvD) : Exm m F H L ρ F H L ρ := ⟨Ex.refl _ _ _, Pk.refl _, fun _ => ⟨rfl, rfl, Same.refl _⟩⟩
theorem Exm.trans {m : Bool} {F H F1 H1 F2 H2 : Hp} {L L1 L2 : List Addr} {ρ ρ1 ρ2 : EnvD} (a : Exm m F H L ρ F1 H1 L1 ρ1) (b : Exm m F1 H1 L1 ρ1 F2 H2 L2 ρ2) : Exm m F H L ρ F2 H2 L2 ρ2 :=
  ⟨a.ex.trans b.ex, a.pk.trans b.pk, fun hm => by
    obtain ⟨a1, a2, a3⟩ := a.pure hm
    obtain ⟨b1, b2, b3⟩ := b.pure hm
    exact ⟨b1.trans a1, b2.trans a2, a3.trans b3⟩⟩
theorem Exm.imp {m : Bool} {F H F1 H1 : Hp} {L L1 : List Addr} {ρ ρ1 : EnvD} (a : Exm m F H L ρ F1 H1 L1 ρ1) : Exm false F H L ρ F1 H1 L1 ρ1 := ⟨a.ex, a.pk, fun h => by cases h⟩

/-- new things alone, all of them known from now on -/
structure Gw (F H F' H' : Hp) : Prop where
  ff : Same F F'
  fh : Same F' H'
  hh : Same H H'
  new : ∀ a o, F' a = some o → F a = some o ∨ H a = none
theorem Gw.refl {F H : Hp} (e : Same F H) : Gw F H F H := ⟨Same.refl _, e, Same.refl _, fun _ _ h => .inl h⟩
theorem Gw.trans {F H F1 H1 F2 H2 : Hp} (a : Gw F H F1 H1) (b : Gw F1 H1 F2 H2) : Gw F H F2 H2 :=
  ⟨a.ff.trans b.ff, b.fh, a.hh.trans b.hh, fun c o h => by
    rcases b.new c o h with h | h
    · exact a.new c o h
    · exact .inr (a.hh.free h)⟩
theorem Gw.upd {F H : Hp} {p : Addr} {o : HO} (e : Same F H) (n : H p = none) : Gw F H (upd F p o) (upd H p o) where
  ff := fun b u h => by rw [upd_ne (ne_of_none (e _ _ h) n)]; exact h
  fh := fun b u h => by
    by_cases hb : b = p
    · subst hb; rw [upd_same] at h ⊢; exact h
    · rw [upd_ne hb] at h ⊢; exact e _ _ h
  hh := fun b u h => by rw [upd_ne (ne_of_none h n)]; exact h
  new := fun b u h => by
    by_cases hb : b = p
    · subst hb; exact .inr n
    · rw [upd_ne hb] at h; exact .inl h
section
variable {K : PySem.W.Frag} {mg : Mg} {F F' H H' : Hp} {L : List Addr} {σ : St} {ρ : EnvD}
theorem Gw.er (g : Gw F H F' H') (e : ER K mg F H L σ ρ) : ER K mg F' H' L σ ρ :=
  ⟨g.fh, e.rs.frame g.ff (fun a _ o h => g.hh a o h) (fun a ha => by
    obtain ⟨n, o, ho⟩ := e.rs.out a ha
    cases q : F' a with
    | none => rfl
    | some u =>
      rcases g.new a u q with h | h
      · rw [n] at h; cases h
      · rw [ho] at h; cases h), e.nd⟩
theorem Gw.exm (g : Gw F H F' H') (m : Bool) (L : List Addr) (ρ : EnvD) : Exm m F H L ρ F' H' L ρ :=
  ⟨⟨g.ff, fun a o h _ => g.hh a o h, fun a o h => (g.new a o h).imp id .inr, fun a h => .inl h⟩, Pk.refl _, fun _ => ⟨rfl, rfl, g.hh⟩⟩
end

/-- the fields of an error's own dict -/
inductive RpF (K : PySem.W.Frag) (mg : Mg) (F : Hp) : List (Str × V) → List (Str × D) → Prop
  | nil : RpF K mg F [] []
  | cons {x : Str} {v : V} {d : D} {fvs : List (Str × V)} {fs : List (Str × D)} (h : Rp K mg F v d) (t : RpF K mg F fvs fs) : RpF K mg F ((x, v) :: fvs) ((x, d) :: fs)
def XR (K : PySem.W.Frag) (mg : Mg) (F : Hp) (x : Exn) (c : Value) (dx : Option Addr) : Prop :=
  (∃ C : Addr, c = .ref C ∧ mg x.cls = some (.ref C)) ∧ ((x.fs = [] ∧ dx = none) ∨ ∃ (d : Addr) (fvs : List (Str × V)), dx = some d ∧ F d = some (.xd fvs) ∧ RpF K mg F fvs x.fs)

/-- what a computation leaves to be shown; R: how its answer is borne -/
def Post {α β : Type} (R : Hp → β → α → Prop) (K : PySem.W.Frag) (mg : Mg) (W : WX) (m : Bool) (F H : Hp) (L : List Addr) (σ : St) (ρ : EnvD) (Q : β → Hp → Prop) : Rs α → Prop
  | .ok d ρ' => ∀ v F' H' L', Exm m F H L ρ F' H' L' ρ' → ER K mg F' H' L' σ ρ' → R F' v d → Q v H'
  | .err x ρ' => ∀ c dx F' H' L', Exm false F H L ρ F' H' L' ρ' → ER K mg F' H' L' σ ρ' → XR K mg F' x c dx → W c dx σ H'
  | .stuck => False
def tG {α β : Type} (R : Hp → β → α → Prop) (K : PySem.W.Frag) (mg : Mg) (W : WX) (m : Bool) (f : M α) : St → Hp → (β → Hp → Prop) → Prop := fun σ H Q => ∃ F L ρ, ER K mg F H L σ ρ ∧ Post R K mg W m F H L σ ρ Q (f ρ)
abbrev REq : Hp → Bool → Bool → Prop := fun _ b c => b = c
/-- the expression e computes f -/
abbrev DE (X : Cx) (W : WX) (m : Bool) (e : Expr) (f : M D) : Prop := PE X e (tG (Rp X.K X.mg) X.K X.mg W m f)
/-- .. a test -/
abbrev DT (X : Cx) (W : WX) (m : Bool) (e : Expr) (f : M Bool) : Prop := PT X e (tG REq X.K X.mg W m f)
abbrev DW (X : Cx) (W : WX) (m : Bool) (e : Expr) (f : M Bool) : Prop := PW X e (tG REq X.K X.mg W m f)
/-- .. an argument list -/
abbrev DAs (X : Cx) (W : WX) (m : Bool) (es : List Expr) (f : M (List D)) : Prop := PA X es (tG (RpA X.K X.mg) X.K X.mg W m f)

def ret {α : Type} (a : α) : M α := fun ρ => .ok a ρ
def bnd {α β : Type} (f : M α) (g : α → M β) : M β := fun ρ => match f ρ with
  | .ok a ρ' => g a ρ'
  | .err x ρ' => .err x ρ'
  | .stuck => .stuck
def lift {α : Type} (o : Option α) : M α := fun ρ => match o with
  | some a => .ok a ρ
  | none => .stuck

section
variable {α β γ δ : Type} {R : Hp → β → α → Prop} {R2 : Hp → δ → γ → Prop} {K : PySem.W.Frag} {mg : Mg} {W : WX} {m : Bool} {F F1 H H1 : Hp} {L L1 : List Addr} {σ : St} {ρ ρ1 : EnvD}
theorem Post.mono {Q : β → Hp → Prop} {r : Rs α} (p : Post R K mg W m F H L σ ρ Q r) (x : Exm m F H L ρ F1 H1 L1 ρ1) : Post R K mg W m F1 H1 L1 σ ρ1 Q r := by
  cases r with
  | ok d ρ' => exact fun v F' H' L' x' er r => p v F' H' L' (x.trans x') er r
  | err e ρ' => exact fun c dx F' H' L' x' er r => p c dx F' H' L' (x.imp.trans x') er r
  | stuck => exact p
theorem tG_bnd {f : M α} {g : α → M γ} {Q : δ → Hp → Prop} {Q1 : β → Hp → Prop} (er : ER K mg F H L σ ρ) (p : Post R2 K mg W m F H L σ ρ Q (bnd f g ρ))
    (k : ∀ b a F1 H1 L1 ρ1, Exm m F H L ρ F1 H1 L1 ρ1 → ER K mg F1 H1 L1 σ ρ1 → R F1 b a → Post R2 K mg W m F1 H1 L1 σ ρ1 Q (g a ρ1) → Q1 b H1) : tG R K mg W m f σ H Q1 := by
  refine ⟨F, L, ρ, er, ?_⟩
  unfold bnd at p
  cases e : f ρ with
  | ok a ρ' => rw [e] at p; exact fun v F' H' L' x er' r => k v a F' H' L' ρ' x er' r (Post.mono p x)
  | err x ρ' => rw [e] at p; exact p
  | stuck => rw [e] at p; exact p
theorem lift_post {o : Option α} {Q : β → Hp → Prop} (er : ER K mg F H L σ ρ) (p : Post R K mg W m F H L σ ρ Q (lift o ρ)) : ∃ d, o = some d ∧ ∀ v F' H', Gw F H F' H' → R F' v d → Q v H' := by
  cases o with
  | some d => exact ⟨d, rfl, fun v F' H' g r => p v F' H' L (g.exm m L ρ) (g.er er) r⟩
  | none => exact p.elim
theorem ret_post {a : α} {Q : β → Hp → Prop} (er : ER K mg F H L σ ρ) (p : Post R K mg W m F H L σ ρ Q (ret a ρ)) : ∀ v F' H', Gw F H F' H' → R F' v a → Q v H' :=
  fun v F' H' g r => p v F' H' L (g.exm m L ρ) (g.er er) r
end

theorem PE.imp {X : Cx} {e : Expr} {t t' : TE} (h : PE X e t) (k : ∀ σ H Q, t' σ H Q → t σ H Q) : PE X e t' := ⟨fun pins s σ H Q I q => h.run pins s σ H Q I (k σ H Q q)⟩
theorem PT.imp {X : Cx} {e : Expr} {t t' : TT} (h : PT X e t) (k : ∀ σ H Q, t' σ H Q → t σ H Q) : PT X e t' := ⟨fun pins s σ H Q I q => h.run pins s σ H Q I (k σ H Q q)⟩
theorem PW.imp {X : Cx} {e : Expr} {t t' : TT} (h : PW X e t) (k : ∀ σ H Q, t' σ H Q → t σ H Q) : PW X e t' := ⟨fun wh pins s σ H Q I q => h.run wh pins s σ H Q I (k σ H Q q)⟩
theorem PA.imp {X : Cx} {es : List Expr} {t t' : TA} (h : PA X es t) (k : ∀ σ H Q, t' σ H Q → t σ H Q) : PA X es t' := ⟨fun p pins s σ H Q I q => h.run p pins s σ H Q I (k σ H Q q)⟩
theorem PS.imp {X : Cx} {st : Stmt} {t t' : TS} (h : PS X st t) (k : ∀ D σ H, t' D σ H → t D σ H) : PS X st t' := ⟨fun pins s σ H D I q => h.run pins s σ H D I (k D σ H q)⟩
theorem PSs.imp {X : Cx} {st : List Stmt} {t t' : TS} (h : PSs X st t) (k : ∀ D σ H, t' D σ H → t D σ H) : PSs X st t' := ⟨fun pins s σ H D I q => h.run pins s σ H D I (k D σ H q)⟩

end Wk
set_option Elab.async false
set_option linter.all false
set_option maxRecDepth 100000
namespace Wk
open PySem PySem.Spec PyProof.Rows L2

theorem SOk.nil : SOk [] := ⟨fun _ h => by simp at h, by decide⟩
theorem SOk.app {s t : List Nat} (a : SOk s) (b : SOk t) (h : s.length + t.length ≤ 16777216) : SOk (s ++ t) :=
  ⟨fun c hc => (List.mem_append.mp hc).elim (a.1 c) (b.1 c), by rw [List.length_append]; exact h⟩
theorem SOk.sub {s t : List Nat} (a : SOk t) (h : ∀ c ∈ s, c ∈ t) (hl : s.length ≤ t.length) : SOk s := ⟨fun c hc => a.1 c (h c hc), Nat.le_trans hl a.2⟩
theorem SOk.one {s : List Nat} (a : SOk s) {c : Nat} (h : c ∈ s) : SOk [c] := ⟨fun d hd => by simp at hd; subst hd; exact a.1 _ h, by show 1 ≤ 16777216; decide⟩
theorem SOk.of {s : List Nat} (h : (s.all fun c => decide (c < 1114112)) = true) (hl : decide (s.length ≤ 16777216) = true) : SOk s :=
  ⟨fun c hc => by simpa using List.all_eq_true.mp h c hc, by simpa using hl⟩
theorem line_eq : (sizeLine : Nat) = 16777216 := sizeLine_eq

/-! ### data and PyData -/
mutual
def toP : D → PyData
  | .non => .none
  | .bl b => .bool b
  | .int i => .int i
  | .str s => .str ⟨s.toArray⟩
  | .tup xs => .tuple (toPs xs)
  | .lst xs => .list (toPs xs)
  | .dic _ => .none
  | .scr _ => .none
  | .gl _ => .none
  | .obj _ _ => .none
  | .opq => .none
def toPs : List D → List PyData
  | [] => []
  | x :: xs => toP x :: toPs xs
end
mutual
/-- plain data of at most so many levels -/
def sh : Nat → D → Bool
  | _, .non => true
  | _, .bl _ => true
  | _, .int _ => true
  | _, .str _ => true
  | n + 1, .tup xs => shs n xs
  | n + 1, .lst xs => shs n xs
  | _, _ => false
def shs : Nat → List D → Bool
  | _, [] => true
  | n, x :: xs => sh n x && shs n xs
end
mutual
/-- == of plain data -/
def eqv : D → D → Bool
  | .non, .non => true
  | .bl a, .bl b => a == b
  | .bl a, .int j => (if a then 1 else 0) == j
  | .int i, .bl b => i == (if b then 1 else 0)
  | .int i, .int j => i == j
  | .str x, .str y => x == y
  | .tup xs, .tup ys => eqvs xs ys
  | .lst xs, .lst ys => eqvs xs ys
  | _, _ => false
def eqvs : List D → List D → Bool
  | [], [] => true
  | x :: xs, y :: ys => eqv x y && eqvs xs ys
  | _, _ => false
end
theorem str_beq {a b : List Nat} : ((⟨a.toArray⟩ : Str) == ⟨b.toArray⟩) = (a == b) := by
  rw [Bool.eq_iff_iff]
  simp
mutual
theorem eqv_toP : ∀ (x y : D) (n m : Nat), sh n x = true → sh m y = true → PyData.eqv (toP x) (toP y) = eqv x y
  | .tup xs, .tup ys, n, m, hx, hy => by
    cases n with
    | zero => simp [sh] at hx
    | succ n =>
      cases m with
      | zero => simp [sh] at hy
      | succ m =>
        simp only [toP, eqv, PyData.eqv]
        simp only [sh] at hx hy
        exact eqvs_toP xs ys n m hx hy
  | .lst xs, .lst ys, n, m, hx, hy => by
    cases n with
    | zero => simp [sh] at hx
    | succ n =>
      cases m with
      | zero => simp [sh] at hy
      | succ m =>
        simp only [toP, eqv, PyData.eqv]
        simp only [sh] at hx hy
        exact eqvs_toP xs ys n m hx hy
  | .non, y, n, m, hx, hy => by cases y <;> simp_all [sh, toP, eqv, PyData.eqv, str_beq]
  | .bl _, y, n, m, hx, hy => by cases y <;> simp_all [sh, toP, eqv, PyData.eqv, str_beq]
  | .int _, y, n, m, hx, hy => by cases y <;> simp_all [sh, toP, eqv, PyData.eqv, str_beq]
  | .str _, y, n, m, hx, hy => by cases y <;> simp_all [sh, toP, eqv, PyData.eqv, str_beq]
  | .dic _, y, n, m, hx, hy => by simp [sh] at hx
  | .scr _, y, n, m, hx, hy => by simp [sh] at hx
  | .gl _, y, n, m, hx, hy => by simp [sh] at hx
  | .obj _ _, y, n, m, hx, hy => by simp [sh] at hx
  | .opq, y, n, m, hx, hy => by simp [sh] at hx
  | .tup _, .non, n, m, hx, hy => by simp [toP, eqv, PyData.eqv]
  | .tup _, .bl _, n, m, hx, hy => by simp [toP, eqv, PyData.eqv]
  | .tup _, .int _, n, m, hx, hy => by simp [toP, eqv, PyData.eqv]
  | .tup _, .str _, n, m, hx, hy => by simp [toP, eqv, PyData.eqv]
  | .tup _, .lst _, n, m, hx, hy => by simp [toP, eqv, PyData.eqv]
  | .tup _, .dic _, n, m, hx, hy => by simp [sh] at hy
  | .tup _, .scr _, n, m, hx, hy => by simp [sh] at hy
  | .tup _, .gl _, n, m, hx, hy => by simp [sh] at hy
  | .tup _, .obj _ _, n, m, hx, hy => by simp [sh] at hy
  | .tup _, .opq, n, m, hx, hy => by simp [sh] at hy
  | .lst _, .non, n, m, hx, hy => by simp [toP, eqv, PyData.eqv]
  | .lst _, .bl _, n, m, hx, hy => by simp [toP, eqv, PyData.eqv]
  | .lst _, .int _, n, m, hx, hy => by simp [toP, eqv, PyData.eqv]
  | .lst _, .str _, n, m, hx, hy => by simp [toP, eqv, PyData.eqv]
  | .lst _, .tup _, n, m, hx, hy => by simp [toP, eqv, PyData.eqv]
  | .lst _, .dic _, n, m, hx, hy => by simp [sh] at hy
  | .lst _, .scr _, n, m, hx, hy => by simp [sh] at hy
  | .lst _, .gl _, n, m, hx, hy => by simp [sh] at hy
  | .lst _, .obj _ _, n, m, hx, hy => by simp [sh] at hy
  | .lst _, .opq, n, m, hx, hy => by simp [sh] at hy
theorem eqvs_toP : ∀ (xs ys : List D) (n m : Nat), shs n xs = true → shs m ys = true → PyData.eqvAll (toPs xs) (toPs ys) = eqvs xs ys
  | [], [], n, m, _, _ => by simp [toPs, eqvs, PyData.eqvAll]
  | [], y :: ys, n, m, _, _ => by simp [toPs, eqvs, PyData.eqvAll]
  | x :: xs, [], n, m, _, _ => by simp [toPs, eqvs, PyData.eqvAll]
  | x :: xs, y :: ys, n, m, hx, hy => by
    simp only [shs, Bool.and_eq_true] at hx hy
    simp only [toPs, eqvs, PyData.eqvAll]
    rw [eqv_toP x y n m hx.1 hy.1, eqvs_toP xs ys n m hx.2 hy.2]
end
section
variable {K : PySem.W.Frag} {mg : Mg} {F F' H H' : Hp}
mutual
theorem Rp.dp : ∀ {n : Nat} {v : V} {d : D}, Rp K mg F v d → sh n d = true → Same F H → Dp K H v (toP d) ∧ (toP d).canLay0 = true ∧ (toP d).depth ≤ n
  | _, _, _, .non, _, _ => ⟨by simp only [toP]; exact .non, by simp [toP, PyData.canLay0], by simp [toP, PyData.depth]⟩
  | _, _, _, .bl, _, _ => ⟨by simp only [toP]; exact .bl _, by simp [toP, PyData.canLay0], by simp [toP, PyData.depth]⟩
  | _, _, _, .int, _, _ => ⟨by simp only [toP]; exact .int _, by simp [toP, PyData.canLay0], by simp [toP, PyData.depth]⟩
  | _, _, _, .str h, _, _ => ⟨by simp only [toP]; exact .str _, by simp [toP, PyData.canLay0, PyData.strOk]; exact h.1, by simp [toP, PyData.depth]⟩
  | n, _, _, .tup h r, hs, e => by
    cases n with
    | zero => simp [sh] at hs
    | succ n =>
      simp only [sh] at hs
      obtain ⟨a, b, c⟩ := RpA.dp r hs e
      simp only [toP]
      exact ⟨.tup (SqT.same e h) a, by simpa [PyData.canLay0] using b, by simp only [PyData.depth]; omega⟩
  | n, _, _, .lst h r, hs, e => by
    cases n with
    | zero => simp [sh] at hs
    | succ n =>
      simp only [sh] at hs
      obtain ⟨a, b, c⟩ := RpA.dp r hs e
      simp only [toP]
      exact ⟨.lst (SqL.of (e _ _ h)) a, by simpa [PyData.canLay0] using b, by simp only [PyData.depth]; omega⟩
  | _, _, _, .scr _ _, hs, _ => by simp [sh] at hs
  | _, _, _, .dK _ _, hs, _ => by simp [sh] at hs
  | _, _, _, .dT _ _, hs, _ => by simp [sh] at hs
  | _, _, _, .gl _ _, hs, _ => by simp [sh] at hs
  | _, _, _, .opq, hs, _ => by simp [sh] at hs
theorem RpA.dp : ∀ {n : Nat} {vs : List V} {ds : List D}, RpA K mg F vs ds → shs n ds = true → Same F H → DpAll K H vs (toPs ds) ∧ PyData.canLayAll0 (toPs ds) = true ∧ PyData.depthAll (toPs ds) ≤ n
  | _, _, _, .nil, _, _ => ⟨by simp only [toPs]; exact .nil, by simp [toPs, PyData.canLayAll0], by simp [toPs, PyData.depthAll]⟩
  | n, _, _, .cons h t, hs, e => by
    simp only [shs, Bool.and_eq_true] at hs
    obtain ⟨a, b, c⟩ := Rp.dp h hs.1 e
    obtain ⟨a', b', c'⟩ := RpA.dp t hs.2 e
    simp only [toPs]
    exact ⟨.cons a a', by simp [PyData.canLayAll0, b, b'], by simp only [PyData.depthAll]; omega⟩
end
theorem Rp.shaped {n : Nat} {v : V} {d : D} (r : Rp K mg F v d) (h : sh n d = true) (hn : n ≤ 64) (e : Same F H) : Dp K H v (toP d) ∧ SeqAt.shaped (toP d) = true := by
  obtain ⟨a, b, c⟩ := r.dp h e
  exact ⟨a, by simp only [SeqAt.shaped, b, Bool.true_and, decide_eq_true_eq]; omega⟩
end

section
variable {K : PySem.W.Frag} {mg : Mg} {F H : Hp} {p : Addr} {vs : List V} {ds : List D}
theorem newT (e : Same F H) (hp : H p = none) (r : RpA K mg F vs ds) : Gw F H (upd F p (.tup vs)) (upd H p (.tup vs)) ∧ Rp K mg (upd F p (.tup vs)) (.ref p) (.tup ds) :=
  ⟨Gw.upd e hp, .tup (SqT.of upd_same) (r.same (Gw.upd (o := HO.tup vs) e hp).ff)⟩
theorem newL (e : Same F H) (hp : H p = none) (r : RpA K mg F vs ds) : Gw F H (upd F p (.lst vs)) (upd H p (.lst vs)) ∧ Rp K mg (upd F p (.lst vs)) (.ref p) (.lst ds) :=
  ⟨Gw.upd e hp, .lst upd_same (r.same (Gw.upd (o := HO.lst vs) e hp).ff)⟩
end

/-! ### operations on data -/
/-- what an operation on data asks -/
def rD2 (K : PySem.W.Frag) (mg : Mg) (op : D → D → Option D) : R2 := fun x y H Q => ∃ F dx dy d, Same F H ∧ Rp K mg F x dx ∧ Rp K mg F y dy ∧ op dx dy = some d ∧ ∀ v F' H', Gw F H F' H' → Rp K mg F' v d → Q v H'
abbrev OpD (X : Cx) (f : Value → Value → Sem Value) (op : D → D → Option D) : Prop := OpR X f (rD2 X.K X.mg op)

def lim : Nat := 16777216
def addD : D → D → Option D
  | .int i, .int j => some (.int (i + j))
  | .str s, .str t => if s.length + t.length ≤ lim then some (.str (s ++ t)) else none
  | .lst xs, .lst ys => if xs.length + ys.length ≤ lim then some (.lst (xs ++ ys)) else none
  | .tup xs, .tup ys => if xs.length + ys.length ≤ lim then some (.tup (xs ++ ys)) else none
  | _, _ => none
def subD : D → D → Option D
  | .int i, .int j => some (.int (i - j))
  | _, _ => none
def small (i : Int) : Bool := decide (-18446744073709551616 < i) && decide (i < 18446744073709551616)
def mulD : D → D → Option D
  | .int i, .int j => if small i || small j then some (.int (i * j)) else none
  | .str s, .int k => if decide (s.length ≤ 1000) && decide (-1000 ≤ k) && decide (k ≤ 1000) then some (.str (List.replicate k.toNat s).flatten) else none
  | .lst xs, .int k => if decide (xs.length ≤ 1000) && decide (-1000 ≤ k) && decide (k ≤ 1000) then some (.lst (List.replicate k.toNat xs).flatten) else none
  | .tup xs, .int k => if decide (xs.length ≤ 1000) && decide (2 ≤ k) && decide (k ≤ 1000) && decide (0 < xs.length) then some (.tup (List.replicate k.toNat xs).flatten) else none
  | _, _ => none
def fdivD : D → D → Option D
  | .int i, .int j => if decide (0 < j) && decide (j < 1073741824) then some (.int (i / j)) else none
  | _, _ => none
def modD : D → D → Option D
  | .int i, .int j => if 0 < j then some (.int (i % j)) else none
  | _, _ => none
def powD : D → D → Option D
  | .int i, .int j => if decide (0 ≤ j) && decide (j ≤ 1000) && small i then some (.int (i ^ j.toNat)) else none
  | _, _ => none

section
variable {X : Cx}
theorem ok_add : OpD X (binaryOp .Add) addD := by
  intro pins s σ H x y v u Q I rx ry h
  obtain ⟨F, dx, dy, d, e, hx, hy, ho, k⟩ := h
  cases dx <;> cases dy <;> simp only [addD, reduceCtorEq] at ho
  · -- ints
    cases hx; cases hy; cases ho
    exact op_add pins s σ H _ _ v u Q I rx ry ⟨_, _, rfl, rfl, k _ _ _ (Gw.refl e) .int⟩
  · -- texts
    rename_i a b
    cases hx with
    | str ha =>
      cases hy with
      | str hb =>
        split at ho
        · rename_i hl
          cases ho
          have hl' : a.length + b.length ≤ 16777216 := hl
          refine op_add_str pins s σ H _ _ v u Q I rx ry ⟨_, _, rfl, rfl, by simpa [Str.length, line_eq] using hl', ?_⟩
          have e1 : (⟨a.toArray⟩ : Str) ++ ⟨b.toArray⟩ = ⟨(a ++ b).toArray⟩ := SX.S_cat a b
          rw [e1]
          exact k _ _ _ (Gw.refl e) (.str (ha.app hb hl'))
        · cases ho
  · -- tuples
    rename_i a b
    cases hx with
    | tup ha ra =>
      cases hy with
      | tup hb rb =>
        split at ho
        · rename_i hl
          cases ho
          have hl' : a.length + b.length ≤ 16777216 := hl
          refine op_catA pins s σ H _ _ v u Q I rx ry ⟨_, _, _, _, rfl, rfl, SqT.same e ha, SqT.same e hb, by rw [ra.length, rb.length, line_eq]; exact hl', fun z => ?_, fun _ z => ?_, fun _ _ p hp => ?_⟩
          · rw [ra.nil_iff.mp z] at *
            exact k _ _ _ (Gw.refl e) (.tup hb rb)
          · rw [rb.nil_iff.mp z, List.append_nil] at *
            exact k _ _ _ (Gw.refl e) (.tup ha ra)
          · obtain ⟨g, r⟩ := newT e hp (ra.append rb)
            exact k _ _ _ g r
        · cases ho
  · -- lists
    rename_i a b
    cases hx with
    | lst ha ra =>
      cases hy with
      | lst hb rb =>
        split at ho
        · rename_i hl
          cases ho
          have hl' : a.length + b.length ≤ 16777216 := hl
          refine op_cat pins s σ H _ _ v u Q I rx ry ⟨_, _, _, _, rfl, rfl, e _ _ ha, e _ _ hb, by rw [ra.length, rb.length, line_eq]; exact hl', fun p hp => ?_⟩
          obtain ⟨g, r⟩ := newL e hp (ra.append rb)
          exact k _ _ _ g r
        · cases ho
theorem ok_sub : OpD X (binaryOp .Sub) subD := by
  intro pins s σ H x y v u Q I rx ry h
  obtain ⟨F, dx, dy, d, e, hx, hy, ho, k⟩ := h
  cases dx <;> cases dy <;> simp only [subD, reduceCtorEq] at ho
  cases hx; cases hy; cases ho
  exact op_sub pins s σ H _ _ v u Q I rx ry ⟨_, _, rfl, rfl, k _ _ _ (Gw.refl e) .int⟩
theorem ok_fdiv : OpD X (binaryOp .FloorDiv) fdivD := by
  intro pins s σ H x y v u Q I rx ry h
  obtain ⟨F, dx, dy, d, e, hx, hy, ho, k⟩ := h
  cases dx <;> cases dy <;> simp only [fdivD, reduceCtorEq] at ho
  cases hx; cases hy
  split at ho
  · rename_i hc
    cases ho
    simp only [Bool.and_eq_true, decide_eq_true_eq] at hc
    exact op_fdiv pins s σ H _ _ v u Q I rx ry ⟨_, _, rfl, rfl, hc, k _ _ _ (Gw.refl e) .int⟩
  · cases ho
theorem ok_mod : OpD X (binaryOp .Mod) modD := by
  intro pins s σ H x y v u Q I rx ry h
  obtain ⟨F, dx, dy, d, e, hx, hy, ho, k⟩ := h
  cases dx <;> cases dy <;> simp only [modD, reduceCtorEq] at ho
  cases hx; cases hy
  split at ho
  · rename_i hc
    cases ho
    exact op_mod pins s σ H _ _ v u Q I rx ry ⟨_, _, rfl, rfl, hc, k _ _ _ (Gw.refl e) .int⟩
  · cases ho
theorem ok_pow : OpD X (binaryOp .Pow) powD := by
  intro pins s σ H x y v u Q I rx ry h
  obtain ⟨F, dx, dy, d, e, hx, hy, ho, k⟩ := h
  cases dx <;> cases dy <;> simp only [powD, reduceCtorEq] at ho
  cases hx; cases hy
  split at ho
  · rename_i hc
    cases ho
    simp only [small, Bool.and_eq_true, decide_eq_true_eq] at hc
    exact op_pow pins s σ H _ _ v u Q I rx ry ⟨_, _, rfl, rfl, ⟨hc.1.1, by omega, by omega⟩, k _ _ _ (Gw.refl e) .int⟩
  · cases ho
end
end Wk
set_option Elab.async false
set_option linter.all false
set_option maxRecDepth 100000
namespace Wk
open PySem PySem.Spec PyProof.Rows L2

/-! ### the computations of expressions -/
def eVar (i : Nat) : M D := fun ρ => match ρ[i]? with
  | some (.val d) => .ok d ρ
  | _ => .stuck
def eC (d : D) : M D := ret d
def eOp (g : D → D → Option D) (f h : M D) : M D := bnd f fun x => bnd h fun y => lift (g x y)
def eUn (g : D → Option D) (f : M D) : M D := bnd f fun x => lift (g x)
def eIf (c : M Bool) (f g : M D) : M D := bnd c fun b => if b then f else g
def asB : D → Option Bool
  | .bl b => some b
  | _ => none
def eAnd (f g : M D) : M D := bnd f fun x => match x with
  | .bl true => g
  | .bl false => ret (.bl false)
  | _ => lift none
def eOr (f g : M D) : M D := bnd f fun x => match x with
  | .bl false => g
  | .bl true => ret (.bl true)
  | _ => lift none
def notD : D → Option D
  | .bl b => some (.bl (!b))
  | _ => none
def negD : D → Option D
  | .int i => some (.int (-i))
  | _ => none
/-- a test -/
def cT (f : M D) : M Bool := bnd f fun x => lift (asB x)
def cAnd (f g : M Bool) : M Bool := bnd f fun b => if b then g else ret false
def cOr (f g : M Bool) : M Bool := bnd f fun b => if b then ret true else g
def cNot (f : M Bool) : M Bool := bnd f fun b => ret (!b)
def eCmp (g : D → D → Option Bool) (f h : M D) : M D := eOp (fun x y => (g x y).map .bl) f h
def eChain (g g' : D → D → Option Bool) (f h k : M D) : M D := bnd f fun x => bnd h fun y => bnd (lift (g x y)) fun b => if b then bnd k fun z => lift ((g' y z).map .bl) else ret (.bl false)
def eNil : M (List D) := ret []
def eCons (f : M D) (g : M (List D)) : M (List D) := bnd f fun x => bnd g fun xs => ret (x :: xs)
def eTup (f : M (List D)) : M D := bnd f fun xs => lift (if xs.length ≤ lim then some (.tup xs) else none)
def eLst (f : M (List D)) : M D := bnd f fun xs => lift (if xs.length ≤ lim then some (.lst xs) else none)

section
variable {X : Cx} {W : WX} {m : Bool} {a b c : Expr} {f g h : M D} {pos : Pos}

theorem d_var {i : Nat} {x : Str} (hN : X.N[i]? = some x) (hv : Vis X.env.scope x) (hd : (x == ("__debug__" : Str)) = false := by decide) (hcd : (x == ("__classdict__" : Str)) = false := by decide) : DE X W m (.Name x pos) (eVar i) := by
  refine PE.imp (pe_var hN hv hd hcd) fun σ H Q ⟨F, L, ρ, er, p⟩ => ?_
  unfold eVar at p
  cases e : ρ[i]? with
  | none => rw [e] at p; exact p.elim
  | some s =>
    rw [e] at p
    cases s with
    | val d =>
      obtain ⟨v, h1, r⟩ := er.rs.getVal e
      exact ⟨v, h1, p v F H L (Exm.refl _ _ _ _ _) er r⟩
    | _ => exact p.elim
theorem d_const {d : D} {v : V} (h : PE X a (tC v)) (r : ∀ F : Hp, Rp X.K X.mg F v d) : DE X W m a (eC d) :=
  PE.imp h fun σ H Q ⟨F, L, ρ, er, p⟩ => ret_post er p v F H (Gw.refl er.fh) (r F)
theorem d_int {i : Int} {j} : DE X W m (.Constant (.int i) j pos) (eC (.int i)) := d_const pe_int fun _ => .int
theorem d_bl {b : Bool} {j} : DE X W m (.Constant (.bool b) j pos) (eC (.bl b)) := d_const pe_bl fun _ => .bl
theorem d_non {j} : DE X W m (.Constant .none j pos) (eC .non) := d_const pe_non fun _ => .non
theorem d_str {x : Str} {s : List Nat} {j} (hx : x = ⟨s.toArray⟩) (hs : ((s.all fun c => decide (c < 1114112)) && decide (s.length ≤ 16777216)) = true) : DE X W m (.Constant (.str x) j pos) (eC (.str s)) := by
  subst hx
  have q := (Bool.and_eq_true _ _).mp hs
  exact d_const pe_str fun _ => .str (SOk.of q.1 q.2)
/-- a constant of the module: an int, a text, .. -/
theorem d_glob {x : Str} {v : V} {u : Value} {d : D} (hg : Gl X x) (hm : X.mg x = some u) (r : RelV v u) (rp : ∀ F : Hp, Rp X.K X.mg F v d) (hd : (x == ("__debug__" : Str)) = false := by decide) : DE X W m (.Name x pos) (eC d) :=
  d_const (pe_glob hg hm r hd) rp

theorem d_op {op : Operator} {o : D → D → Option D} (ho : OpD X (binaryOp op) o) (ha : DE X W m a f) (hb : DE X W m b g) : DE X W m (.BinOp a op b pos) (eOp o f g) :=
  PE.imp (pe_op ho ha hb) fun σ H Q ⟨F, L, ρ, er, p⟩ => tG_bnd er p fun x dx F1 H1 L1 ρ1 x1 er1 rx p1 => tG_bnd er1 p1 fun y dy F2 H2 L2 ρ2 x2 er2 ry p2 => by
    obtain ⟨d, hd, k⟩ := lift_post er2 p2
    exact ⟨F2, dx, dy, d, er2.fh, rx.same x2.ex.ff, ry, hd, k⟩
theorem d_not (ha : DE X W m a f) : DE X W m (.UnaryOp .Not a pos) (eUn notD f) :=
  PE.imp (pe_not ha) fun σ H Q ⟨F, L, ρ, er, p⟩ => tG_bnd er p fun x dx F1 H1 L1 ρ1 x1 er1 rx p1 => by
    obtain ⟨d, hd, k⟩ := lift_post er1 p1
    cases rx <;> simp only [notD, reduceCtorEq] at hd
    cases hd
    exact ⟨_, rfl, k _ _ _ (Gw.refl er1.fh) .bl⟩
theorem d_neg (ha : DE X W m a f) : DE X W m (.UnaryOp .USub a pos) (eUn negD f) :=
  PE.imp (pe_un un_neg ha) fun σ H Q ⟨F, L, ρ, er, p⟩ => tG_bnd er p fun x dx F1 H1 L1 ρ1 x1 er1 rx p1 => by
    obtain ⟨d, hd, k⟩ := lift_post er1 p1
    cases rx <;> simp only [negD, reduceCtorEq] at hd
    cases hd
    exact ⟨_, rfl, k _ _ _ (Gw.refl er1.fh) .int⟩
theorem d_and {rest : List Expr} (ha : DE X W m a f) (hb : DE X W m (.BoolOp .And (b :: rest) pos) g) : DE X W m (.BoolOp .And (a :: b :: rest) pos) (eAnd f g) :=
  PE.imp (pe_and ha hb) fun σ H Q ⟨F, L, ρ, er, p⟩ => tG_bnd er p fun x dx F1 H1 L1 ρ1 x1 er1 rx p1 => by
    cases rx with
    | bl => rename_i c; cases c with
      | true => exact ⟨true, rfl, by rw [if_pos rfl]; exact ⟨F1, L1, ρ1, er1, p1⟩⟩
      | false => exact ⟨false, rfl, by rw [if_neg Bool.false_ne_true]; exact ret_post er1 p1 _ _ _ (Gw.refl er1.fh) .bl⟩
    | _ => exact (lift_post er1 p1).elim fun _ h => (nomatch h.1)
theorem d_or {rest : List Expr} (ha : DE X W m a f) (hb : DE X W m (.BoolOp .Or (b :: rest) pos) g) : DE X W m (.BoolOp .Or (a :: b :: rest) pos) (eOr f g) :=
  PE.imp (pe_or ha hb) fun σ H Q ⟨F, L, ρ, er, p⟩ => tG_bnd er p fun x dx F1 H1 L1 ρ1 x1 er1 rx p1 => by
    cases rx with
    | bl => rename_i c; cases c with
      | false => exact ⟨false, rfl, by rw [if_neg Bool.false_ne_true]; exact ⟨F1, L1, ρ1, er1, p1⟩⟩
      | true => exact ⟨true, rfl, by rw [if_pos rfl]; exact ret_post er1 p1 _ _ _ (Gw.refl er1.fh) .bl⟩
    | _ => exact (lift_post er1 p1).elim fun _ h => (nomatch h.1)
theorem d_one {op} (ha : DE X W m a f) : DE X W m (.BoolOp op [a] pos) f := pe_one ha
theorem d_if {k : M Bool} (hc : DT X W m c k) (ha : DE X W m a f) (hb : DE X W m b g) : DE X W m (.IfExp c a b pos) (eIf k f g) :=
  PE.imp (pe_ifExp hc ha hb) fun σ H Q ⟨F, L, ρ, er, p⟩ => tG_bnd er p fun x dx F1 H1 L1 ρ1 x1 er1 rx p1 => by
    have rx : x = dx := rx
    subst rx
    cases x with
    | true => rw [if_pos rfl] at p1 ⊢; exact ⟨F1, L1, ρ1, er1, p1⟩
    | false => rw [if_neg Bool.false_ne_true] at p1 ⊢; exact ⟨F1, L1, ρ1, er1, p1⟩

/-! ### tests -/
theorem dt_val (ha : DE X W m a f) (he : ∀ whole, isTrue a X.env whole = (do let v ← whole; standAt a.pos; holding [v] (truthy v)) := by intro _; rfl) : DT X W m a (cT f) :=
  PT.imp (pt_val ha he) fun σ H Q ⟨F, L, ρ, er, p⟩ => tG_bnd er p fun x dx F1 H1 L1 ρ1 x1 er1 rx p1 => by
    obtain ⟨d, hd, k⟩ := lift_post er1 p1
    cases rx <;> simp only [asB, reduceCtorEq] at hd
    cases hd
    exact ⟨_, rfl, k _ _ _ (Gw.refl er1.fh) rfl⟩
variable {k l : M Bool}
theorem dw_and1 (ha : DT X W m a k) : DW X W m (.BoolOp .And [a] pos) k := pw_and1 ha
theorem dw_or1 (ha : DT X W m a k) : DW X W m (.BoolOp .Or [a] pos) k := pw_or1 ha
theorem dw_and {rest : List Expr} (ha : DT X W m a k) (hb : DW X W m (.BoolOp .And (b :: rest) pos) l) : DW X W m (.BoolOp .And (a :: b :: rest) pos) (cAnd k l) :=
  PW.imp (pw_and ha hb) fun σ H Q ⟨F, L, ρ, er, p⟩ => tG_bnd er p fun x dx F1 H1 L1 ρ1 x1 er1 rx p1 => by
    have rx : x = dx := rx
    subst rx
    cases x with
    | true => rw [if_pos rfl] at p1 ⊢; exact ⟨F1, L1, ρ1, er1, p1⟩
    | false => rw [if_neg Bool.false_ne_true] at p1 ⊢; exact ret_post er1 p1 _ _ _ (Gw.refl er1.fh) rfl
theorem dw_or {rest : List Expr} (ha : DT X W m a k) (hb : DW X W m (.BoolOp .Or (b :: rest) pos) l) : DW X W m (.BoolOp .Or (a :: b :: rest) pos) (cOr k l) :=
  PW.imp (pw_or ha hb) fun σ H Q ⟨F, L, ρ, er, p⟩ => tG_bnd er p fun x dx F1 H1 L1 ρ1 x1 er1 rx p1 => by
    have rx : x = dx := rx
    subst rx
    cases x with
    | true => rw [if_pos rfl] at p1 ⊢; exact ret_post er1 p1 _ _ _ (Gw.refl er1.fh) rfl
    | false => rw [if_neg Bool.false_ne_true] at p1 ⊢; exact ⟨F1, L1, ρ1, er1, p1⟩
theorem dt_w (h : DW X W m a k) : DT X W m a k := PW.pt h
theorem dt_not (ha : DT X W m a k) : DT X W m (.UnaryOp .Not a pos) (cNot k) :=
  PT.imp (pt_not ha) fun σ H Q ⟨F, L, ρ, er, p⟩ => tG_bnd er p fun x dx F1 H1 L1 ρ1 x1 er1 rx p1 => by
    have rx : x = dx := rx
    subst rx
    exact ret_post er1 p1 _ _ _ (Gw.refl er1.fh) rfl

/-! ### comparisons -/
abbrev CmpD (X : Cx) (op : CmpOp) (g : D → D → Option Bool) : Prop := OpD X (compareOp op) fun x y => (g x y).map .bl
theorem cmp_get {o : Option Bool} {d : D} (h : o.map D.bl = some d) : ∃ b, o = some b ∧ d = .bl b := by
  cases o with
  | none => cases h
  | some b => cases h; exact ⟨b, rfl, rfl⟩
theorem d_cmp {op : CmpOp} {o : D → D → Option Bool} (ho : CmpD X op o) (ha : DE X W m a f) (hb : DE X W m b g) (hm : behindInMarks op b = false) : DE X W m (.Compare a [op] [b] pos) (eCmp o f g) :=
  PE.imp (pe_cmpR ho ha hb hm) fun σ H Q ⟨F, L, ρ, er, p⟩ => tG_bnd er p fun x dx F1 H1 L1 ρ1 x1 er1 rx p1 => tG_bnd er1 p1 fun y dy F2 H2 L2 ρ2 x2 er2 ry p2 => by
    obtain ⟨d, hd, k⟩ := lift_post er2 p2
    exact ⟨F2, dx, dy, d, er2.fh, rx.same x2.ex.ff, ry, hd, k⟩
theorem bnd_assoc {α β γ : Type} (f : M α) (g : α → M β) (h : β → M γ) (ρ : EnvD) : bnd (bnd f g) h ρ = bnd f (fun x => bnd (g x) h) ρ := by
  unfold bnd
  cases f ρ <;> rfl
theorem dt_cmp {op : CmpOp} {o : D → D → Option Bool} (ho : CmpD X op o) (ha : DE X W m a f) (hb : DE X W m b g) (hm : behindInMarks op b = false) : DT X W m (.Compare a [op] [b] pos) (cT (eCmp o f g)) :=
  PT.imp (pt_cmpR ho ha hb hm) fun σ H Q ⟨F, L, ρ, er, p⟩ => by
    unfold cT eCmp eOp at p
    rw [bnd_assoc] at p
    refine tG_bnd er p fun x dx F1 H1 L1 ρ1 x1 er1 rx p1 => ?_
    rw [bnd_assoc] at p1
    refine tG_bnd er1 p1 fun y dy F2 H2 L2 ρ2 x2 er2 ry p2 => ?_
    cases e : o dx dy with
    | none => simp only [bnd, lift, e, Option.map_none] at p2; exact p2.elim
    | some c =>
      refine ⟨F2, dx, dy, .bl c, er2.fh, rx.same x2.ex.ff, ry, by simp only [e, Option.map_some], fun v F' H' gw r => ?_⟩
      simp only [bnd, lift, e, Option.map_some, asB] at p2
      cases r
      exact ⟨c, rfl, p2 c F' H' L2 (gw.exm _ _ _) (gw.er er2) rfl⟩
theorem d_chain {op op' : CmpOp} {o o' : D → D → Option Bool} (ho : CmpD X op o) (ho' : CmpD X op' o') (ha : DE X W m a f) (hb : DE X W m b g) (hc : DE X W m c h) (hm : lastMarks [op, op'] [b, c] = false := by with_unfolding_all rfl) :
    DE X W m (.Compare a [op, op'] [b, c] pos) (eChain o o' f g h) :=
  PE.imp (pe_chain ho ho' ha hb hc hm) fun σ H Q ⟨F, L, ρ, er, p⟩ => tG_bnd er p fun x dx F1 H1 L1 ρ1 x1 er1 rx p1 => tG_bnd er1 p1 fun y dy F2 H2 L2 ρ2 x2 er2 ry p2 => by
    cases e : o dx dy with
    | none => simp only [bnd, lift, e] at p2; exact p2.elim
    | some c =>
      refine ⟨F2, dx, dy, .bl c, er2.fh, rx.same x2.ex.ff, ry, by simp only [e, Option.map_some], fun v F' H' gw r => ?_⟩
      simp only [bnd, lift, e] at p2
      cases r
      refine ⟨c, rfl, ?_⟩
      cases c with
      | false =>
        rw [if_neg Bool.false_ne_true] at p2 ⊢
        exact ret_post er2 p2 _ _ _ gw .bl
      | true =>
        rw [if_pos rfl] at p2 ⊢
        have p3 := Post.mono p2 (gw.exm m L2 ρ2)
        refine tG_bnd (gw.er er2) p3 fun z dz F3 H3 L3 ρ3 x3 er3 rz p4 => ?_
        obtain ⟨d, hd, k⟩ := lift_post er3 p4
        exact ⟨F3, dy, dz, d, er3.fh, ry.same (gw.ff.trans x3.ex.ff), rz, hd, k⟩
theorem dt_chain {op op' : CmpOp} {o o' : D → D → Option Bool} (ho : CmpD X op o) (ho' : CmpD X op' o') (ha : DE X W m a f) (hb : DE X W m b g) (hc : DE X W m c h) (hm : lastMarks [op, op'] [b, c] = false := by with_unfolding_all rfl) :
    DT X W m (.Compare a [op, op'] [b, c] pos) (cT (eChain o o' f g h)) :=
  PT.imp (pt_chain ho ho' ha hb hc hm) fun σ H Q ⟨F, L, ρ, er, p⟩ => by
    unfold cT eChain at p
    rw [bnd_assoc] at p
    refine tG_bnd er p fun x dx F1 H1 L1 ρ1 x1 er1 rx p1 => ?_
    rw [bnd_assoc] at p1
    refine tG_bnd er1 p1 fun y dy F2 H2 L2 ρ2 x2 er2 ry p2 => ?_
    rw [bnd_assoc] at p2
    cases e : o dx dy with
    | none => simp only [bnd, lift, e] at p2; exact p2.elim
    | some c =>
      refine ⟨F2, dx, dy, .bl c, er2.fh, rx.same x2.ex.ff, ry, by simp only [e, Option.map_some], fun v F' H' gw r => ?_⟩
      simp only [bnd, lift, e] at p2
      cases r
      refine ⟨c, rfl, ?_⟩
      cases c with
      | false =>
        rw [if_neg Bool.false_ne_true] at p2 ⊢
        exact ⟨_, rfl, p2 false _ _ _ (gw.exm _ _ _) (gw.er er2) rfl⟩
      | true =>
        rw [if_pos rfl] at p2 ⊢
        have p3 : Post REq X.K X.mg W m F2 H2 L2 σ ρ2 Q (bnd (bnd h fun z => lift ((o' dy z).map .bl)) (fun x => lift (asB x)) ρ2) := p2
        rw [bnd_assoc] at p3
        refine tG_bnd (gw.er er2) (Post.mono p3 (gw.exm m L2 ρ2)) fun z dz F3 H3 L3 ρ3 x3 er3 rz p4 => ?_
        cases e' : o' dy dz with
        | none => simp only [bnd, lift, e', Option.map_none] at p4; exact p4.elim
        | some c' =>
          refine ⟨F3, dy, dz, .bl c', er3.fh, ry.same (gw.ff.trans x3.ex.ff), rz, by simp only [e', Option.map_some], fun v' F4 H4 gw' r' => ?_⟩
          simp only [bnd, lift, e', Option.map_some, asB] at p4
          cases r'
          exact ⟨c', rfl, p4 c' F4 H4 L3 (gw'.exm _ _ _) (gw'.er er3) rfl⟩

/-! ### displays -/
variable {es : List Expr} {fs : M (List D)}
theorem da_nil : DAs X W m [] eNil := PA.imp pa_nil fun σ H Q ⟨F, L, ρ, er, p⟩ => ret_post er p _ _ _ (Gw.refl er.fh) .nil
theorem da_cons (ha : DE X W m a f) (hr : DAs X W m es fs) (hs : starEach (a :: es) X.env = (false, eval a X.env) :: starEach es X.env := by rfl) : DAs X W m (a :: es) (eCons f fs) :=
  PA.imp (pa_cons ha hr hs) fun σ H Q ⟨F, L, ρ, er, p⟩ => tG_bnd er p fun x dx F1 H1 L1 ρ1 x1 er1 rx p1 => tG_bnd er1 p1 fun y dy F2 H2 L2 ρ2 x2 er2 ry p2 =>
    ret_post er2 p2 _ _ _ (Gw.refl er2.fh) (.cons (rx.same x2.ex.ff) ry)
theorem d_tup {z} (h : DAs X W m es fs) : DE X W m (.Tuple es z pos) (eTup fs) :=
  PE.imp (pe_tup h) fun σ H Q ⟨F, L, ρ, er, p⟩ => tG_bnd er p fun x dx F1 H1 L1 ρ1 x1 er1 rx p1 => by
    obtain ⟨d, hd, k⟩ := lift_post er1 p1
    split at hd
    · rename_i hl
      cases hd
      refine ⟨by rw [rx.length, line_eq]; exact hl, fun q hq => ?_⟩
      obtain ⟨g, r⟩ := newT er1.fh hq rx
      exact k _ _ _ g r
    · cases hd
theorem d_lst (h : DAs X W m es fs) : DE X W m (.List es pos) (eLst fs) :=
  PE.imp (pe_lst h) fun σ H Q ⟨F, L, ρ, er, p⟩ => tG_bnd er p fun x dx F1 H1 L1 ρ1 x1 er1 rx p1 => by
    obtain ⟨d, hd, k⟩ := lift_post er1 p1
    split at hd
    · rename_i hl
      cases hd
      refine ⟨by rw [rx.length, line_eq]; exact hl, fun q hq => ?_⟩
      obtain ⟨g, r⟩ := newL er1.fh hq rx
      exact k _ _ _ g r
    · cases hd
end
end Wk
set_option Elab.async false
set_option linter.all false
set_option maxRecDepth 100000
namespace Wk
open PySem PySem.Spec PyProof.Rows L2

def eqD (x y : D) : Option Bool := if sh 64 x && sh 64 y then some (eqv x y) else none
def neD (x y : D) : Option Bool := if sh 64 x && sh 64 y then some (!eqv x y) else none
def intsOf : List D → Option (List Int)
  | [] => some []
  | .int i :: r => (intsOf r).map (i :: ·)
  | _ :: _ => none
def ltD : D → D → Option Bool
  | .int i, .int j => some (decide (i < j))
  | .str s, .str t => some (decide (s < t))
  | .tup xs, .tup ys => match intsOf xs, intsOf ys with
    | some ns, some ms => some (HT.lexLt ns ms)
    | _, _ => none
  | _, _ => none
def leD : D → D → Option Bool
  | .int i, .int j => some (decide (i ≤ j))
  | .str s, .str t => some (!decide (t < s))
  | _, _ => none
def gtD : D → D → Option Bool
  | .int i, .int j => some (decide (j < i))
  | .str s, .str t => some (decide (t < s))
  | _, _ => none
def geD : D → D → Option Bool
  | .int i, .int j => some (decide (j ≤ i))
  | .str s, .str t => some (!decide (s < t))
  | _, _ => none
def isND : D → D → Option Bool
  | .non, .non => some true
  | .gl _, _ => none
  | .opq, _ => none
  | _, .non => some false
  | .bl a, .bl b => some (decide (a = b))
  | _, _ => none
def isnD (x y : D) : Option Bool := (isND x y).map not
def anyEq (x : D) (ys : List D) : Bool := ys.any fun y => eqv y x
def inSeq (x : D) (ys : List D) : Option Bool := if sh 60 x && shs 60 ys then some (anyEq x ys) else none
def inD : D → D → Option Bool
  | .str [c], .str s => some (decide (c ∈ s))
  | x, .tup ys => inSeq x ys
  | x, .lst ys => inSeq x ys
  | _, _ => none
def ninD (x y : D) : Option Bool := (inD x y).map not

section
variable {X : Cx}
theorem ok_eq (hu : X.A.units + 64 < cLine) : CmpD X .Eq eqD := by
  intro pins s σ H x y v u Q I rx ry h
  obtain ⟨F, dx, dy, d, e, hx, hy, ho, k⟩ := h
  obtain ⟨b, hq, e2⟩ := cmp_get ho
  clear ho
  have ho := hq
  clear hq
  subst e2
  unfold eqD at ho
  split at ho
  · rename_i hs
    cases ho
    rw [Bool.and_eq_true] at hs
    obtain ⟨a1, a2⟩ := hx.shaped hs.1 (Nat.le_refl _) e
    obtain ⟨b1, b2⟩ := hy.shaped hs.2 (Nat.le_refl _) e
    refine op_eqD hu pins s σ H x y v u Q I rx ry ⟨_, _, a1, b1, a2, b2, ?_⟩
    rw [eqv_toP _ _ _ _ hs.1 hs.2]
    exact k _ _ _ (Gw.refl e) .bl
  · cases ho
theorem ok_ne (hu : X.A.units + 64 < cLine) : CmpD X .NotEq neD := by
  intro pins s σ H x y v u Q I rx ry h
  obtain ⟨F, dx, dy, d, e, hx, hy, ho, k⟩ := h
  obtain ⟨b, hq, e2⟩ := cmp_get ho
  clear ho
  have ho := hq
  clear hq
  subst e2
  unfold neD at ho
  split at ho
  · rename_i hs
    cases ho
    rw [Bool.and_eq_true] at hs
    obtain ⟨a1, a2⟩ := hx.shaped hs.1 (Nat.le_refl _) e
    obtain ⟨b1, b2⟩ := hy.shaped hs.2 (Nat.le_refl _) e
    refine op_neD hu pins s σ H x y v u Q I rx ry ⟨_, _, a1, b1, a2, b2, ?_⟩
    rw [eqv_toP _ _ _ _ hs.1 hs.2]
    exact k _ _ _ (Gw.refl e) .bl
  · cases ho
theorem intsOf_rp {K : PySem.W.Frag} {mg : Mg} {F : Hp} : ∀ {vs : List V} {ds : List D} {ns : List Int}, RpA K mg F vs ds → intsOf ds = some ns → vs = ns.map V.int
  | _, _, _, .nil, h => by simp [intsOf] at h; subst h; rfl
  | _, _, _, .cons (d := d) hd t, h => by
    cases hd <;> simp only [intsOf, reduceCtorEq] at h
    cases e : intsOf _ with
    | none => rw [e] at h; cases h
    | some ms =>
      rw [e] at h
      cases h
      rw [intsOf_rp t e]
      rfl
theorem ok_lt (hu : X.A.units < cLine) : CmpD X .Lt ltD := by
  intro pins s σ H x y v u Q I rx ry h
  obtain ⟨F, dx, dy, d, e, hx, hy, ho, k⟩ := h
  obtain ⟨b, hq, e2⟩ := cmp_get ho
  clear ho
  have ho := hq
  clear hq
  subst e2
  cases dx <;> cases dy <;> simp only [ltD, reduceCtorEq] at ho
  · cases hx; cases hy; cases ho
    exact op_lt pins s σ H _ _ v u Q I rx ry ⟨_, _, rfl, rfl, k _ _ _ (Gw.refl e) .bl⟩
  · cases hx; cases hy; cases ho
    exact op_lt_str pins s σ H _ _ v u Q I rx ry ⟨_, _, rfl, rfl, k _ _ _ (Gw.refl e) .bl⟩
  · cases hx with
    | tup ha ra =>
      cases hy with
      | tup hb rb =>
        split at ho
        · rename_i h1 h2
          cases ho
          have e1 := intsOf_rp ra h1
          have e2 := intsOf_rp rb h2
          subst e1 e2
          exact op_ltT hu pins s σ H _ _ v u Q I rx ry ⟨_, _, _, _, rfl, rfl, SqT.same e ha, SqT.same e hb, k _ _ _ (Gw.refl e) .bl⟩
        · cases ho
theorem ok_le : CmpD X .LtE leD := by
  intro pins s σ H x y v u Q I rx ry h
  obtain ⟨F, dx, dy, d, e, hx, hy, ho, k⟩ := h
  obtain ⟨b, hq, e2⟩ := cmp_get ho
  clear ho
  have ho := hq
  clear hq
  subst e2
  cases dx <;> cases dy <;> simp only [leD, reduceCtorEq] at ho
  · cases hx; cases hy; cases ho
    exact op_le pins s σ H _ _ v u Q I rx ry ⟨_, _, rfl, rfl, k _ _ _ (Gw.refl e) .bl⟩
  · cases hx; cases hy; cases ho
    exact op_le_str pins s σ H _ _ v u Q I rx ry ⟨_, _, rfl, rfl, k _ _ _ (Gw.refl e) .bl⟩
theorem ok_gt : CmpD X .Gt gtD := by
  intro pins s σ H x y v u Q I rx ry h
  obtain ⟨F, dx, dy, d, e, hx, hy, ho, k⟩ := h
  obtain ⟨b, hq, e2⟩ := cmp_get ho
  clear ho
  have ho := hq
  clear hq
  subst e2
  cases dx <;> cases dy <;> simp only [gtD, reduceCtorEq] at ho
  · cases hx; cases hy; cases ho
    exact op_gt pins s σ H _ _ v u Q I rx ry ⟨_, _, rfl, rfl, k _ _ _ (Gw.refl e) .bl⟩
  · cases hx; cases hy; cases ho
    exact op_gt_str pins s σ H _ _ v u Q I rx ry ⟨_, _, rfl, rfl, k _ _ _ (Gw.refl e) .bl⟩
theorem ok_ge : CmpD X .GtE geD := by
  intro pins s σ H x y v u Q I rx ry h
  obtain ⟨F, dx, dy, d, e, hx, hy, ho, k⟩ := h
  obtain ⟨b, hq, e2⟩ := cmp_get ho
  clear ho
  have ho := hq
  clear hq
  subst e2
  cases dx <;> cases dy <;> simp only [geD, reduceCtorEq] at ho
  · cases hx; cases hy; cases ho
    exact op_ge pins s σ H _ _ v u Q I rx ry ⟨_, _, rfl, rfl, k _ _ _ (Gw.refl e) .bl⟩
  · cases hx; cases hy; cases ho
    exact op_ge_str pins s σ H _ _ v u Q I rx ry ⟨_, _, rfl, rfl, k _ _ _ (Gw.refl e) .bl⟩
theorem ok_is : CmpD X .Is isND := by
  intro pins s σ H x y v u Q I rx ry h
  obtain ⟨F, dx, dy, d, e, hx, hy, ho, k⟩ := h
  obtain ⟨b, hq, e2⟩ := cmp_get ho
  clear ho
  have ho := hq
  clear hq
  subst e2
  cases hy <;> cases hx <;> simp only [isND, reduceCtorEq] at ho <;> cases ho
  all_goals first
    | exact op_isN pins s σ H _ _ v u Q I rx ry ⟨rfl, by simpa using k _ _ _ (Gw.refl e) .bl⟩
    | exact op_isBl pins s σ H _ _ v u Q I rx ry ⟨_, _, rfl, rfl, k _ _ _ (Gw.refl e) .bl⟩
theorem ok_isnot : CmpD X .IsNot isnD := by
  intro pins s σ H x y v u Q I rx ry h
  obtain ⟨F, dx, dy, d, e, hx, hy, ho, k⟩ := h
  obtain ⟨b, hq, e2⟩ := cmp_get ho
  clear ho
  have ho := hq
  clear hq
  subst e2
  unfold isnD at ho
  cases hy <;> cases hx <;> simp only [isND, reduceCtorEq, Option.map_none, Option.map_some] at ho <;> cases ho
  all_goals first
    | exact op_notN pins s σ H _ _ v u Q I rx ry ⟨rfl, by simpa using k _ _ _ (Gw.refl e) .bl⟩
    | exact op_notBl pins s σ H _ _ v u Q I rx ry ⟨_, _, rfl, rfl, k _ _ _ (Gw.refl e) .bl⟩
theorem anyEq_toP {n m : Nat} {x : D} (hx : sh n x = true) : ∀ {ys : List D}, shs m ys = true → ((toPs ys).any fun z => PyData.eqv z (toP x)) = anyEq x ys
  | [], _ => rfl
  | y :: ys, h => by
    simp only [shs, Bool.and_eq_true] at h
    have ih := anyEq_toP hx h.2
    simp only [toPs, List.any_cons, anyEq] at ih ⊢
    rw [ih, eqv_toP _ _ _ _ h.1 hx]
theorem in_seq {neg : Bool} (hu : X.A.units + 65 < cLine) {F H : Hp} {x y : V} {dx : D} {ys : List D} {b : Bool} {v u : Value} {Q : VK} {pins : List (Addr × Obj)} {s : Shared} {σ : L2.St} (I : Inv X pins σ H s) (rx : RelV x v) (ry : RelV y u)
    (e : Same F H) (hx : Rp X.K X.mg F x dx) (hy : Rp X.K X.mg F y (.tup ys) ∨ Rp X.K X.mg F y (.lst ys)) (ho : inSeq dx ys = some b) (k : Q (.bl (if neg then !b else b)) H) :
    wpAny (model X.prog X.w) X.A (compareOp (if neg then .NotIn else .In) v u) (EP X pins σ Q) X.xe s := by
  unfold inSeq at ho
  split at ho
  · rename_i hs
    cases ho
    rw [Bool.and_eq_true] at hs
    obtain ⟨a1, a2⟩ := hx.shaped hs.1 (by decide) e
    have a3 := SeqAt.depth_of_shaped a2
    obtain ⟨as, r1⟩ := Dp.reads I _ _ _ a1 rx
    rcases hy with hy | hy
    · have hs2 : sh 61 (.tup ys) = true := hs.2
      obtain ⟨b1, b2⟩ := hy.shaped hs2 (by decide) e
      obtain ⟨bs, r2⟩ := Dp.reads I _ _ _ b1 ry
      simp only [toP] at r2 b2
      have c1 : PyData.canLayAll0 (toPs ys) = true := SeqAt.canLay_of_shaped b2
      cases neg
      · exact SeqAt.in_tuple_reads r2 r1 c1 (SeqAt.canLay_of_shaped a2) (by omega) ⟨.bl _, H, I, rfl, by rw [anyEq_toP hs.1 hs.2]; exact k⟩
      · exact SeqAt.notIn_tuple_reads r2 r1 c1 (SeqAt.canLay_of_shaped a2) (by omega) ⟨.bl _, H, I, rfl, by rw [anyEq_toP hs.1 hs.2]; exact k⟩
    · have hs2 : sh 61 (.lst ys) = true := hs.2
      obtain ⟨b1, b2⟩ := hy.shaped hs2 (by decide) e
      obtain ⟨bs, r2⟩ := Dp.reads I _ _ _ b1 ry
      simp only [toP] at r2 b2
      have c1 : PyData.canLayAll0 (toPs ys) = true := SeqAt.canLay_of_shaped b2
      cases neg
      · exact SeqAt.in_list_reads r2 r1 c1 (SeqAt.canLay_of_shaped a2) (by omega) ⟨.bl _, H, I, rfl, by rw [anyEq_toP hs.1 hs.2]; exact k⟩
      · exact SeqAt.notIn_list_reads r2 r1 c1 (SeqAt.canLay_of_shaped a2) (by omega) ⟨.bl _, H, I, rfl, by rw [anyEq_toP hs.1 hs.2]; exact k⟩
  · cases ho
theorem inD_cases {x y : D} {b : Bool} (h : inD x y = some b) : (∃ c s, x = .str [c] ∧ y = .str s ∧ b = decide (c ∈ s)) ∨ (∃ ys, y = .tup ys ∧ inSeq x ys = some b) ∨ (∃ ys, y = .lst ys ∧ inSeq x ys = some b) := by
  unfold inD at h
  split at h
  · cases h; exact .inl ⟨_, _, rfl, rfl, rfl⟩
  · exact .inr (.inl ⟨_, rfl, h⟩)
  · exact .inr (.inr ⟨_, rfl, h⟩)
  · cases h
theorem ok_in (hu : X.A.units + 65 < cLine) : CmpD X .In inD := by
  intro pins s σ H x y v u Q I rx ry h
  obtain ⟨F, dx, dy, d, e, hx, hy, ho, k⟩ := h
  obtain ⟨b, hq, e2⟩ := cmp_get ho
  clear ho
  have ho := hq
  clear hq
  subst e2
  rcases inD_cases ho with ⟨c, z, rfl, rfl, rfl⟩ | ⟨ys, rfl, ho3⟩ | ⟨ys, rfl, ho3⟩
  · cases hx; cases hy
    exact op_in_sign pins s σ H _ _ v u Q I rx ry ⟨_, _, rfl, rfl, k _ _ _ (Gw.refl e) .bl⟩
  · exact in_seq (neg := false) hu I rx ry e hx (.inl hy) ho3 (k _ _ _ (Gw.refl e) .bl)
  · exact in_seq (neg := false) hu I rx ry e hx (.inr hy) ho3 (k _ _ _ (Gw.refl e) .bl)
theorem ok_notin (hu : X.A.units + 65 < cLine) : CmpD X .NotIn ninD := by
  intro pins s σ H x y v u Q I rx ry h
  obtain ⟨F, dx, dy, d, e, hx, hy, ho, k⟩ := h
  obtain ⟨b, hq, e2⟩ := cmp_get ho
  clear ho
  have ho := hq
  clear hq
  subst e2
  unfold ninD at ho
  cases ho' : inD dx dy with
  | none => rw [ho'] at ho; cases ho
  | some b' =>
    rw [ho'] at ho
    cases ho
    rcases inD_cases ho' with ⟨c, z, rfl, rfl, rfl⟩ | ⟨ys, rfl, ho3⟩ | ⟨ys, rfl, ho3⟩
    · cases hx; cases hy
      exact op_notIn_sign pins s σ H _ _ v u Q I rx ry ⟨_, _, rfl, rfl, k _ _ _ (Gw.refl e) .bl⟩
    · exact in_seq (neg := true) hu I rx ry e hx (.inl hy) ho3 (k _ _ _ (Gw.refl e) .bl)
    · exact in_seq (neg := true) hu I rx ry e hx (.inr hy) ho3 (k _ _ _ (Gw.refl e) .bl)
end
end Wk
set_option Elab.async false
set_option linter.all false
set_option maxRecDepth 100000
namespace Wk
open PySem PySem.Spec PyProof.Rows L2

/-! ### subscripts -/
def ixD : D → D → Option D
  | .lst xs, .int i => atI xs i
  | .tup xs, .int i => atI xs i
  | .str s, .int i => (atI s i).map fun c => .str [c]
  | _, _ => none
def rIxD2 (K : PySem.W.Frag) (mg : Mg) : R2 := rD2 K mg ixD
theorem atI_rp {K : PySem.W.Frag} {mg : Mg} {F : Hp} {vs : List V} {ds : List D} {i : Int} {d : D} (r : RpA K mg F vs ds) (h : atI ds i = some d) : ∃ v, atI vs i = some v ∧ Rp K mg F v d := by
  unfold atI at h ⊢
  rw [r.length]
  cases e : ixN ds.length i with
  | none => rw [e] at h; cases h
  | some j =>
    rw [e] at h
    exact r.get h
theorem atI_mem {α : Type} {xs : List α} {i : Int} {x : α} (h : atI xs i = some x) : x ∈ xs := by
  unfold atI at h
  cases e : ixN xs.length i with
  | none => rw [e] at h; cases h
  | some j => rw [e] at h; exact List.mem_of_getElem? h
section
variable {X : Cx} {W : WX} {m : Bool} {a b c : Expr} {f g h : M D} {pos p2 : Pos}
theorem ix_data : IxR X (rIxD2 X.K X.mg) := by
  intro value slice pins s σ H x y v u Q I rx ry h hs
  obtain ⟨F, dx, dy, d, e, hx, hy, ho, k⟩ := h
  cases dx <;> cases dy <;> simp only [ixD, reduceCtorEq] at ho
  · cases hx with
    | str hs' =>
      cases hy
      cases e2 : atI _ _ with
      | none => rw [e2] at ho; cases ho
      | some c =>
        rw [e2] at ho
        cases ho
        refine ix_str value slice pins s σ H _ _ v u Q I rx ry ⟨_, _, c, rfl, rfl, by rw [line_eq]; exact hs'.2, e2, ?_⟩ hs
        exact k _ _ _ (Gw.refl e) (.str (hs'.one (atI_mem e2)))
  · cases hx with
    | tup ha ra =>
      cases hy
      obtain ⟨z, hz, rz⟩ := atI_rp ra ho
      exact ix_tup value slice pins s σ H _ _ v u Q I rx ry ⟨_, _, _, z, rfl, rfl, SqT.same e ha, hz, k _ _ _ (Gw.refl e) rz⟩ hs
  · cases hx with
    | lst ha ra =>
      cases hy
      obtain ⟨z, hz, rz⟩ := atI_rp ra ho
      exact ix_list value slice pins s σ H _ _ v u Q I rx ry ⟨_, _, _, z, rfl, rfl, SqL.of (e _ _ ha), hz, k _ _ _ (Gw.refl e) rz⟩ hs
theorem d_ix (ha : DE X W m a f) (hb : DE X W m b g) (hs : PlainIx b) : DE X W m (.Subscript a b pos) (eOp ixD f g) :=
  PE.imp (pe_ix ix_data ha hb hs) fun σ H Q ⟨F, L, ρ, er, p⟩ => tG_bnd er p fun x dx F1 H1 L1 ρ1 x1 er1 rx p1 => tG_bnd er1 p1 fun y dy F2 H2 L2 ρ2 x2 er2 ry p2 => by
    obtain ⟨d, hd, k⟩ := lift_post er2 p2
    exact ⟨F2, dx, dy, d, er2.fh, rx.same x2.ex.ff, ry, hd, k⟩

/-! ### slices -/
def cut {α : Type} (xs : List α) (lo hi : Option Int) : List α := (xs.drop (HT.sIx xs.length 0 lo)).take (HT.sIx xs.length xs.length hi - HT.sIx xs.length 0 lo)
def cutD : D → Option Int → Option Int → Option D
  | .lst xs, lo, hi => some (.lst (cut xs lo hi))
  | .tup xs, lo, hi => some (.tup (cut xs lo hi))
  | .str s, lo, hi => some (.str (cut s lo hi))
  | _, _, _ => none
def asI : D → Option Int
  | .int i => some i
  | _ => none
def pNo : M (Option Int) := ret none
def pAt (f : M D) : M (Option Int) := bnd f fun x => lift ((asI x).map some)
def eCut (f : M D) (l h : M (Option Int)) : M D := bnd f fun x => bnd l fun lo => bnd h fun hi => lift (cutD x lo hi)
abbrev RO : Hp → Option Int → Option Int → Prop := fun _ b c => b = c
abbrev DO (X : Cx) (W : WX) (m : Bool) (e : Option Expr) (f : M (Option Int)) : Prop := PO X e (tG RO X.K X.mg W m f)
theorem PO.imp {X : Cx} {e : Option Expr} {t t' : TO} (h : PO X e t) (k : ∀ σ H Q, t' σ H Q → t σ H Q) : PO X e t' := ⟨fun pins s σ H Q I q => h.run pins s σ H Q I (k σ H Q q)⟩
theorem do_no : DO X W m none pNo := PO.imp po_none fun σ H Q ⟨F, L, ρ, er, p⟩ => ret_post er p _ _ _ (Gw.refl er.fh) rfl
theorem do_at (h : DE X W m a f) : DO X W m (some a) (pAt f) := PO.imp (po_some h) fun σ H Q ⟨F, L, ρ, er, p⟩ => tG_bnd er p fun x dx F1 H1 L1 ρ1 x1 er1 rx p1 => by
  obtain ⟨d, hd, k⟩ := lift_post er1 p1
  cases rx <;> simp only [asI, reduceCtorEq, Option.map_none, Option.map_some] at hd
  cases hd
  exact ⟨_, rfl, k _ _ _ (Gw.refl er1.fh) rfl⟩
theorem cut_len {α : Type} (xs : List α) (lo hi : Option Int) : (cut xs lo hi).length ≤ xs.length := by
  unfold cut
  rw [List.length_take, List.length_drop]
  omega
theorem cut_mem {α : Type} {xs : List α} {lo hi : Option Int} {x : α} (h : x ∈ cut xs lo hi) : x ∈ xs := List.mem_of_mem_drop (List.mem_of_mem_take h)
theorem cut_whole {α : Type} {xs : List α} {lo hi : Option Int} (h : HT.sIx xs.length 0 lo = 0 ∧ HT.sIx xs.length xs.length hi = xs.length) : cut xs lo hi = xs := by
  unfold cut
  rw [h.1, h.2]
  simp
theorem cut_rp {K : PySem.W.Frag} {mg : Mg} {F : Hp} {vs : List V} {ds : List D} (lo hi : Option Int) (r : RpA K mg F vs ds) : RpA K mg F (cutV vs lo hi) (cut ds lo hi) := by
  unfold cutV cut
  rw [r.length]
  exact (r.drop _).take _
/-- what a slice of data asks -/
def rCutD (K : PySem.W.Frag) (mg : Mg) : V → Option Int → Option Int → Hp → VK → Prop := fun x lo hi H Q => ∃ F dx d, Same F H ∧ Rp K mg F x dx ∧ cutD dx lo hi = some d ∧ ∀ v F' H', Gw F H F' H' → Rp K mg F' v d → Q v H'
theorem sl_data : SlR X (rCutD X.K X.mg) := by
  intro pins s σ H x v vl vu lo hi sl Q I rx hs pl pu h
  obtain ⟨F, dx, d, e, hx, ho, k⟩ := h
  cases dx <;> simp only [cutD, reduceCtorEq] at ho <;> cases ho
  · rename_i z
    cases hx with
    | str hz =>
      refine sl_str pins s σ H _ v vl vu lo hi sl Q I rx hs pl pu ⟨_, rfl, by rw [line_eq]; exact hz.2, ?_⟩
      exact k _ _ _ (Gw.refl e) (.str (hz.sub (fun c hc => cut_mem hc) (cut_len _ _ _)))
  · cases hx with
    | tup ha ra =>
      refine sl_tupA pins s σ H _ v vl vu lo hi sl Q I rx hs pl pu ⟨_, _, rfl, SqT.same e ha, fun hw => ?_, fun hw p hp => ?_⟩
      · have hw' := hw
        rw [ra.length] at hw'
        rw [cut_whole hw'] at k
        exact k _ _ _ (Gw.refl e) (.tup ha ra)
      · obtain ⟨g, r⟩ := newT e hp (cut_rp lo hi ra)
        exact k _ _ _ g r
  · cases hx with
    | lst ha ra =>
      refine sl_list pins s σ H _ v vl vu lo hi sl Q I rx hs pl pu ⟨_, _, rfl, SqL.of (e _ _ ha), fun p hp => ?_⟩
      obtain ⟨g, r⟩ := newL e hp (cut_rp lo hi ra)
      exact k _ _ _ g r
theorem d_cut {lo hi : Option Expr} {l u : M (Option Int)} (ha : DE X W m a f) (hl : DO X W m lo l) (hu : DO X W m hi u) : DE X W m (.Subscript a (.Slice lo hi none p2) pos) (eCut f l u) :=
  PE.imp (pe_slice sl_data ha hl hu) fun σ H Q ⟨F, L, ρ, er, p⟩ => tG_bnd er p fun x dx F1 H1 L1 ρ1 x1 er1 rx p1 => tG_bnd er1 p1 fun lo' lo'' F2 H2 L2 ρ2 x2 er2 r2 p2 => tG_bnd er2 p2 fun hi' hi'' F3 H3 L3 ρ3 x3 er3 r3 p3 => by
    have r2 : lo' = lo'' := r2
    have r3 : hi' = hi'' := r3
    subst r2 r3
    obtain ⟨d, hd, k⟩ := lift_post er3 p3
    exact ⟨F3, dx, d, er3.fh, (rx.same x2.ex.ff).same x3.ex.ff, hd, k⟩

/-! ### calls of builtins -/
def rBD (K : PySem.W.Frag) (mg : Mg) (B : List D → Option D) : List V → Hp → VK → Prop := fun vs H Q => ∃ F ds d, Same F H ∧ RpA K mg F vs ds ∧ B ds = some d ∧ ∀ v F' H', Gw F H F' H' → Rp K mg F' v d → Q v H'
abbrev BD (X : Cx) (f : Value) (B : List D → Option D) : Prop := CallR X f (rBD X.K X.mg B)
def eB (B : List D → Option D) (fs : M (List D)) : M D := bnd fs fun ds => lift (B ds)
variable {es : List Expr} {fs : M (List D)} {B : List D → Option D} {x : Str} {p : Pos}
theorem d_callB {id : String} (hc : BD X (.builtin id) B) (hg : Gl X x) (hm : X.mg x = none) (hv : bootBuiltins x = some (.builtin id)) (ha : DAs X W m (a :: es) fs) (hn : x ≠ "__name__" := by decide) (hdb : (x == ("__debug__" : Str)) = false := by decide)
    (he : starEach (a :: es) X.env = (false, eval a X.env) :: starEach es X.env := by rfl) (hpl : (backTo pos (starEach es X.env)).any (·.1) = false := by rfl) : DE X W m (.Call (.Name x p) (a :: es) [] pos) (eB B fs) :=
  PE.imp (pe_callB hc hg hm hv ha hn hdb he hpl) fun σ H Q ⟨F, L, ρ, er, p⟩ => tG_bnd er p fun x dx F1 H1 L1 ρ1 x1 er1 rx p1 => by
    obtain ⟨d, hd, k⟩ := lift_post er1 p1
    exact ⟨F1, dx, d, er1.fh, rx, hd, k⟩
theorem d_callTy {T : String} (hc : BD X (.type T) B) (hg : Gl X x) (hm : X.mg x = none) (hv : bootBuiltins x = some (.type T)) (ha : DAs X W m (a :: es) fs) (hn : x ≠ "__name__" := by decide) (hdb : (x == ("__debug__" : Str)) = false := by decide)
    (he : starEach (a :: es) X.env = (false, eval a X.env) :: starEach es X.env := by rfl) (hpl : (backTo pos (starEach es X.env)).any (·.1) = false := by rfl) : DE X W m (.Call (.Name x p) (a :: es) [] pos) (eB B fs) :=
  PE.imp (pe_callTy hc hg hm hv ha hn hdb he hpl) fun σ H Q ⟨F, L, ρ, er, p⟩ => tG_bnd er p fun x dx F1 H1 L1 ρ1 x1 er1 rx p1 => by
    obtain ⟨d, hd, k⟩ := lift_post er1 p1
    exact ⟨F1, dx, d, er1.fh, rx, hd, k⟩

/-! ### len -/
def bLen : List D → Option D
  | [.str s] => some (.int s.length)
  | [.lst xs] => some (.int xs.length)
  | [.tup xs] => some (.int xs.length)
  | _ => none
theorem ok_len : BD X (.builtin "len") bLen := by
  intro pins s σ H vs us Q I r h
  obtain ⟨F, ds, d, e, ra, ho, k⟩ := h
  unfold bLen at ho
  split at ho <;> cases ho
  · cases ra with
    | cons r1 t =>
      cases t
      cases r1 with
      | str hz => exact call_len_str pins s σ H _ us Q I r ⟨_, rfl, by rw [line_eq]; exact hz.2, k _ _ _ (Gw.refl e) .int⟩
  · cases ra with
    | cons r1 t =>
      cases t
      cases r1 with
      | lst ha rr => exact call_len_seq pins s σ H _ us Q I r ⟨_, _, rfl, .inl (SqL.of (e _ _ ha)), by rw [rr.length]; exact k _ _ _ (Gw.refl e) .int⟩
  · cases ra with
    | cons r1 t =>
      cases t
      cases r1 with
      | tup ha rr => exact call_len_seq pins s σ H _ us Q I r ⟨_, _, rfl, .inr (SqT.same e ha), by rw [rr.length]; exact k _ _ _ (Gw.refl e) .int⟩
/-! ### abs, int, str -/
def bAbs : List D → Option D
  | [.int i] => some (.int (if i < 0 then -i else i))
  | _ => none
theorem ok_abs : BD X (.builtin "abs") bAbs := by
  intro pins s σ H vs us Q I r h
  obtain ⟨F, ds, d, e, ra, ho, k⟩ := h
  unfold bAbs at ho
  split at ho <;> cases ho
  cases ra with
  | cons r1 t =>
    cases t
    cases r1
    exact call_abs pins s σ H _ us Q I r ⟨_, rfl, k _ _ _ (Gw.refl e) .int⟩
def bInt : List D → Option D
  | [.int i] => some (.int i)
  | [.bl b] => some (.int (if b then 1 else 0))
  | _ => none
theorem ok_int : BD X (.type "int") bInt := by
  intro pins s σ H vs us Q I r h
  obtain ⟨F, ds, d, e, ra, ho, k⟩ := h
  unfold bInt at ho
  split at ho <;> cases ho
  · cases ra with
    | cons r1 t =>
      cases t
      cases r1
      exact call_int1 pins s σ H _ us Q I r (.inl ⟨_, rfl, k _ _ _ (Gw.refl e) .int⟩)
  · cases ra with
    | cons r1 t =>
      cases t
      cases r1
      exact call_int1 pins s σ H _ us Q I r (.inr ⟨_, rfl, k _ _ _ (Gw.refl e) .int⟩)
def bStr : List D → Option D
  | [.str s] => some (.str s)
  | _ => none
theorem ok_str : BD X (.type "str") bStr := by
  intro pins s σ H vs us Q I r h
  obtain ⟨F, ds, d, e, ra, ho, k⟩ := h
  unfold bStr at ho
  split at ho <;> cases ho
  cases ra with
  | cons r1 t =>
    cases t
    cases r1 with
    | str hz =>
      obtain ⟨u, rfl, ru⟩ := vals1 r
      obtain ⟨tk, rfl⟩ := ru
      exact P.str_of_str ⟨.str _, H, I, ⟨_, rfl⟩, k _ _ _ (Gw.refl e) (.str hz)⟩
/-! ### list, tuple -/
def bList : List D → Option D
  | [.lst xs] => some (.lst xs)
  | [.tup xs] => some (.lst xs)
  | [.scr xs] => some (.lst xs)
  | [.str s] => some (.lst (s.map fun c => .str [c]))
  | _ => none
def bTuple : List D → Option D
  | [.lst xs] => some (.tup xs)
  | [.tup xs] => some (.tup xs)
  | _ => none
theorem ok_tuple : BD X (.type "tuple") bTuple := by
  intro pins s σ H vs us Q I r h
  obtain ⟨F, ds, d, e, ra, ho, k⟩ := h
  unfold bTuple at ho
  split at ho <;> cases ho
  · cases ra with
    | cons r1 t =>
      cases t
      cases r1 with
      | lst ha rr =>
        refine call_tuple_of pins s σ H _ us Q I r ⟨_, _, rfl, .inl ⟨SqL.of (e _ _ ha), fun p hp => ?_⟩⟩
        obtain ⟨g, r⟩ := newT e hp rr
        exact k _ _ _ g r
  · cases ra with
    | cons r1 t =>
      cases t
      cases r1 with
      | tup ha rr => exact call_tuple_of pins s σ H _ us Q I r ⟨_, _, rfl, .inr ⟨SqT.same e ha, k _ _ _ (Gw.refl e) (.tup ha rr)⟩⟩
theorem signs_vals {x : Str} {acc : Array Value} (h : ItemsOf (SignAt x) acc x.cps.size) : Vals (x.cps.toList.map fun c => V.str ⟨#[c]⟩) acc.toList := by
  refine vals_of_at (by rw [List.length_map, Array.length_toList, Array.length_toList]; exact h.1.symm) fun j v u hv hu => ?_
  rw [List.getElem?_map] at hv
  cases e : x.cps.toList[j]? with
  | none => rw [e] at hv; cases hv
  | some c =>
    rw [e] at hv
    cases hv
    obtain ⟨c', t, h1, h2⟩ := h.2 j u (by simpa using hu)
    have e' : x.cps[j]? = some c := by simpa using e
    rw [e'] at h1
    cases h1
    exact ⟨t, h2⟩
theorem strs_rp {K : PySem.W.Frag} {mg : Mg} {F : Hp} {s : List Nat} (hz : SOk s) : ∀ {l : List Nat}, (∀ c ∈ l, c ∈ s) → RpA K mg F (l.map fun c => V.str ⟨#[c]⟩) (l.map fun c => D.str [c])
  | [], _ => .nil
  | c :: l, h => .cons (.str (hz.one (h c (by simp)))) (strs_rp hz fun d hd => h d (List.mem_cons_of_mem _ hd))
theorem ok_list (hcalm : X.calm = true) : BD X (.type "list") bList := by
  intro pins s σ H vs us Q I r h
  obtain ⟨F, ds, d, e, ra, ho, k⟩ := h
  unfold bList at ho
  split at ho <;> cases ho
  · cases ra with
    | cons r1 t =>
      cases t
      cases r1 with
      | lst ha rr =>
        refine call_list_of pins s σ H _ us Q I r ⟨_, _, rfl, .inl (SqL.of (e _ _ ha)), fun p hp => ?_⟩
        obtain ⟨g, r⟩ := newL e hp rr
        exact k _ _ _ g r
  · cases ra with
    | cons r1 t =>
      cases t
      cases r1 with
      | tup ha rr =>
        refine call_list_of pins s σ H _ us Q I r ⟨_, _, rfl, .inr (SqT.same e ha), fun p hp => ?_⟩
        obtain ⟨g, r⟩ := newL e hp rr
        exact k _ _ _ g r
  · cases ra with
    | cons r1 t =>
      cases t
      cases r1 with
      | scr ha rr =>
        refine call_list_of pins s σ H _ us Q I r ⟨_, _, rfl, .inl (e.seq ha), fun p hp => ?_⟩
        obtain ⟨g, r⟩ := newL e hp rr
        exact k _ _ _ g r
  · cases ra with
    | cons r1 t =>
      cases t
      cases r1 with
      | str hz =>
        rename_i z
        obtain ⟨u, rfl, ru⟩ := vals1 r
        obtain ⟨tk, rfl⟩ := ru
        have hsz : (⟨z.toArray⟩ : Str).cps.size ≤ sizeLine := by rw [line_eq]; simpa using hz.2
        refine call_list_str (I.ok.hd hcalm) _ tk (hn := hsz) fun h' tk' acc' c' hk hS' hacc => ?_
        have hv := signs_vals hacc
        have hl : (z.map fun c => V.str ⟨#[c]⟩).length ≤ sizeLine := by rw [List.length_map]; simpa using hsz
        have I1 : Inv X pins σ (upd H s.heap.objs.size (.lst (z.map fun c => V.str ⟨#[c]⟩))) { s with heap := h', toks := tk' } :=
          I.laid (t' := tk') hk (Nat.le_refl _) ⟨hl, acc'.toList, c', by simpa using hv, by rw [Array.toArray_toList]; exact hS'⟩
        have hp : H s.heap.objs.size = none := I.hok.fresh (Nat.le_refl _)
        obtain ⟨g, rr⟩ := newL e hp (strs_rp (K := X.K) (mg := X.mg) (F := F) hz (l := z) fun _ h => h)
        exact ⟨.ref s.heap.objs.size, _, I1, rfl, k _ _ _ g rr⟩

/-! ### sum, min, max, all, any of lists -/
def bSum : List D → Option D
  | [.lst xs] => (intsOf xs).map fun ns => .int ns.sum
  | _ => none
theorem ok_sum (hcalm : X.calm = true) : BD X (.builtin "sum") bSum := by
  intro pins s σ H vs us Q I r h
  obtain ⟨F, ds, d, e, ra, ho, k⟩ := h
  unfold bSum at ho
  split at ho
  · cases e2 : intsOf _ with
    | none => rw [e2] at ho; cases ho
    | some ns =>
      rw [e2] at ho
      cases ho
      cases ra with
      | cons r1 t =>
        cases t
        cases r1 with
        | lst ha rr =>
          have e3 := intsOf_rp rr e2
          subst e3
          exact cr_sum hcalm pins s σ H _ us Q I r ⟨_, _, rfl, SqL.of (e _ _ ha), k _ _ _ (Gw.refl e) .int⟩
  · cases ho
def minL : List Int → Int
  | [] => 0
  | [i] => i
  | i :: j :: r => if i ≤ minL (j :: r) then i else minL (j :: r)
def maxL : List Int → Int
  | [] => 0
  | [i] => i
  | i :: j :: r => if maxL (j :: r) ≤ i then i else maxL (j :: r)
theorem minL_spec : ∀ {ns : List Int}, ns ≠ [] → minL ns ∈ ns ∧ ∀ y ∈ ns, minL ns ≤ y
  | [], h => absurd rfl h
  | [i], _ => by simp [minL]
  | i :: j :: r, _ => by
    obtain ⟨h1, h2⟩ := minL_spec (ns := j :: r) (by simp)
    unfold minL
    split
    · rename_i hi
      exact ⟨by simp, fun y hy => (List.mem_cons.mp hy).elim (fun z => by subst z; exact Int.le_refl _) fun z => Int.le_trans hi (h2 y z)⟩
    · rename_i hi
      exact ⟨List.mem_cons_of_mem _ h1, fun y hy => (List.mem_cons.mp hy).elim (fun z => by subst z; omega) fun z => h2 y z⟩
theorem maxL_spec : ∀ {ns : List Int}, ns ≠ [] → maxL ns ∈ ns ∧ ∀ y ∈ ns, y ≤ maxL ns
  | [], h => absurd rfl h
  | [i], _ => by simp [maxL]
  | i :: j :: r, _ => by
    obtain ⟨h1, h2⟩ := maxL_spec (ns := j :: r) (by simp)
    unfold maxL
    split
    · rename_i hi
      exact ⟨by simp, fun y hy => (List.mem_cons.mp hy).elim (fun z => by subst z; exact Int.le_refl _) fun z => Int.le_trans (h2 y z) hi⟩
    · rename_i hi
      exact ⟨List.mem_cons_of_mem _ h1, fun y hy => (List.mem_cons.mp hy).elim (fun z => by subst z; omega) fun z => h2 y z⟩
def bMin : List D → Option D
  | [.lst xs] => match intsOf xs with
    | some (n :: ns) => some (.int (minL (n :: ns)))
    | _ => none
  | [.int i, .int j] => some (.int (if j < i then j else i))
  | _ => none
def bMax : List D → Option D
  | [.lst xs] => match intsOf xs with
    | some (n :: ns) => some (.int (maxL (n :: ns)))
    | _ => none
  | [.int i, .int j] => some (.int (if j > i then j else i))
  | _ => none
theorem ok_min (hcalm : X.calm = true) : BD X (.builtin "min") bMin := by
  intro pins s σ H vs us Q I r h
  obtain ⟨F, ds, d, e, ra, ho, k⟩ := h
  unfold bMin at ho
  split at ho
  · split at ho
    · rename_i e2
      cases ho
      cases ra with
      | cons r1 t =>
        cases t
        cases r1 with
        | lst ha rr =>
          have e3 := intsOf_rp rr e2
          subst e3
          refine cr_min hcalm pins s σ H _ us Q I r ⟨_, _, rfl, SqL.of (e _ _ ha), by simp, fun q h1 h2 => ?_⟩
          obtain ⟨g1, g2⟩ := minL_spec (ns := _ :: _) (by simp)
          rw [Int.le_antisymm (h2 _ g1) (g2 _ h1)]
          exact k _ _ _ (Gw.refl e) .int
    · cases ho
  · cases ho
    cases ra with
    | cons r1 t =>
      cases t with
      | cons r2 t =>
        cases t
        cases r1; cases r2
        exact call_min2 hcalm pins s σ H _ us Q I r ⟨_, _, rfl, k _ _ _ (Gw.refl e) .int⟩
  · cases ho
theorem ok_max (hcalm : X.calm = true) : BD X (.builtin "max") bMax := by
  intro pins s σ H vs us Q I r h
  obtain ⟨F, ds, d, e, ra, ho, k⟩ := h
  unfold bMax at ho
  split at ho
  · split at ho
    · rename_i e2
      cases ho
      cases ra with
      | cons r1 t =>
        cases t
        cases r1 with
        | lst ha rr =>
          have e3 := intsOf_rp rr e2
          subst e3
          refine cr_max hcalm pins s σ H _ us Q I r ⟨_, _, rfl, SqL.of (e _ _ ha), by simp, fun q h1 h2 => ?_⟩
          obtain ⟨g1, g2⟩ := maxL_spec (ns := _ :: _) (by simp)
          rw [Int.le_antisymm (g2 _ h1) (h2 _ g1)]
          exact k _ _ _ (Gw.refl e) .int
    · cases ho
  · cases ho
    cases ra with
    | cons r1 t =>
      cases t with
      | cons r2 t =>
        cases t
        cases r1; cases r2
        exact call_max2 hcalm pins s σ H _ us Q I r ⟨_, _, rfl, k _ _ _ (Gw.refl e) .int⟩
  · cases ho
def blsOf : List D → Option (List Bool)
  | [] => some []
  | .bl b :: r => (blsOf r).map (b :: ·)
  | _ :: _ => none
theorem blsOf_rp {K : PySem.W.Frag} {mg : Mg} {F : Hp} : ∀ {vs : List V} {ds : List D} {bs : List Bool}, RpA K mg F vs ds → blsOf ds = some bs → vs = bs.map V.bl
  | _, _, _, .nil, h => by simp [blsOf] at h; subst h; rfl
  | _, _, _, .cons (d := d) hd t, h => by
    cases hd <;> simp only [blsOf, reduceCtorEq] at h
    cases e : blsOf _ with
    | none => rw [e] at h; cases h
    | some ms =>
      rw [e] at h
      cases h
      rw [blsOf_rp t e]
      rfl
def bAll : List D → Option D
  | [.lst xs] => (blsOf xs).map fun bs => .bl (bs.all id)
  | _ => none
def bAny : List D → Option D
  | [.lst xs] => (blsOf xs).map fun bs => .bl (bs.any id)
  | _ => none
theorem ok_all (hcalm : X.calm = true) : BD X (.builtin "all") bAll := by
  intro pins s σ H vs us Q I r h
  obtain ⟨F, ds, d, e, ra, ho, k⟩ := h
  unfold bAll at ho
  split at ho
  · cases e2 : blsOf _ with
    | none => rw [e2] at ho; cases ho
    | some ns =>
      rw [e2] at ho
      cases ho
      cases ra with
      | cons r1 t =>
        cases t
        cases r1 with
        | lst ha rr =>
          have e3 := blsOf_rp rr e2
          subst e3
          exact cr_all hcalm pins s σ H _ us Q I r ⟨_, _, rfl, SqL.of (e _ _ ha), k _ _ _ (Gw.refl e) .bl⟩
  · cases ho
theorem ok_any (hcalm : X.calm = true) : BD X (.builtin "any") bAny := by
  intro pins s σ H vs us Q I r h
  obtain ⟨F, ds, d, e, ra, ho, k⟩ := h
  unfold bAny at ho
  split at ho
  · cases e2 : blsOf _ with
    | none => rw [e2] at ho; cases ho
    | some ns =>
      rw [e2] at ho
      cases ho
      cases ra with
      | cons r1 t =>
        cases t
        cases r1 with
        | lst ha rr =>
          have e3 := blsOf_rp rr e2
          subst e3
          exact cr_any hcalm pins s σ H _ us Q I r ⟨_, _, rfl, SqL.of (e _ _ ha), k _ _ _ (Gw.refl e) .bl⟩
  · cases ho

/-! ### isinstance of built-in types -/
def tyN : D → Option String
  | .non => some "NoneType"
  | .bl _ => some "bool"
  | .int _ => some "int"
  | .str _ => some "str"
  | .tup _ => some "tuple"
  | .lst _ => some "list"
  | _ => none
def isT (a b : String) : Bool := a == b || (a == "bool" && b == "int")
def isiD (T : String) (x : D) : Option D := (tyN x).map fun a => .bl (isT a T)
theorem kits : (["NoneType", "bool", "int", "str", "tuple", "list"].all fun a => ["int", "bool", "str", "tuple", "list"].all fun b => kitB a b == some (isT a b)) = true := by decide +kernel
theorem tyN_mem {x : D} {a : String} (h : tyN x = some a) : a ∈ ["NoneType", "bool", "int", "str", "tuple", "list"] := by
  cases x <;> simp only [tyN, reduceCtorEq] at h <;> cases h <;> simp
theorem tyN_ty {K : PySem.W.Frag} {mg : Mg} {F H : Hp} {v : V} {d : D} {a : String} (e : Same F H) (r : Rp K mg F v d) (h : tyN d = some a) : TyX K H v (.type a) := by
  cases r <;> simp only [tyN, reduceCtorEq] at h <;> cases h
  · exact .base .non
  · exact .base (.bl _)
  · exact .base (.int _)
  · exact .base (.str _)
  · rename_i ha _
    rcases ha with (ha | ⟨o, ha⟩) | ⟨o, its, n, hk, hc, _⟩
    · exact .base (.tup (e _ _ ha))
    · exact .fTuple (e _ _ ha)
    · exact .kTuple hk hc
  · rename_i ha _
    exact .base (.lst (e _ _ ha))
theorem d_isi {T : Str} {n : String} {p1 p2' : Pos} (hg : Gl X "isinstance") (hm : X.mg "isinstance" = none) (hgT : Gl X T) (hmT : X.mg T = none) (hvT : bootBuiltins T = some (.type n)) (hT : n ∈ ["int", "bool", "str", "tuple", "list"]) (ha : DE X W m a f)
    (hnT : T ≠ "__name__" := by decide) (hdT : (T == ("__debug__" : Str)) = false := by decide)
    (he : starEach [a, .Name T p2'] X.env = (false, eval a X.env) :: starEach [.Name T p2'] X.env := by rfl) (he2 : starEach [.Name T p2'] X.env = (false, eval (.Name T p2') X.env) :: starEach [] X.env := by rfl)
    (hpl : (backTo pos (starEach [.Name T p2'] X.env)).any (·.1) = false := by rfl) : DE X W m (.Call (.Name "isinstance" p1) [a, .Name T p2'] [] pos) (eUn (isiD n) f) :=
  PE.imp (pe_callB call_isi hg hm (by decide +kernel) (pa_cons ha (pa_cons (pe_bltn (v := .ty n) (u := .type n) hgT hmT hvT rfl hnT hdT) pa_nil he2) he) (by decide) (by decide) he hpl) fun σ H Q ⟨F, L, ρ, er, p⟩ =>
    tG_bnd er p fun x dx F1 H1 L1 ρ1 x1 er1 rx p1 => by
      obtain ⟨d, hd, k⟩ := lift_post er1 p1
      unfold isiD at hd
      cases e : tyN dx with
      | none => rw [e] at hd; cases hd
      | some a' =>
        rw [e] at hd
        cases hd
        have q := List.all_eq_true.mp (List.all_eq_true.mp kits a' (tyN_mem e)) n hT
        exact ⟨x, .ty n, .type a', .type n, isT a' n, rfl, .ty n, tyN_ty er1.fh rx e, kit_ty (by simpa using q), k _ _ _ (Gw.refl er1.fh) .bl⟩
end
end Wk
set_option Elab.async false
set_option linter.all false
set_option maxRecDepth 100000
namespace Wk
open PySem PySem.Spec PyProof.Rows L2

/-! ### slots set, wiped, filled again -/
def Slot.light : Slot → Bool
  | .no => true
  | .val _ => true
  | _ => false
section
variable {K : PySem.W.Frag} {mg : Mg} {F F' H H' : Hp}
theorem ERs.setVal {v : V} {d : D} (r : Rp K mg F v d) : ∀ {σ : L2.St} {ρ : EnvD} {L : List Addr} {i : Nat}, ERs K mg F H σ ρ L → i < ρ.length →
    ∃ L', ERs K mg F H (σ.set i (some v)) (ρ.set i (.val d)) L' ∧ L'.Sublist L ∧ (∀ s, ρ[i]? = some s → s.light = true → L' = L)
  | _, _, _, _, .nil, h => by simp at h
  | _, _, _, 0, .no t, _ => ⟨_, .val r t, List.Sublist.refl _, fun _ _ _ => rfl⟩
  | _, _, _, 0, .val _ t, _ => ⟨_, .val r t, List.Sublist.refl _, fun _ _ _ => rfl⟩
  | _, _, _, 0, .own _ t, _ => ⟨_, .val r t, List.sublist_append_right _ _, fun s e z => by simp at e; subst e; simp [Slot.light] at z⟩
  | _, _, _, 0, .pin _ t, _ => ⟨_, .val r t, List.sublist_append_right _ _, fun s e z => by simp at e; subst e; simp [Slot.light] at z⟩
  | _, _, _, i + 1, .no t, h => by
    obtain ⟨L', a, b, c⟩ := ERs.setVal (i := i) r t (by simpa using h)
    exact ⟨L', .no a, b, fun s e z => c s (by simpa using e) z⟩
  | _, _, _, i + 1, .val q t, h => by
    obtain ⟨L', a, b, c⟩ := ERs.setVal (i := i) r t (by simpa using h)
    exact ⟨L', .val q a, b, fun s e z => c s (by simpa using e) z⟩
  | _, _, _, i + 1, .own q t, h => by
    obtain ⟨L', a, b, c⟩ := ERs.setVal (i := i) r t (by simpa using h)
    exact ⟨_, .own q a, b.append_left _, fun s e z => by rw [c s (by simpa using e) z]⟩
  | _, _, _, i + 1, .pin q t, h => by
    obtain ⟨L', a, b, c⟩ := ERs.setVal (i := i) r t (by simpa using h)
    exact ⟨_, .pin q a, b.append_left _, fun s e z => by rw [c s (by simpa using e) z]⟩
/-- an unset slot says nothing -/
theorem ERs.congr : ∀ {σ σ' : L2.St} {ρ : EnvD} {L : List Addr}, ERs K mg F H σ ρ L → σ'.length = σ.length → (∀ (i : Nat) (s : Slot), ρ[i]? = some s → s ≠ Slot.no → σ'[i]? = σ[i]?) → ERs K mg F H σ' ρ L
  | _, [], _, _, .nil, _, _ => .nil
  | _, _ :: _, _, _, .nil, h, _ => by simp at h
  | _, [], _, _, .no t, h, _ => by simp at h
  | _, o :: σ', _, _, .no t, h, k => .no (ERs.congr t (by simpa using h) fun i s e n => by simpa using k (i + 1) s (by simpa using e) n)
  | _, [], _, _, .val _ t, h, _ => by simp at h
  | _, o :: σ', _, _, .val r t, h, k => by
    have e := k 0 _ rfl (by simp)
    simp at e
    subst e
    exact .val r (ERs.congr t (by simpa using h) fun i s e n => by simpa using k (i + 1) s (by simpa using e) n)
  | _, [], _, _, .own _ t, h, _ => by simp at h
  | _, o :: σ', _, _, .own r t, h, k => by
    have e := k 0 _ rfl (by simp)
    simp at e
    subst e
    exact .own r (ERs.congr t (by simpa using h) fun i s e n => by simpa using k (i + 1) s (by simpa using e) n)
  | _, [], _, _, .pin _ t, h, _ => by simp at h
  | _, o :: σ', _, _, .pin r t, h, k => by
    have e := k 0 _ rfl (by simp)
    simp at e
    subst e
    exact .pin r (ERs.congr t (by simpa using h) fun i s e n => by simpa using k (i + 1) s (by simpa using e) n)
end
/-- the slots at vs hold no object of the frame's own -/
def lightAt (vs : List Nat) : Nat → EnvD → Bool
  | _, [] => true
  | k, s :: ρ => (!vs.contains k || s.light) && lightAt vs (k + 1) ρ
def wipeD (vs : List Nat) : Nat → EnvD → EnvD
  | _, [] => []
  | k, s :: ρ => (if vs.contains k then Slot.no else s) :: wipeD vs (k + 1) ρ
def mixD (vs : List Nat) : Nat → EnvD → EnvD → EnvD
  | k, s :: ρ, t :: ρ' => (if vs.contains k then s else t) :: mixD vs (k + 1) ρ ρ'
  | _, _, _ => []
section
variable {K : PySem.W.Frag} {mg : Mg} {F F' H H' : Hp}
theorem ERs.wipe {vs : List Nat} : ∀ {σ : L2.St} {ρ : EnvD} {L : List Addr} {k : Nat}, ERs K mg F H σ ρ L → lightAt vs k ρ = true → ERs K mg F H σ (wipeD vs k ρ) L
  | _, _, _, _, .nil, _ => .nil
  | _, _, _, k, .no t, h => by
    unfold lightAt at h
    unfold wipeD
    rw [Bool.and_eq_true] at h
    split <;> exact .no (ERs.wipe t h.2)
  | _, _, _, k, .val r t, h => by
    unfold lightAt at h
    unfold wipeD
    rw [Bool.and_eq_true] at h
    split
    · exact .no (ERs.wipe t h.2)
    · exact .val r (ERs.wipe t h.2)
  | _, _, _, k, .own r t, h => by
    unfold lightAt at h
    unfold wipeD
    rw [Bool.and_eq_true] at h
    split
    · rename_i q
      exact absurd h.1 (by rw [q]; simp [Slot.light])
    · exact .own r (ERs.wipe t h.2)
  | _, _, _, k, .pin r t, h => by
    unfold lightAt at h
    unfold wipeD
    rw [Bool.and_eq_true] at h
    split
    · rename_i q
      exact absurd h.1 (by rw [q]; simp [Slot.light])
    · exact .pin r (ERs.wipe t h.2)
theorem ERs.fill {vs : List Nat} (e : Same F F') : ∀ {σ : L2.St} {ρ ρ' : EnvD} {L L' : List Addr} {k : Nat}, ERs K mg F H σ ρ L → ERs K mg F' H' σ (wipeD vs k ρ') L' → lightAt vs k ρ = true → ERs K mg F' H' σ (mixD vs k ρ ρ') L'
  | _, _, [], _, _, _, .nil, t', _ => t'
  | _, _, _ :: _, _, _, _, .nil, t', _ => by
    unfold wipeD at t'
    cases t'
  | _, _, [], _, _, _, .no t, t', _ => by
    unfold wipeD at t'
    cases t'
  | _, _, [], _, _, _, .val _ t, t', _ => by
    unfold wipeD at t'
    cases t'
  | _, _, [], _, _, _, .own _ t, t', _ => by
    unfold wipeD at t'
    cases t'
  | _, _, [], _, _, _, .pin _ t, t', _ => by
    unfold wipeD at t'
    cases t'
  | _, _, s :: ρ', _, _, k, .no t, t', h => by
    unfold lightAt at h
    rw [Bool.and_eq_true] at h
    unfold wipeD at t'
    unfold mixD
    split at t'
    · rename_i q
      rw [if_pos q]
      cases t' with
      | no t' => exact .no (ERs.fill e t t' h.2)
    · rename_i q
      rw [if_neg q]
      cases t' with
      | no t' => exact .no (ERs.fill e t t' h.2)
      | val r t' => exact .val r (ERs.fill e t t' h.2)
      | own r t' => exact .own r (ERs.fill e t t' h.2)
      | pin r t' => exact .pin r (ERs.fill e t t' h.2)
  | _, _, s :: ρ', _, _, k, .val r0 t, t', h => by
    unfold lightAt at h
    rw [Bool.and_eq_true] at h
    unfold wipeD at t'
    unfold mixD
    split at t'
    · rename_i q
      rw [if_pos q]
      cases t' with
      | no t' => exact .val (r0.same e) (ERs.fill e t t' h.2)
    · rename_i q
      rw [if_neg q]
      cases t' with
      | no t' => exact .no (ERs.fill e t t' h.2)
      | val r t' => exact .val r (ERs.fill e t t' h.2)
      | own r t' => exact .own r (ERs.fill e t t' h.2)
      | pin r t' => exact .pin r (ERs.fill e t t' h.2)
  | _, _, s :: ρ', _, _, k, .own r0 t, t', h => by
    unfold lightAt at h
    rw [Bool.and_eq_true] at h
    unfold wipeD at t'
    unfold mixD
    split at t'
    · rename_i q
      exact absurd h.1 (by rw [q]; simp [Slot.light])
    · rename_i q
      rw [if_neg q]
      cases t' with
      | no t' => exact .no (ERs.fill e t t' h.2)
      | val r t' => exact .val r (ERs.fill e t t' h.2)
      | own r t' => exact .own r (ERs.fill e t t' h.2)
      | pin r t' => exact .pin r (ERs.fill e t t' h.2)
  | _, _, s :: ρ', _, _, k, .pin r0 t, t', h => by
    unfold lightAt at h
    rw [Bool.and_eq_true] at h
    unfold wipeD at t'
    unfold mixD
    split at t'
    · rename_i q
      exact absurd h.1 (by rw [q]; simp [Slot.light])
    · rename_i q
      rw [if_neg q]
      cases t' with
      | no t' => exact .no (ERs.fill e t t' h.2)
      | val r t' => exact .val r (ERs.fill e t t' h.2)
      | own r t' => exact .own r (ERs.fill e t t' h.2)
      | pin r t' => exact .pin r (ERs.fill e t t' h.2)
end
theorem wipeD_get (vs : List Nat) : ∀ (ρ : EnvD) (k i : Nat), (wipeD vs k ρ)[i]? = (ρ[i]?).map fun s => if vs.contains (k + i) then Slot.no else s
  | [], k, i => by simp [wipeD]
  | s :: ρ, k, 0 => by simp [wipeD]
  | s :: ρ, k, i + 1 => by
    have ih := wipeD_get vs ρ (k + 1) i
    simp only [wipeD, List.getElem?_cons_succ]
    rw [ih, show k + 1 + i = k + (i + 1) by omega]
theorem mixD_get (vs : List Nat) : ∀ (ρ ρ' : EnvD) (k i : Nat), ρ.length = ρ'.length → (mixD vs k ρ ρ')[i]? = if vs.contains (k + i) then ρ[i]? else ρ'[i]?
  | [], [], k, i, _ => by simp [mixD]
  | [], _ :: _, k, i, h => by simp at h
  | _ :: _, [], k, i, h => by simp at h
  | s :: ρ, t :: ρ', k, 0, _ => by
    simp only [mixD, List.getElem?_cons_zero, Nat.add_zero]
    split <;> rfl
  | s :: ρ, t :: ρ', k, i + 1, h => by
    have ih := mixD_get vs ρ ρ' (k + 1) i (by simpa using h)
    simp only [mixD, List.getElem?_cons_succ]
    rw [ih, show k + 1 + i = k + (i + 1) by omega]
theorem lightAt_get {vs : List Nat} : ∀ {ρ : EnvD} {k i : Nat} {s : Slot}, lightAt vs k ρ = true → ρ[i]? = some s → vs.contains (k + i) = true → s.light = true
  | [], _, _, _, _, e, _ => by simp at e
  | t :: ρ, k, 0, s, h, e, c => by
    unfold lightAt at h
    simp only [List.getElem?_cons_zero, Option.some.injEq] at e
    subst e
    rw [Nat.add_zero] at c
    rw [Bool.and_eq_true, c] at h
    simpa using h.1
  | t :: ρ, k, i + 1, s, h, e, c => by
    unfold lightAt at h
    rw [Bool.and_eq_true] at h
    exact lightAt_get (i := i) h.2 (by simpa using e) (by rw [show k + 1 + i = k + (i + 1) by omega]; exact c)
theorem wipe_get {σ : L2.St} {vs : List Nat} {i : Nat} (h : vs.contains i = false) : (wipe σ vs)[i]? = σ[i]? := by
  refine wipe_out ?_
  simpa using h

/-! ### targets -/
def tgName (i : Nat) : D → EnvD → Option EnvD := fun d ρ => match ρ[i]? with
  | some (.pin _) => none
  | some _ => some (ρ.set i (.val d))
  | none => none
def tgNil : List D → EnvD → Option EnvD
  | [], ρ => some ρ
  | _ :: _, _ => none
def tgCons (t : D → EnvD → Option EnvD) (ts : List D → EnvD → Option EnvD) : List D → EnvD → Option EnvD
  | d :: ds, ρ => (t d ρ).bind (ts ds)
  | [], _ => none
def tgTup (ts : List D → EnvD → Option EnvD) : D → EnvD → Option EnvD
  | .tup ds, ρ => ts ds ρ
  | _, _ => none
/-- slots elsewhere are as they were -/
def Off (vs : List Nat) (σ σ' : L2.St) : Prop := σ'.length = σ.length ∧ ∀ j, j ∉ vs → σ'[j]? = σ[j]?
theorem Off.refl (vs : List Nat) (σ : L2.St) : Off vs σ σ := ⟨rfl, fun _ _ => rfl⟩
theorem Off.trans {vs : List Nat} {σ σ1 σ2 : L2.St} (a : Off vs σ σ1) (b : Off vs σ1 σ2) : Off vs σ σ2 := ⟨b.1.trans a.1, fun j h => (b.2 j h).trans (a.2 j h)⟩
/-- what is lent lies where it lay -/
def Pn (σ : L2.St) (ρ : EnvD) (σ' : L2.St) (ρ' : EnvD) : Prop := ∀ (i : Nat) (d : D), ρ[i]? = some (Slot.pin d) → σ'[i]? = σ[i]? ∧ ∃ d' : D, ρ'[i]? = some (Slot.pin d')
theorem Pn.refl (σ : L2.St) (ρ : EnvD) : Pn σ ρ σ ρ := fun _ d h => ⟨rfl, d, h⟩
theorem Pn.trans {σ σ1 σ2 : L2.St} {ρ ρ1 ρ2 : EnvD} (a : Pn σ ρ σ1 ρ1) (b : Pn σ1 ρ1 σ2 ρ2) : Pn σ ρ σ2 ρ2 := fun i d h => by
  obtain ⟨e, d1, h1⟩ := a i d h
  obtain ⟨e', h2⟩ := b i d1 h1
  exact ⟨e'.trans e, h2⟩
theorem Pn.of_pk {σ : L2.St} {ρ ρ' : EnvD} (a : Pk ρ ρ') : Pn σ ρ σ ρ' := fun i d h => ⟨rfl, a i d h⟩
/-- the slots at vs keep no object, ahead and behind -/
def Lt (vs : List Nat) (ρ : EnvD) (L : List Addr) (ρ' : EnvD) (L' : List Addr) : Prop := L'.Sublist L ∧ (lightAt vs 0 ρ = true → L' = L ∧ lightAt vs 0 ρ' = true)
theorem Lt.refl (vs : List Nat) (ρ : EnvD) (L : List Addr) : Lt vs ρ L ρ L := ⟨List.Sublist.refl _, fun h => ⟨rfl, h⟩⟩
theorem Lt.trans {vs : List Nat} {ρ ρ1 ρ2 : EnvD} {L L1 L2 : List Addr} (a : Lt vs ρ L ρ1 L1) (b : Lt vs ρ1 L1 ρ2 L2) : Lt vs ρ L ρ2 L2 := ⟨b.1.trans a.1, fun h => by
  obtain ⟨a1, a2⟩ := a.2 h
  obtain ⟨b1, b2⟩ := b.2 a2
  exact ⟨b1.trans a1, b2⟩⟩
def tgR (K : PySem.W.Frag) (mg : Mg) (vs : List Nat) (T : D → EnvD → Option EnvD) : TG := fun v σ H Q => ∃ F L ρ d ρ', ER K mg F H L σ ρ ∧ Rp K mg F v d ∧ T d ρ = some ρ' ∧
  ∀ σ' L', ER K mg F H L' σ' ρ' → Lt vs ρ L ρ' L' → Off vs σ σ' → Pn σ ρ σ' ρ' → Q σ' H
def tgRs (K : PySem.W.Frag) (mg : Mg) (vs : List Nat) (T : List D → EnvD → Option EnvD) : TGs := fun us σ H Q => ∃ F L ρ ds ρ', ER K mg F H L σ ρ ∧ RpA K mg F us ds ∧ T ds ρ = some ρ' ∧
  ∀ σ' L', ER K mg F H L' σ' ρ' → Lt vs ρ L ρ' L' → Off vs σ σ' → Pn σ ρ σ' ρ' → Q σ' H
abbrev DG (X : Cx) (vs : List Nat) (tg : Expr) (T : D → EnvD → Option EnvD) : Prop := PG X tg (tgR X.K X.mg vs T)
abbrev DGs (X : Cx) (vs : List Nat) (tgs : List Expr) (T : List D → EnvD → Option EnvD) : Prop := PGs X tgs (tgRs X.K X.mg vs T)
theorem PG.imp {X : Cx} {e : Expr} {t t' : TG} (h : PG X e t) (k : ∀ v σ H Q, t' v σ H Q → t v σ H Q) : PG X e t' := ⟨fun pins s σ H v u Q I r q => h.run pins s σ H v u Q I r (k v σ H Q q)⟩
theorem PGs.imp {X : Cx} {e : List Expr} {t t' : TGs} (h : PGs X e t) (k : ∀ v σ H Q, t' v σ H Q → t v σ H Q) : PGs X e t' := ⟨fun pins s σ H v u Q I r q => h.run pins s σ H v u Q I r (k v σ H Q q)⟩
theorem tgName_some {i : Nat} {d : D} {ρ ρ' : EnvD} (h : tgName i d ρ = some ρ') : i < ρ.length ∧ ρ' = ρ.set i (.val d) ∧ ∀ d', ρ[i]? ≠ some (Slot.pin d') := by
  unfold tgName at h
  cases e : ρ[i]? with
  | none => rw [e] at h; cases h
  | some s =>
    rw [e] at h
    have hl := (List.getElem?_eq_some_iff.mp e).1
    cases s <;> simp only [reduceCtorEq] at h <;> cases h <;> exact ⟨hl, rfl, fun d' z => by cases z⟩
theorem lightAt_set {vs : List Nat} {d : D} : ∀ {ρ : EnvD} {k i : Nat}, lightAt vs k ρ = true → lightAt vs k (ρ.set i (.val d)) = true
  | [], _, _, h => h
  | s :: ρ, k, 0, h => by
    simp only [lightAt, Bool.and_eq_true, List.set_cons_zero] at h ⊢
    exact ⟨by simp [Slot.light], h.2⟩
  | s :: ρ, k, i + 1, h => by
    simp only [lightAt, Bool.and_eq_true, List.set_cons_succ] at h ⊢
    exact ⟨h.1, lightAt_set h.2⟩
theorem set_er {K : PySem.W.Frag} {mg : Mg} {F H : Hp} {L : List Addr} {σ : L2.St} {ρ ρ' : EnvD} {v : V} {d : D} {i : Nat} {vs : List Nat} (hi : i ∈ vs) (er : ER K mg F H L σ ρ) (r : Rp K mg F v d) (h : tgName i d ρ = some ρ') :
    ∃ L', ER K mg F H L' (σ.set i (some v)) ρ' ∧ Lt vs ρ L ρ' L' ∧ Off vs σ (σ.set i (some v)) ∧ Pn σ ρ (σ.set i (some v)) ρ' := by
  obtain ⟨hl, rfl, np⟩ := tgName_some h
  obtain ⟨L', a, b, c⟩ := er.rs.setVal r hl
  refine ⟨L', ⟨er.fh, a, er.nd.sublist b⟩, ⟨b, fun hz => ⟨?_, lightAt_set hz⟩⟩, ⟨by simp, fun j hj => ?_⟩, fun j d' e => ?_⟩
  · exact c _ (List.getElem?_eq_getElem hl) (lightAt_get hz (List.getElem?_eq_getElem hl) (by rw [Nat.zero_add]; simpa using hi))
  · rw [List.getElem?_set_ne (by intro z; subst z; exact hj hi)]
  · have hj : i ≠ j := fun z => by subst z; exact np d' e
    rw [List.getElem?_set_ne hj, List.getElem?_set_ne hj]
    exact ⟨rfl, d', e⟩
section
variable {X : Cx} {pos : Pos} {vs : List Nat}
theorem dg_name {i : Nat} {x : Str} (hN : X.N.Nodup) (hi : X.N[i]? = some x) (hx : Loc X.env.scope x) (hv : i ∈ vs) (hf : X.fn x = true ∨ X.env.scope.names.lookup x = some .local) : DG X vs (.Name x pos) (tgName i) :=
  PG.imp (pg_name hN hi hx hf) fun v σ H Q ⟨F, L, ρ, d, ρ', er, r, h, k⟩ => by
    obtain ⟨L', a, b, c, e⟩ := set_er hv er r h
    exact k _ L' a b c e
theorem dgs_nil : DGs X vs [] tgNil :=
  PGs.imp pgs_nil fun us σ H Q ⟨F, L, ρ, ds, ρ', er, r, h, k⟩ => by
    cases r with
    | nil =>
      cases h
      exact ⟨rfl, k σ L er (Lt.refl _ _ _) (Off.refl _ _) (Pn.refl _ _)⟩
    | cons _ _ => cases h
theorem dgs_cons {e : Expr} {es : List Expr} {t : D → EnvD → Option EnvD} {u : List D → EnvD → Option EnvD} (h1 : DG X vs e t) (h2 : DGs X vs es u)
    (hs : (assignEach (e :: es) X.env).map (·.2) = assign e X.env :: (assignEach es X.env).map (·.2) := by rfl) : DGs X vs (e :: es) (tgCons t u) :=
  PGs.imp (pgs_cons h1 h2 hs) fun us σ H Q ⟨F, L, ρ, ds, ρ', er, r, h, k⟩ => by
    cases r with
    | nil => cases h
    | @cons v d vr dr r rr =>
      have h : (t d ρ).bind (u dr) = some ρ' := h
      cases e1 : t d ρ with
      | none => rw [e1] at h; cases h
      | some ρ1 =>
        rw [e1] at h
        refine ⟨v, vr, rfl, F, L, ρ, d, ρ1, er, r, e1, fun σ1 L1 er1 s1 o1 n1 => ⟨F, L1, ρ1, dr, ρ', er1, rr, h, fun σ2 L2 er2 s2 o2 n2 => ?_⟩⟩
        exact k σ2 L2 er2 (s1.trans s2) (o1.trans o2) (n1.trans n2)
theorem dg_tup {es : List Expr} {z : Nat} {t : List D → EnvD → Option EnvD} {n : Nat} (hc : X.calm = true) (h : DGs X vs es t) (ht : ∀ ds ρ ρ', t ds ρ = some ρ' → ds.length = n)
    (hn : (assignEach es X.env).length = n := by rfl) (hst : (assignEach es X.env).findIdx? (·.1) = none := by rfl) : DG X vs (.Tuple es z pos) (tgTup t) :=
  PG.imp (pg_tup (n := n) hc h hn hst) fun v σ H Q ⟨F, L, ρ, d, ρ', er, r, h, k⟩ => by
    cases r with
    | tup ha ra => exact ⟨_, _, rfl, SqT.same er.fh ha, by rw [ra.length]; exact ht _ _ _ h, F, L, ρ, _, ρ', er, ra, h, k⟩
    | _ => cases h
end
/-- a target changes the slots at vs alone -/
def TOk (vs : List Nat) (T : D → EnvD → Option EnvD) : Prop := ∀ d ρ ρ', T d ρ = some ρ' → wipeD vs 0 ρ' = wipeD vs 0 ρ
def TsOk (vs : List Nat) (T : List D → EnvD → Option EnvD) : Prop := ∀ d ρ ρ', T d ρ = some ρ' → wipeD vs 0 ρ' = wipeD vs 0 ρ
theorem wipeD_set {vs : List Nat} {s : Slot} : ∀ {ρ : EnvD} {k i : Nat}, vs.contains (k + i) = true → wipeD vs k (ρ.set i s) = wipeD vs k ρ
  | [], _, _, _ => by simp
  | t :: ρ, k, 0, h => by
    rw [Nat.add_zero] at h
    simp only [List.set_cons_zero, wipeD, h, if_true]
  | t :: ρ, k, i + 1, h => by
    simp only [List.set_cons_succ, wipeD]
    rw [wipeD_set (i := i) (by rw [show k + 1 + i = k + (i + 1) by omega]; exact h)]
theorem tok_name {vs : List Nat} {i : Nat} (h : i ∈ vs) : TOk vs (tgName i) := fun d ρ ρ' e => by
  obtain ⟨_, rfl, _⟩ := tgName_some e
  exact wipeD_set (by rw [Nat.zero_add]; simpa using h)
theorem tok_nil {vs : List Nat} : TsOk vs tgNil := fun d ρ ρ' e => by
  cases d with
  | nil => cases e; rfl
  | cons _ _ => cases e
theorem tok_cons {vs : List Nat} {t : D → EnvD → Option EnvD} {u : List D → EnvD → Option EnvD} (a : TOk vs t) (b : TsOk vs u) : TsOk vs (tgCons t u) := fun ds ρ ρ' e => by
  cases ds with
  | nil => cases e
  | cons d ds =>
    have e : (t d ρ).bind (u ds) = some ρ' := e
    cases e1 : t d ρ with
    | none => rw [e1] at e; cases e
    | some ρ1 =>
      rw [e1] at e
      exact (b ds ρ1 ρ' e).trans (a d ρ ρ1 e1)
theorem tok_tup {vs : List Nat} {u : List D → EnvD → Option EnvD} (b : TsOk vs u) : TOk vs (tgTup u) := fun d ρ ρ' e => by
  cases d with
  | tup ds => exact b ds ρ ρ' e
  | _ => cases e
theorem tgNil_len {ds : List D} {ρ ρ' : EnvD} (h : tgNil ds ρ = some ρ') : ds.length = 0 := by
  cases ds with
  | nil => rfl
  | cons _ _ => cases h
theorem tgCons_len {t : D → EnvD → Option EnvD} {u : List D → EnvD → Option EnvD} {n : Nat} (hu : ∀ ds ρ ρ', u ds ρ = some ρ' → ds.length = n) : ∀ ds ρ ρ', tgCons t u ds ρ = some ρ' → ds.length = n + 1 := by
  intro ds ρ ρ' h
  cases ds with
  | nil => cases h
  | cons d ds =>
    have h : (t d ρ).bind (u ds) = some ρ' := h
    cases e1 : t d ρ with
    | none => rw [e1] at h; cases h
    | some ρ1 =>
      rw [e1] at h
      simp [hu _ _ _ (show u ds ρ1 = some ρ' from h)]
end Wk
set_option Elab.async false
set_option linter.all false
set_option maxRecDepth 100000
namespace Wk
open PySem PySem.Spec PyProof.Rows L2

/-! ### what is walked -/
/-- the iterator J gives the items ds, whatever grows meanwhile -/
structure Wlk (K : PySem.W.Frag) (mg : Mg) (J : It) (F : Hp) (ds : List D) : Prop where
  goes : ∀ i F2 H, i < ds.length → Same F F2 → Same F2 H → J.go i H
  stops : ∀ F2 H, Same F F2 → Same F2 H → J.stop ds.length H
  yields : ∀ i F2 H x H', i < ds.length → Same F F2 → Same F2 H → J.yld i H x H' → ∃ d F3, ds[i]? = some d ∧ Gw F2 H F3 H' ∧ Rp K mg F3 x d
/-- what the source of a loop leaves to be shown -/
def PostI (K : PySem.W.Frag) (mg : Mg) (W : WX) (m : Bool) (F H : Hp) (L : List Addr) (σ : L2.St) (ρ : EnvD) (R : It → Hp → Prop) : Rs (List D) → Prop
  | .ok ds ρ' => ∀ J F' H' L', Exm m F H L ρ F' H' L' ρ' → ER K mg F' H' L' σ ρ' → Wlk K mg J F' ds → R J H'
  | .err x ρ' => ∀ c dx F' H' L', Exm false F H L ρ F' H' L' ρ' → ER K mg F' H' L' σ ρ' → XR K mg F' x c dx → W c dx σ H'
  | .stuck => False
def tI (K : PySem.W.Frag) (mg : Mg) (W : WX) (m : Bool) (f : M (List D)) : TI := fun σ H R => ∃ F L ρ, ER K mg F H L σ ρ ∧ PostI K mg W m F H L σ ρ R (f ρ)
/-- the source e of a loop gives the items f -/
abbrev DI (X : Cx) (W : WX) (m : Bool) (tg e : Expr) (f : M (List D)) : Prop := PI X tg e (tI X.K X.mg W m f)
theorem PI.imp {X : Cx} {tg e : Expr} {t t' : TI} (h : PI X tg e t) (k : ∀ σ H R, t' σ H R → t σ H R) : PI X tg e t' := ⟨fun pins s σ H R I q => h.run pins s σ H R I (k σ H R q)⟩
theorem PostI.mono {K : PySem.W.Frag} {mg : Mg} {W : WX} {m : Bool} {F F1 H H1 : Hp} {L L1 : List Addr} {σ : L2.St} {ρ ρ1 : EnvD} {R : It → Hp → Prop} {r : Rs (List D)} (p : PostI K mg W m F H L σ ρ R r) (x : Exm m F H L ρ F1 H1 L1 ρ1) : PostI K mg W m F1 H1 L1 σ ρ1 R r := by
  cases r with
  | ok d ρ' => exact fun J F' H' L' x' er r => p J F' H' L' (x.trans x') er r
  | err e ρ' => exact fun c dx F' H' L' x' er r => p c dx F' H' L' (x.imp.trans x') er r
  | stuck => exact p
theorem tI_bnd {K : PySem.W.Frag} {mg : Mg} {W : WX} {m : Bool} {F H : Hp} {L : List Addr} {σ : L2.St} {ρ : EnvD} {α β : Type} {Rr : Hp → β → α → Prop} {f : M α} {g : α → M (List D)} {R : It → Hp → Prop} {Q1 : β → Hp → Prop} (er : ER K mg F H L σ ρ) (p : PostI K mg W m F H L σ ρ R (bnd f g ρ))
    (k : ∀ b a F1 H1 L1 ρ1, Exm m F H L ρ F1 H1 L1 ρ1 → ER K mg F1 H1 L1 σ ρ1 → Rr F1 b a → PostI K mg W m F1 H1 L1 σ ρ1 R (g a ρ1) → Q1 b H1) : tG Rr K mg W m f σ H Q1 := by
  refine ⟨F, L, ρ, er, ?_⟩
  unfold bnd at p
  cases e : f ρ with
  | ok a ρ' => rw [e] at p; exact fun v F' H' L' x er' r => k v a F' H' L' ρ' x er' r (PostI.mono p x)
  | err x ρ' => rw [e] at p; exact p
  | stuck => rw [e] at p; exact p
theorem liftI {K : PySem.W.Frag} {mg : Mg} {W : WX} {m : Bool} {F H : Hp} {L : List Addr} {σ : L2.St} {ρ : EnvD} {o : Option (List D)} {R : It → Hp → Prop} (er : ER K mg F H L σ ρ) (p : PostI K mg W m F H L σ ρ R (lift o ρ)) :
    ∃ ds, o = some ds ∧ ∀ J F' H', Gw F H F' H' → Wlk K mg J F' ds → R J H' := by
  cases o with
  | some d => exact ⟨d, rfl, fun J F' H' g r => p J F' H' L (g.exm m L ρ) (g.er er) r⟩
  | none => exact p.elim

section
variable {K : PySem.W.Frag} {mg : Mg} {F : Hp}
theorem wlk_tup {a : Addr} {vs : List V} {ds : List D} (h : SqT K F a vs) (r : RpA K mg F vs ds) : Wlk K mg (Itt K a) F ds := by
  have w := walk_tup (K := K) (a := a) (xs := vs)
  refine ⟨fun i F2 H hi e e2 => w.goes i H (by rw [r.length]; exact hi) (SqT.same (e.trans e2) h), fun F2 H e e2 => by rw [← r.length]; exact w.stops H (SqT.same (e.trans e2) h), fun i F2 H x H' hi e e2 y => ?_⟩
  obtain ⟨rfl, hx⟩ := w.yields i H x H' (by rw [r.length]; exact hi) (SqT.same (e.trans e2) h) y
  obtain ⟨d, hd, rd⟩ := r.getV hx
  exact ⟨d, F2, hd, Gw.refl e2, rd.same e⟩
theorem wlk_lst {a : Addr} {vs : List V} {ds : List D} (h : F a = some (.lst vs)) (r : RpA K mg F vs ds) : Wlk K mg (Itl K a) F ds := by
  have w := walk_list (K := K) (a := a) (xs := vs)
  refine ⟨fun i F2 H hi e e2 => w.goes i H (by rw [r.length]; exact hi) (SqL.of ((e.trans e2) _ _ h)), fun F2 H e e2 => by rw [← r.length]; exact w.stops H (SqL.of ((e.trans e2) _ _ h)), fun i F2 H x H' hi e e2 y => ?_⟩
  obtain ⟨rfl, hx⟩ := w.yields i H x H' (by rw [r.length]; exact hi) (SqL.of ((e.trans e2) _ _ h)) y
  obtain ⟨d, hd, rd⟩ := r.getV hx
  exact ⟨d, F2, hd, Gw.refl e2, rd.same e⟩
theorem wlk_str {s : List Nat} (h : SOk s) : Wlk K mg (Its ⟨s.toArray⟩) F (s.map fun c => .str [c]) := by
  have w := walk_str (z := ⟨s.toArray⟩)
  have hl : (⟨s.toArray⟩ : Str).cps.size = s.length := by simp
  refine ⟨fun i F2 H hi e e2 => w.goes i H (by rw [hl]; simpa using hi) trivial, fun F2 H e e2 => by rw [List.length_map, ← hl]; exact w.stops H trivial, fun i F2 H x H' hi e e2 y => ?_⟩
  obtain ⟨rfl, c, hc, rfl⟩ := w.yields i H x H' (by rw [hl]; simpa using hi) trivial y
  have hc' : s[i]? = some c := by simpa using hc
  exact ⟨.str [c], F2, by rw [List.getElem?_map, hc']; rfl, Gw.refl e2, .str (h.one (List.mem_of_getElem? hc'))⟩
def rangeD (lo : Int) (n : Nat) : List D := (List.range n).map fun i => .int (lo + (i : Nat))
theorem rangeD_len (lo : Int) (n : Nat) : (rangeD lo n).length = n := by simp [rangeD]
theorem rangeD_get {lo : Int} {n i : Nat} (h : i < n) : (rangeD lo n)[i]? = some (.int (lo + (i : Nat))) := by
  simp [rangeD, h]
theorem wlk_range {lo : Int} {n : Nat} : Wlk K mg (Itr lo n) F (rangeD lo n) := by
  refine ⟨fun i F2 H hi e e2 => by rw [rangeD_len] at hi; exact hi, fun F2 H e e2 => by rw [rangeD_len]; exact Nat.le_refl _, fun i F2 H x H' hi e e2 y => ?_⟩
  rw [rangeD_len] at hi
  obtain ⟨rfl, rfl⟩ := y
  exact ⟨_, F2, rangeD_get hi, Gw.refl e2, .int⟩
end
def seqOf : D → Option (List D)
  | .tup xs => some xs
  | _ => none
def lstOf : D → Option (List D)
  | .lst xs => some xs
  | _ => none
def strOfD : D → Option (List D)
  | .str s => some (s.map fun c => .str [c])
  | _ => none
def iOf (g : D → Option (List D)) (f : M D) : M (List D) := bnd f fun x => lift (g x)
def rng1 : List D → Option (List D)
  | [.int j] => if j ≤ 16777216 ∧ -16777216 ≤ j then some (rangeD 0 j.toNat) else none
  | _ => none
def rng2 : List D → Option (List D)
  | [.int i, .int j] => if i ≤ 16777216 ∧ -16777216 ≤ i ∧ j ≤ 16777216 ∧ -16777216 ≤ j ∧ j - i ≤ 16777216 then some (rangeD i (j - i).toNat) else none
  | _ => none
def iArgs (g : List D → Option (List D)) (fs : M (List D)) : M (List D) := bnd fs fun xs => lift (g xs)
section
variable {X : Cx} {W : WX} {m : Bool} {tg a b c e : Expr} {f g h : M D} {pos p : Pos}
theorem di_tup (ha : DE X W m a f) : DI X W m tg a (iOf seqOf f) :=
  PI.imp (pi_tup ha) fun σ H R ⟨F, L, ρ, er, p⟩ => tI_bnd er p fun x dx F1 H1 L1 ρ1 x1 er1 rx p1 => by
    obtain ⟨ds, hd, k⟩ := liftI er1 p1
    cases rx with
    | tup ha ra =>
      cases hd
      exact ⟨_, rfl, ⟨_, SqT.same er1.fh ha⟩, k _ _ _ (Gw.refl er1.fh) (wlk_tup ha ra)⟩
    | _ => cases hd
theorem di_lst (ha : DE X W m a f) : DI X W m tg a (iOf lstOf f) :=
  PI.imp (pi_list ha) fun σ H R ⟨F, L, ρ, er, p⟩ => tI_bnd er p fun x dx F1 H1 L1 ρ1 x1 er1 rx p1 => by
    obtain ⟨ds, hd, k⟩ := liftI er1 p1
    cases rx with
    | lst ha ra =>
      cases hd
      exact ⟨_, rfl, ⟨_, SqL.of (er1.fh _ _ ha)⟩, k _ _ _ (Gw.refl er1.fh) (wlk_lst ha ra)⟩
    | _ => cases hd
theorem di_str (ha : DE X W m a f) : DI X W m tg a (iOf strOfD f) :=
  PI.imp (pi_str ha) fun σ H R ⟨F, L, ρ, er, p⟩ => tI_bnd er p fun x dx F1 H1 L1 ρ1 x1 er1 rx p1 => by
    obtain ⟨ds, hd, k⟩ := liftI er1 p1
    cases rx with
    | str hs =>
      cases hd
      exact ⟨_, rfl, k _ _ _ (Gw.refl er1.fh) (wlk_str hs)⟩
    | _ => cases hd
theorem di_rng1 {fs : M (List D)} (hg : Gl X "range") (hm : X.mg "range" = none) (ha : DAs X W m [a] fs) (hs : starEach [a] X.env = [(false, eval a X.env)] := by rfl) : DI X W m tg (.Call (.Name "range" p) [a] [] pos) (iArgs rng1 fs) :=
  PI.imp (pi_range1 hg hm ha hs) fun σ H R ⟨F, L, ρ, er, p⟩ => tI_bnd er p fun vs ds F1 H1 L1 ρ1 x1 er1 rx p1 => by
    obtain ⟨xs, hd, k⟩ := liftI er1 p1
    unfold rng1 at hd
    split at hd
    · cases rx with
      | cons r t =>
        cases t
        cases r
        split at hd
        · rename_i hj
          cases hd
          exact ⟨_, rfl, by omega, by omega, k _ _ _ (Gw.refl er1.fh) wlk_range⟩
        · cases hd
    · cases hd
theorem di_rng2 {fs : M (List D)} (hg : Gl X "range") (hm : X.mg "range" = none) (ha : DAs X W m [a, b] fs) (hs : starEach [a, b] X.env = [(false, eval a X.env), (false, eval b X.env)] := by rfl) (hs2 : starEach [b] X.env = [(false, eval b X.env)] := by rfl) :
    DI X W m tg (.Call (.Name "range" p) [a, b] [] pos) (iArgs rng2 fs) :=
  PI.imp (pi_range2 hg hm ha hs hs2) fun σ H R ⟨F, L, ρ, er, p⟩ => tI_bnd er p fun vs ds F1 H1 L1 ρ1 x1 er1 rx p1 => by
    obtain ⟨xs, hd, k⟩ := liftI er1 p1
    unfold rng2 at hd
    split at hd
    · cases rx with
      | cons r t =>
        cases t with
        | cons r2 t =>
          cases t
          cases r
          cases r2
          split at hd
          · rename_i hj
            cases hd
            exact ⟨_, _, rfl, ⟨by omega, by omega, by omega, by omega⟩, k _ _ _ (Gw.refl er1.fh) wlk_range⟩
          · cases hd
    · cases hd
end

/-! ### list comprehensions -/
/-- no error leaves a comprehension -/
def lcGo (T : D → EnvD → Option EnvD) (c : M Bool) (e : M D) (vs : List Nat) : List D → EnvD → Rs (List D)
  | [], ρ => .ok [] ρ
  | d :: ds, ρ => if lightAt vs 0 ρ then match T d (wipeD vs 0 ρ) with
    | none => .stuck
    | some ρ1 => match c ρ1 with
      | .ok true ρ2 => match e ρ2 with
        | .ok y ρ3 => if lightAt vs 0 ρ3 then match lcGo T c e vs ds (mixD vs 0 ρ ρ3) with
            | .ok ys ρ4 => .ok (y :: ys) ρ4
            | .err x ρ4 => .err x ρ4
            | .stuck => .stuck
          else .stuck
        | _ => .stuck
      | .ok false ρ2 => if lightAt vs 0 ρ2 then lcGo T c e vs ds (mixD vs 0 ρ ρ2) else .stuck
      | _ => .stuck
    else .stuck
def eLc (T : D → EnvD → Option EnvD) (src : M (List D)) (c : M Bool) (e : M D) (vs : List Nat) : M D := bnd src fun ds => if ds.length ≤ lim then bnd (lcGo T c e vs ds) fun ys => ret (.lst ys) else lift none
def cYes : M Bool := ret true
/-- nothing is wished of an error -/
abbrev W0 : WX := fun _ _ _ _ => False
abbrev DTs (X : Cx) (W : WX) (m : Bool) (ifs : List Expr) (f : M Bool) : Prop := PTs X ifs (tG REq X.K X.mg W m f)
theorem PTs.imp {X : Cx} {e : List Expr} {t t' : TT} (h : PTs X e t) (k : ∀ σ H Q, t' σ H Q → t σ H Q) : PTs X e t' := ⟨fun pins s σ H Q I q => h.run pins s σ H Q I (k σ H Q q)⟩
theorem dts_nil {X : Cx} {W : WX} {m : Bool} : DTs X W m [] cYes := PTs.imp pts_nil fun σ H Q ⟨F, L, ρ, er, p⟩ => ret_post er p _ _ _ (Gw.refl er.fh) rfl
theorem dts_one {X : Cx} {W : WX} {m : Bool} {c : Expr} {f : M Bool} (h : DT X W m c f) : DTs X W m [c] f := pts_one h
section
variable {K : PySem.W.Frag} {mg : Mg}
/-- into the block: the block's names forgotten -/
theorem ER.wiped {F H : Hp} {L : List Addr} {σ : L2.St} {ρ : EnvD} {vs : List Nat} (er : ER K mg F H L σ ρ) (h : lightAt vs 0 ρ = true) : ER K mg F H L (wipe σ vs) (wipeD vs 0 ρ) :=
  ⟨er.fh, (er.rs.wipe h).congr (wipe_length _ _) fun i s e n => by
    rw [wipeD_get, Nat.zero_add] at e
    refine wipe_get ?_
    cases q : vs.contains i with
    | false => rfl
    | true =>
      rw [q] at e
      cases e2 : ρ[i]? with
      | none => rw [e2] at e; cases e
      | some t =>
        rw [e2] at e
        simp only [Option.map_some, if_true, Option.some.injEq] at e
        exact absurd e.symm n, er.nd⟩
/-- back from the block -/
theorem ER.mixed {F H F' H' : Hp} {L L' : List Addr} {σ σ2 : L2.St} {ρ ρ3 : EnvD} {vs : List Nat} (er : ER K mg F H L σ ρ) (e : Same F F') (er3 : ER K mg F' H' L' σ2 ρ3) (hw : wipe σ2 vs = wipe σ vs) (h : lightAt vs 0 ρ = true) (h3 : lightAt vs 0 ρ3 = true) :
    ER K mg F' H' L' σ (mixD vs 0 ρ ρ3) := by
  have hl : σ2.length = σ.length := by
    have := congrArg List.length hw
    rw [wipe_length, wipe_length] at this
    exact this
  refine ⟨er3.fh, er.rs.fill e ((er3.rs.wipe h3).congr hl.symm fun i s es n => ?_) h, er3.nd⟩
  rw [wipeD_get, Nat.zero_add] at es
  cases q : vs.contains i with
  | false => rw [← wipe_get (σ := σ) q, ← wipe_get (σ := σ2) q, hw]
  | true =>
    rw [q] at es
    cases e2 : ρ3[i]? with
    | none => rw [e2] at es; cases es
    | some t =>
      rw [e2] at es
      simp only [Option.map_some, if_true, Option.some.injEq] at es
      exact absurd es.symm n
theorem wipeD_length (vs : List Nat) : ∀ (ρ : EnvD) (k : Nat), (wipeD vs k ρ).length = ρ.length
  | [], _ => rfl
  | _ :: ρ, k => by simp [wipeD, wipeD_length vs ρ (k + 1)]
theorem wipeD_same {vs : List Nat} : ∀ {ρ ρ' : EnvD} {k : Nat}, wipeD vs k ρ' = wipeD vs k ρ → mixD vs k ρ ρ' = ρ
  | [], [], _, _ => rfl
  | [], _ :: _, _, h => by simp [wipeD] at h
  | _ :: _, [], _, h => by simp [wipeD] at h
  | s :: ρ, t :: ρ', k, h => by
    simp only [wipeD, List.cons.injEq] at h
    simp only [mixD]
    rw [wipeD_same h.2]
    split
    · rfl
    · rename_i q
      rw [if_neg q, if_neg q] at h
      rw [h.1]
/-- what a turn of the block leaves lent -/
theorem pk_block {vs : List Nat} {ρ ρ3 : EnvD} (hl : ρ.length = ρ3.length) (h : lightAt vs 0 ρ = true) (p : Pk (wipeD vs 0 ρ) ρ3) : Pk ρ (mixD vs 0 ρ ρ3) := fun i d e => by
  rw [mixD_get vs ρ ρ3 0 i hl, Nat.zero_add]
  cases q : vs.contains i with
  | true =>
    have z := lightAt_get h e (by rw [Nat.zero_add]; exact q)
    simp [Slot.light] at z
  | false =>
    obtain ⟨d', e'⟩ := p i d (by rw [wipeD_get, Nat.zero_add, q, e]; rfl)
    exact ⟨d', by simpa using e'⟩
end
theorem blk_wipe {vs : List Nat} {σ σ' : L2.St} (h : Off vs (wipe σ vs) σ') : wipe σ' vs = wipe σ vs := by
  refine List.ext_getElem? fun i => ?_
  by_cases hi : i ∈ vs
  · have hlen : (wipe σ' vs).length = (wipe σ vs).length := by simp [wipe_length, h.1]
    have no : ∀ τ : L2.St, ∀ v, (wipe τ vs)[i]? ≠ some (some v) := fun τ v z => (wipe_some z).2 hi
    cases e1 : (wipe σ' vs)[i]? with
    | none =>
      have : (wipe σ vs)[i]? = none := List.getElem?_eq_none (by rw [← hlen]; exact List.getElem?_eq_none_iff.mp e1)
      rw [this]
    | some o =>
      cases o with
      | some v => exact absurd e1 (no _ v)
      | none =>
        cases e2 : (wipe σ vs)[i]? with
        | none =>
          have : (wipe σ' vs)[i]? = none := List.getElem?_eq_none (by rw [hlen]; exact List.getElem?_eq_none_iff.mp e2)
          rw [this] at e1; cases e1
        | some o2 =>
          cases o2 with
          | some v => exact absurd e2 (no _ v)
          | none => rfl
  · have hb : vs.contains i = false := by simpa using hi
    have w2 : (wipe σ vs)[i]? = σ[i]? := wipe_get hb
    rw [wipe_get hb, h.2 i hi]
end Wk
set_option Elab.async false
set_option linter.all false
set_option maxRecDepth 100000
namespace Wk
open PySem PySem.Spec PyProof.Rows L2

def prep (ys : List D) : Rs (List D) → Rs (List D)
  | .ok zs ρ => .ok (ys ++ zs) ρ
  | .err x ρ => .err x ρ
  | .stuck => .stuck
theorem prep_nil (r : Rs (List D)) : prep [] r = r := by cases r <;> rfl
theorem prep_snoc (ys : List D) (y : D) (r : Rs (List D)) : prep ys (match r with | .ok zs ρ => .ok (y :: zs) ρ | .err x ρ => .err x ρ | .stuck => .stuck) = prep (ys ++ [y]) r := by
  cases r <;> simp [prep]
section
variable {K : PySem.W.Frag} {mg : Mg}
/-- an object that is not known in F and not owned changes: what is borne stays -/
theorem ER.other {F H : Hp} {L : List Addr} {σ : L2.St} {ρ : EnvD} {a : Addr} {o : HO} (er : ER K mg F H L σ ρ) (hF : F a = none) (hL : a ∉ L) : ER K mg F (upd H a o) L σ ρ :=
  ⟨fun b u h => by rw [upd_ne (ne_of_none h hF)]; exact er.fh b u h, er.rs.frame (Same.refl _) (fun b hb u h => by rw [upd_ne (fun z => hL (by rw [← z]; exact hb))]; exact h) fun b hb => (er.rs.out b hb).1, er.nd⟩
/-- .. and is known from now on -/
theorem ER.known {F H : Hp} {L : List Addr} {σ : L2.St} {ρ : EnvD} {a : Addr} {o : HO} (er : ER K mg F H L σ ρ) (hF : F a = none) (hH : H a = some o) (hL : a ∉ L) : ER K mg (upd F a o) H L σ ρ := by
  have e : Same F (upd F a o) := fun b u h => by rw [upd_ne (ne_of_none h hF)]; exact h
  refine ⟨fun b u h => ?_, er.rs.frame e (fun _ _ _ h => h) fun b hb => ?_, er.nd⟩
  · by_cases hb : b = a
    · subst hb; rw [upd_same] at h; cases h; exact hH
    · rw [upd_ne hb] at h; exact er.fh b u h
  · rw [upd_ne (fun z => hL (by rw [← z]; exact hb))]; exact (er.rs.out b hb).1
theorem Exm.sub {m : Bool} {F H F1 H1 : Hp} {L L1 L2 : List Addr} {ρ ρ1 : EnvD} (x : Exm m F H L ρ F1 H1 L1 ρ1) (s : L2.Sublist L1) (h : m = true → L2 = L1) : Exm m F H L ρ F1 H1 L2 ρ1 :=
  ⟨⟨x.ex.ff, x.ex.keep, x.ex.fdom, fun a ha => x.ex.ldom a (s.subset ha)⟩, x.pk, fun hm => by
    obtain ⟨a, b, c⟩ := x.pure hm
    exact ⟨a, (h hm).trans b, c⟩⟩
theorem Ex.sub {F H F1 H1 : Hp} {L L1 L2 : List Addr} (x : Ex F H L F1 H1 L1) (s : L2.Sublist L1) : Ex F H L F1 H1 L2 := ⟨x.ff, x.keep, x.fdom, fun a ha => x.ldom a (s.subset ha)⟩
theorem Ex.atD {F H F1 H1 : Hp} {L L1 : List Addr} {a : Addr} {o : HO} (x : Ex F H L F1 H1 L1) (hn : H a = none) : Ex F H L F1 (upd H1 a o) L1 :=
  ⟨x.ff, fun b u h n => by rw [upd_ne (ne_of_none h hn)]; exact x.keep b u h n, x.fdom, x.ldom⟩
/-- where a list that the comprehension makes lies -/
structure LcI (K : PySem.W.Frag) (mg : Mg) (T : D → EnvD → Option EnvD) (c : M Bool) (e : M D) (vs : List Nat) (m : Bool) (σ : L2.St) (F1 H1 : Hp) (L1 : List Addr) (ρ1 : EnvD) (Da : Addr) (ds : List D) (i : Nat) (H Fi : Hp) (Li : List Addr) (ρi : EnvD) (acc : List V) (ys : List D) : Prop where
  er : ER K mg Fi H Li σ ρi
  ex : Exm m F1 H1 L1 ρ1 Fi H Li ρi
  hd : H Da = some (.lst acc)
  nl : Da ∉ Li
  nf : Fi Da = none
  ra : RpA K mg Fi acc ys
  le : ys.length ≤ i
  eq : lcGo T c e vs ds ρ1 = prep ys (lcGo T c e vs (ds.drop i) ρi)
theorem keepD {F H F1 H1 : Hp} {L L1 : List Addr} {a : Addr} {o : HO} (x : Ex F H L F1 H1 L1) (h : H a = some o) (nl : a ∉ L) (nf : F a = none) : H1 a = some o ∧ a ∉ L1 ∧ F1 a = none := by
  refine ⟨x.keep a o h nl, fun z => ?_, ?_⟩
  · rcases x.ldom a z with z | z
    · exact nl z
    · rw [h] at z; cases z
  · cases q : F1 a with
    | none => rfl
    | some u =>
      rcases x.fdom a u q with z | z | z
      · rw [nf] at z; cases z
      · exact absurd z nl
      · rw [h] at z; cases z
end
section
theorem lc_read {K : PySem.W.Frag} {mg : Mg} {W : WX} {m : Bool} {vs : List Nat} {T : D → EnvD → Option EnvD} {src : M (List D)} {c : M Bool} {e : M D} {σ : L2.St} {H : Hp} {Q : VK} (hT : TOk vs T) (z : tG (Rp K mg) K mg W m (eLc T src c e vs) σ H Q) :
    tLc (tI K mg W m src) (tgR K mg vs T) (tG REq K mg W0 m c) (tG (Rp K mg) K mg W0 m e) vs σ H Q := by
  obtain ⟨F, L, ρ, er, p⟩ := z
  refine ⟨F, L, ρ, er, ?_⟩
  unfold eLc bnd at p
  cases es : src ρ with
  | stuck => rw [es] at p; exact p
  | err x ρ' => rw [es] at p; exact p
  | ok ds ρ1 =>
    rw [es] at p
    intro J F1 H1 L1 x1 er1 wl
    have p1 := Post.mono p x1
    clear p
    simp only at p1
    split at p1
    rotate_left
    · exact p1.elim
    rename_i hlen
    intro Da hDa
    have hD1L : Da ∉ L1 := fun z => by
      obtain ⟨_, o, ho⟩ := er1.rs.out _ z
      rw [hDa] at ho; cases ho
    have hD1F : F1 Da = none := er1.fh.free hDa
    have nst : lcGo T c e vs ds ρ1 ≠ .stuck := fun z => by
      simp only [z] at p1
      exact p1
    have w : Walk J ds.length (fun H => Same F1 H) (fun i H x H' => ∀ F2, Same F1 F2 → Same F2 H → ∃ d F3, ds[i]? = some d ∧ Gw F2 H F3 H' ∧ Rp K mg F3 x d) :=
      ⟨fun i H hi q => wl.goes i F1 H hi (Same.refl _) q, fun H q => wl.stops F1 H (Same.refl _) q, fun i H x H' hi q y F2 e1 e2 => wl.yields i F2 H x H' hi e1 e2 y⟩
    refine lc_it w (fun i H => ∃ Fi Li ρi acc ys, LcI K mg T c e vs m σ F1 H1 L1 ρ1 Da ds i H Fi Li ρi acc ys) ?_ ?_ ?_ ?_
    · have g0 : Gw F1 H1 F1 (upd H1 Da (.lst [])) := ⟨Same.refl _, fun b u h => by rw [upd_ne (ne_of_none h hD1F)]; exact er1.fh b u h, fun b u h => by rw [upd_ne (ne_of_none h hDa)]; exact h, fun _ _ h => .inl h⟩
      exact ⟨F1, L1, ρ1, [], [], g0.er er1, g0.exm m L1 ρ1, upd_same, hD1L, hD1F, .nil, Nat.le_refl _, by rw [prep_nil, List.drop_zero]⟩
    · rintro i H _ ⟨Fi, Li, ρi, acc, ys, I⟩
      exact I.ex.ex.ff.trans I.er.fh
    · rintro i x Hi H' hi ⟨Fi, Li, ρi, acc, ys, I⟩ y
      obtain ⟨d, F3, hd, g3, rx⟩ := y Fi I.ex.ex.ff I.er.fh
      have er3 := g3.er I.er
      have hdrop : ds.drop i = d :: ds.drop (i + 1) := by
        obtain ⟨hlt, he⟩ := List.getElem?_eq_some_iff.mp hd
        rw [← he, List.getElem_cons_drop]
      have eq := I.eq
      rw [hdrop] at eq
      obtain ⟨hD3, nl3, nf3⟩ := keepD (g3.exm m Li ρi).ex I.hd I.nl I.nf
      -- the block's start
      by_cases hl : lightAt vs 0 ρi = true
      rotate_left
      · exact absurd (by rw [eq]; unfold lcGo; rw [if_neg hl]; rfl) nst
      cases eT : T d (wipeD vs 0 ρi) with
      | none => exact absurd (by rw [eq]; unfold lcGo; rw [if_pos hl, eT]; rfl) nst
      | some ρt =>
      refine ⟨F3, Li, wipeD vs 0 ρi, d, ρt, er3.wiped hl, rx, eT, fun σ2 L2 er2 lt2 off2 pn2 => ⟨blk_wipe off2, ?_⟩⟩
      have hwl : lightAt vs 0 (wipeD vs 0 ρi) = true := by
        have go : ∀ (ρ : EnvD) (k : Nat), lightAt vs k (wipeD vs k ρ) = true := fun ρ => by
          induction ρ with
          | nil => intro k; rfl
          | cons s ρ ih =>
            intro k
            simp only [wipeD, lightAt, ih (k + 1), Bool.and_true]
            split
            · simp [Slot.light]
            · rename_i q; simp only [Bool.not_eq_true] at q; rw [q]; rfl
        exact go _ _
      obtain ⟨eL2, _⟩ := lt2.2 hwl
      rw [eL2] at er2
      have hwt : wipeD vs 0 ρt = wipeD vs 0 (wipeD vs 0 ρi) := hT _ _ _ eT
      have hww : wipeD vs 0 (wipeD vs 0 ρi) = wipeD vs 0 ρi := by
        have go : ∀ (ρ : EnvD) (k : Nat), wipeD vs k (wipeD vs k ρ) = wipeD vs k ρ := fun ρ => by
          induction ρ with
          | nil => intro k; rfl
          | cons s ρ ih =>
            intro k
            simp only [wipeD, ih (k + 1)]
            split <;> rfl
        exact go _ _
      have lenT : ρt.length = ρi.length := by
        have a := congrArg List.length hwt
        rw [wipeD_length, wipeD_length, wipeD_length] at a
        exact a
      have pkt : Pk (wipeD vs 0 ρi) ρt := fun i d h => (pn2 i d h).2
      refine ⟨F3, Li, ρt, er2, ?_⟩
      -- behind the turn, from whatever the block did
      have back : ∀ {F5 H5 L5 ρ5}, Exm m F3 H' Li ρt F5 H5 L5 ρ5 → ER K mg F5 H5 L5 σ2 ρ5 → lightAt vs 0 ρ5 = true →
          ER K mg F5 H5 L5 σ (mixD vs 0 ρi ρ5) ∧ Exm m F1 H1 L1 ρ1 F5 H5 L5 (mixD vs 0 ρi ρ5) := by
        intro F5 H5 L5 ρ5 x5 er5 l5
        have len5 : ρi.length = ρ5.length := by
          rw [← er3.rs.length, ← er5.rs.length, off2.1, wipe_length]
        refine ⟨ER.mixed er3 x5.ex.ff er5 (blk_wipe off2) hl l5, (I.ex.ex.trans (g3.exm m Li ρi).ex).trans x5.ex, I.ex.pk.trans (pk_block len5 hl (pkt.trans x5.pk)), fun hm => ?_⟩
        obtain ⟨a1, a2, a3⟩ := I.ex.pure hm
        obtain ⟨b1, b2, b3⟩ := x5.pure hm
        refine ⟨?_, b2.trans a2, (a3.trans g3.hh).trans b3⟩
        rw [b1, wipeD_same (by rw [hwt, hww]), a1]
      cases ec : c ρt with
      | stuck => exact absurd (by rw [eq]; unfold lcGo; rw [if_pos hl, eT]; simp only [ec]; rfl) nst
      | err x ρ' => exact absurd (by rw [eq]; unfold lcGo; rw [if_pos hl, eT]; simp only [ec]; rfl) nst
      | ok b ρ4 =>
      intro b' F4 H4 L4 x4 er4 rb
      have rb : b' = b := rb
      subst rb
      obtain ⟨hD4, nl4, nf4⟩ := keepD x4.ex hD3 nl3 nf3
      cases b' with
      | false =>
        rw [if_neg Bool.false_ne_true]
        by_cases l4 : lightAt vs 0 ρ4 = true
        rotate_left
        · exact absurd (by rw [eq]; unfold lcGo; rw [if_pos hl, eT]; simp only [ec]; rw [if_neg l4]; rfl) nst
        obtain ⟨er', ex'⟩ := back x4 er4 l4
        refine ⟨F4, L4, _, acc, ys, er', ex', hD4, nl4, nf4, (I.ra.same g3.ff).same x4.ex.ff, Nat.le_succ_of_le I.le, ?_⟩
        rw [eq]
        conv => lhs; unfold lcGo
        rw [if_pos hl, eT]
        simp only [ec]
        rw [if_pos l4]
      | true =>
        rw [if_pos rfl]
        refine ⟨F4, L4, ρ4, er4, ?_⟩
        cases ee : e ρ4 with
        | stuck => exact absurd (by rw [eq]; unfold lcGo; rw [if_pos hl, eT]; simp only [ec, ee]; rfl) nst
        | err x ρ' => exact absurd (by rw [eq]; unfold lcGo; rw [if_pos hl, eT]; simp only [ec, ee]; rfl) nst
        | ok yd ρ5 =>
        intro v F5 H5 L5 x5 er5 rv
        by_cases l5 : lightAt vs 0 ρ5 = true
        rotate_left
        · exact absurd (by rw [eq]; unfold lcGo; rw [if_pos hl, eT]; simp only [ec, ee]; rw [if_neg l5]; rfl) nst
        obtain ⟨hD5, nl5, nf5⟩ := keepD x5.ex hD4 nl4 nf4
        obtain ⟨er', ex'⟩ := back (x4.trans x5) er5 l5
        refine ⟨acc, hD5, ?_, F5, L5, _, acc ++ [v], ys ++ [yd], er'.other nf5 nl5, ⟨ex'.ex.atD hDa, ex'.pk, fun hm => ?_⟩, upd_same, nl5, nf5, (((I.ra.same g3.ff).same x4.ex.ff).same x5.ex.ff).append (.cons rv .nil), ?_, ?_⟩
        · rw [I.ra.length, line_eq]
          have h1 := I.le
          have h2 : ds.length ≤ 16777216 := hlen
          omega
        · obtain ⟨a1, a2, a3⟩ := ex'.pure hm
          exact ⟨a1, a2, fun b u h => by rw [upd_ne (ne_of_none h hDa)]; exact a3 b u h⟩
        · rw [List.length_append]
          exact Nat.add_le_add_right I.le 1
        · rw [eq]
          conv => lhs; unfold lcGo
          rw [if_pos hl, eT]
          simp only [ec, ee]
          rw [if_pos l5]
          exact prep_snoc ys yd _
    · rintro Hn ⟨Fn, Ln, ρn, acc, ys, I⟩
      have eq := I.eq
      rw [List.drop_eq_nil_of_le (Nat.le_refl _)] at eq
      have eq : lcGo T c e vs ds ρ1 = .ok ys ρn := by rw [eq]; simp [lcGo, prep]
      simp only [eq] at p1
      have ff : Same Fn (upd Fn Da (.lst acc)) := fun b u h => by rw [upd_ne (ne_of_none h I.nf)]; exact h
      refine p1 (.ref Da) (upd Fn Da (.lst acc)) Hn Ln ⟨⟨I.ex.ex.ff.trans ff, I.ex.ex.keep, fun b u h => ?_, I.ex.ex.ldom⟩, I.ex.pk, I.ex.pure⟩ (I.er.known I.nf I.hd I.nl) (.lst upd_same (I.ra.same ff))
      by_cases hb : b = Da
      · subst hb; exact .inr (.inr hDa)
      · rw [upd_ne hb] at h; exact I.ex.ex.fdom b u h
end
section
variable {X : Cx} {W : WX} {m : Bool}
theorem d_lc {elt tg iter : Expr} {ifs : List Expr} {scope : Scope} {own : List (Str × Nat)} {pos : Pos} {vs : List Nat} {T : D → EnvD → Option EnvD} {src : M (List D)} {c : M Bool} {e : M D} (hc : X.calm = true) (hN : X.N.Nodup) (hi : DI X W m tg iter src)
    (ok : BlkOk X.N X.env.scope scope own) (hvs : own.map (·.2) = vs) (hT : TOk vs T)
    (hg : ∀ (s : Shared) (H : Hp) (C : Addr) (cl : List (Str × Addr)) (fp : List Addr), DG (X.blk s H scope (compEnvC scope cl C X.env) fp) vs tg T)
    (ht : ∀ (s : Shared) (H : Hp) (C : Addr) (cl : List (Str × Addr)) (fp : List Addr), DTs (X.blk s H scope (compEnvC scope cl C X.env) fp) W0 m ifs c)
    (he : ∀ (s : Shared) (H : Hp) (C : Addr) (cl : List (Str × Addr)) (fp : List Addr), DE (X.blk s H scope (compEnvC scope cl C X.env) fp) W0 m elt e)
    (hs : ∀ x, foldedSetIterable iter X.env x = pure x := by intro _; rfl) : DE X W m (.ListComp elt [⟨tg, iter, ifs, 0⟩] scope pos) (eLc T src c e vs) :=
  PE.imp (pe_lc (g := tgR X.K X.mg vs T) (tt := tG REq X.K X.mg W0 m c) (te := tG (Rp X.K X.mg) X.K X.mg W0 m e) hc hN hi ok hg ht he hs) fun σ H Q z => by
    rw [hvs]
    exact lc_read hT z
end
end Wk
set_option Elab.async false
set_option linter.all false
set_option maxRecDepth 100000
namespace Wk
open PySem PySem.Spec PyProof.Rows L2

/-! ### statements -/
inductive Fl where
  | nx | bk | ct | rt (d : D) | ro (xs : List D)
abbrev SM := EnvD → Rs Fl
structure Exs (F H : Hp) (L : List Addr) (σ : L2.St) (ρ : EnvD) (F' H' : Hp) (L' : List Addr) (σ' : L2.St) (ρ' : EnvD) : Prop where
  ex : Ex F H L F' H' L'
  pn : Pn σ ρ σ' ρ'
  ln : σ'.length = σ.length
theorem Exs.refl (F H : Hp) (L : List Addr) (σ : L2.St) (ρ : EnvD) : Exs F H L σ ρ F H L σ ρ := ⟨Ex.refl _ _ _, Pn.refl _ _, rfl⟩
theorem Exs.trans {F H F1 H1 F2 H2 : Hp} {L L1 L3 : List Addr} {σ σ1 σ2 : L2.St} {ρ ρ1 ρ2 : EnvD} (a : Exs F H L σ ρ F1 H1 L1 σ1 ρ1) (b : Exs F1 H1 L1 σ1 ρ1 F2 H2 L3 σ2 ρ2) : Exs F H L σ ρ F2 H2 L3 σ2 ρ2 := ⟨a.ex.trans b.ex, a.pn.trans b.pn, b.ln.trans a.ln⟩
theorem Exs.of {m : Bool} {F H F1 H1 : Hp} {L L1 : List Addr} {σ : L2.St} {ρ ρ1 : EnvD} (a : Exm m F H L ρ F1 H1 L1 ρ1) : Exs F H L σ ρ F1 H1 L1 σ ρ1 := ⟨a.ex, Pn.of_pk a.pk, rfl⟩
def EndS (K : PySem.W.Frag) (mg : Mg) (D : Ends) (fl : Fl) (F : Hp) (σ : L2.St) (H : Hp) : Prop := match fl with
  | .nx => D.nx σ H
  | .bk => D.bk σ H
  | .ct => D.ct σ H
  | .rt d => ∀ v, Rp K mg F v d → D.rt v H
  | .ro xs => ∀ p vs, RpA K mg F vs xs → H p = none → D.rt (.ref p) (upd H p (.lst vs))
def PostS (K : PySem.W.Frag) (mg : Mg) (W : WX) (F H : Hp) (L : List Addr) (σ : L2.St) (ρ : EnvD) (D : Fl → Hp → List Addr → L2.St → Hp → EnvD → Prop) : Rs Fl → Prop
  | .ok fl ρ' => ∀ F' H' L' σ', Exs F H L σ ρ F' H' L' σ' ρ' → ER K mg F' H' L' σ' ρ' → D fl F' L' σ' H' ρ'
  | .err x ρ' => ∀ c dx F' H' L' σ', Exs F H L σ ρ F' H' L' σ' ρ' → ER K mg F' H' L' σ' ρ' → XR K mg F' x c dx → W c dx σ' H'
  | .stuck => False
abbrev EndD (K : PySem.W.Frag) (mg : Mg) (D : Ends) : Fl → Hp → List Addr → L2.St → Hp → EnvD → Prop := fun fl F _ σ H _ => EndS K mg D fl F σ H
def tS (K : PySem.W.Frag) (mg : Mg) (W : WX) (s : SM) : TS := fun D σ H => ∃ F L ρ, ER K mg F H L σ ρ ∧ PostS K mg W F H L σ ρ (EndD K mg D) (s ρ)
/-- the statement computes s -/
abbrev DS (X : Cx) (W : WX) (st : Stmt) (s : SM) : Prop := PS X st (tS X.K X.mg W s)
abbrev DSs (X : Cx) (W : WX) (st : List Stmt) (s : SM) : Prop := PSs X st (tS X.K X.mg W s)
section
variable {K : PySem.W.Frag} {mg : Mg} {W : WX} {F H F1 H1 : Hp} {L L1 : List Addr} {σ σ1 : L2.St} {ρ ρ1 : EnvD}
theorem PostS.mono {D D' : Fl → Hp → List Addr → L2.St → Hp → EnvD → Prop} {r : Rs Fl} (p : PostS K mg W F H L σ ρ D r) (x : Exs F H L σ ρ F1 H1 L1 σ1 ρ1) (k : ∀ fl F L σ H ρ, D fl F L σ H ρ → D' fl F L σ H ρ) : PostS K mg W F1 H1 L1 σ1 ρ1 D' r := by
  cases r with
  | ok fl ρ' => exact fun F' H' L' σ' x' er => k _ _ _ _ _ _ (p F' H' L' σ' (x.trans x') er)
  | err e ρ' => exact fun c dx F' H' L' σ' x' er r => p c dx F' H' L' σ' (x.trans x') er r
  | stuck => exact p
end

def sNil : SM := fun ρ => .ok .nx ρ
def sSeq (s t : SM) : SM := fun ρ => match s ρ with
  | .ok .nx ρ' => t ρ'
  | r => r
def sDo {α : Type} (f : M α) (g : α → SM) : SM := fun ρ => match f ρ with
  | .ok a ρ' => g a ρ'
  | .err x ρ' => .err x ρ'
  | .stuck => .stuck
def sEnd (fl : Fl) : SM := fun ρ => .ok fl ρ
def sRet (f : M D) : SM := sDo f fun d => sEnd (.rt d)
def sRetN : SM := sEnd (.rt .non)
def sExpr (f : M D) : SM := sDo f fun _ => sEnd .nx
def sIf (c : M Bool) (s t : SM) : SM := sDo c fun b => if b then s else t
def sTg (T : D → EnvD → Option EnvD) (d : D) : SM := fun ρ => match T d ρ with
  | some ρ' => .ok .nx ρ'
  | none => .stuck
def sAsg (T : D → EnvD → Option EnvD) (f : M D) : SM := sDo f (sTg T)
def forGo (T : D → EnvD → Option EnvD) (body : SM) : List D → SM
  | [] => sNil
  | d :: ds => fun ρ => match T d ρ with
    | none => .stuck
    | some ρ1 => match body ρ1 with
      | .ok .nx ρ2 => forGo T body ds ρ2
      | .ok .ct ρ2 => forGo T body ds ρ2
      | .ok .bk ρ2 => .ok .nx ρ2
      | .ok (.rt d) ρ2 => .ok (.rt d) ρ2
      | .ok (.ro xs) ρ2 => .ok (.ro xs) ρ2
      | .err x ρ2 => .err x ρ2
      | .stuck => .stuck
def sFor (T : D → EnvD → Option EnvD) (src : M (List D)) (body : SM) : SM := sDo src (forGo T body)
/-- a word of ours alone: the own object in slot i stays as it is from now on -/
def frz (i : Nat) : SM := fun ρ => match ρ[i]? with
  | some (.own (.lst xs)) => .ok .nx (ρ.set i (.val (.lst xs)))
  | _ => .stuck

section
variable {X : Cx} {W : WX} {m : Bool} {st : Stmt} {sts : List Stmt} {s t : SM} {pos : Pos} {a b c : Expr} {f g h : M D}
theorem tS_do {α β : Type} {R : Hp → β → α → Prop} {f : M α} {g : α → SM} {D : Fl → Hp → List Addr → L2.St → Hp → EnvD → Prop} {Q1 : β → Hp → Prop} {K : PySem.W.Frag} {mg : Mg} {F H : Hp} {L : List Addr} {σ : L2.St} {ρ : EnvD} (er : ER K mg F H L σ ρ)
    (p : PostS K mg W F H L σ ρ D (sDo f g ρ)) (k : ∀ b a F1 H1 L1 ρ1, Exm m F H L ρ F1 H1 L1 ρ1 → ER K mg F1 H1 L1 σ ρ1 → R F1 b a → PostS K mg W F1 H1 L1 σ ρ1 D (g a ρ1) → Q1 b H1) : tG R K mg W m f σ H Q1 := by
  refine ⟨F, L, ρ, er, ?_⟩
  unfold sDo at p
  cases e : f ρ with
  | ok a ρ' => rw [e] at p; exact fun v F' H' L' x er' r => k v a F' H' L' ρ' x er' r (PostS.mono p (.of x) fun _ _ _ _ _ _ h => h)
  | err x ρ' => rw [e] at p; exact fun c dx F' H' L' x er' r => p c dx F' H' L' σ (.of x) er' r
  | stuck => rw [e] at p; exact p
theorem dss_nil : DSs X W [] sNil := PSs.imp pss_nil fun D σ H ⟨F, L, ρ, er, p⟩ => p F H L σ (Exs.refl _ _ _ _ _) er
theorem dss_cons (h1 : DS X W st s) (h2 : DSs X W sts t) : DSs X W (st :: sts) (sSeq s t) :=
  PSs.imp (pss_cons h1 h2) fun D σ H ⟨F, L, ρ, er, p⟩ => by
    refine ⟨F, L, ρ, er, ?_⟩
    unfold sSeq at p
    cases e : s ρ with
    | stuck => rw [e] at p; exact p
    | err x ρ' => rw [e] at p; exact p
    | ok fl ρ' =>
      rw [e] at p
      cases fl with
      | nx => exact fun F' H' L' σ' x er' => ⟨F', L', ρ', er', PostS.mono p x fun _ _ _ _ _ _ h => h⟩
      | _ => exact p
theorem dss_one (h1 : DS X W st s) : DSs X W [st] s := pss_one h1
theorem ds_expr (ha : DE X W m a f) (hs : swapsWith a none pos.line X.env = pure false := by rfl) : DS X W (.Expr a pos) (sExpr f) :=
  PS.imp (ps_expr ha hs) fun D σ H ⟨F, L, ρ, er, p⟩ => tS_do er p fun v d F1 H1 L1 ρ1 x1 er1 r p1 => p1 F1 H1 L1 σ (Exs.refl _ _ _ _ _) er1
theorem ds_doc {x j pos pos'} : DS X W (.Expr (.Constant (.str x) j pos) pos') sNil := PS.imp ps_doc fun D σ H ⟨F, L, ρ, er, p⟩ => p F H L σ (Exs.refl _ _ _ _ _) er
theorem ds_pass : DS X W (.Pass pos) sNil := PS.imp ps_pass fun D σ H ⟨F, L, ρ, er, p⟩ => p F H L σ (Exs.refl _ _ _ _ _) er
theorem ds_break : DS X W (.Break pos) (sEnd .bk) := PS.imp ps_break fun D σ H ⟨F, L, ρ, er, p⟩ => p F H L σ (Exs.refl _ _ _ _ _) er
theorem ds_ret (ha : DE X W m a f) : DS X W (.Return (some a) pos) (sRet f) :=
  PS.imp (ps_ret ha) fun D σ H ⟨F, L, ρ, er, p⟩ => tS_do er p fun v d F1 H1 L1 ρ1 x1 er1 r p1 => p1 F1 H1 L1 σ (Exs.refl _ _ _ _ _) er1 v r
theorem ds_if {k : M Bool} {xs ys : List Stmt} (hc : DT X W m c k) (ha : DSs X W xs s) (hb : DSs X W ys t) : DS X W (.If c xs ys pos) (sIf k s t) :=
  PS.imp (ps_if hc ha hb) fun D σ H ⟨F, L, ρ, er, p⟩ => tS_do er p fun v d F1 H1 L1 ρ1 x1 er1 r p1 => by
    have r : v = d := r
    subst r
    cases v with
    | true => rw [if_pos rfl] at p1 ⊢; exact ⟨F1, L1, ρ1, er1, p1⟩
    | false => rw [if_neg Bool.false_ne_true] at p1 ⊢; exact ⟨F1, L1, ρ1, er1, p1⟩
variable {T : D → EnvD → Option EnvD} {vs : List Nat}
theorem tg_post {K : PySem.W.Frag} {mg : Mg} {F H : Hp} {L : List Addr} {σ : L2.St} {ρ : EnvD} {v : V} {d : D} {E : Fl → Hp → List Addr → L2.St → Hp → EnvD → Prop} {Q : L2.St → Hp → Prop} (er : ER K mg F H L σ ρ) (r : Rp K mg F v d) (p : PostS K mg W F H L σ ρ E (sTg T d ρ))
    (k : ∀ σ' L' ρ', ER K mg F H L' σ' ρ' → E .nx F L' σ' H ρ' → Q σ' H) : tgR K mg vs T v σ H Q := by
  unfold sTg at p
  cases e : T d ρ with
  | none => rw [e] at p; exact p.elim
  | some ρ' =>
    rw [e] at p
    exact ⟨F, L, ρ, d, ρ', er, r, e, fun σ' L' er' lt off pn => k σ' L' ρ' er' (p F H L' σ' ⟨(Ex.refl F H L).sub lt.1, pn, off.1⟩ er')⟩
/-- a target of any form -/
theorem ds_asg {tg : Expr} (ha : DE X W m a f) (hg : DG X vs tg T) (hs : swapsWithSole [tg] a pos.line X.env = pure false := by rfl) (hw : swappedStores [tg] a X.env = pure none := by rfl) (h1 : (assignEach [tg] X.env).map (·.2) = [assign tg X.env] := by rfl) :
    DS X W (.Assign [tg] a pos) (sAsg T f) :=
  PS.imp (ps_asg ha hg hs hw h1) fun D σ H ⟨F, L, ρ, er, p⟩ => tS_do er p fun v d F1 H1 L1 ρ1 x1 er1 r p1 => tg_post er1 r p1 fun σ' L' ρ' _ q => q
/-- name = value -/
theorem ds_set {i : Nat} {x : Str} {p' : Pos} (hN : X.N.Nodup) (hi : X.N[i]? = some x) (hx : Loc X.env.scope x) (hf : X.fn x = true ∨ X.env.scope.names.lookup x = some .local) (ha : DE X W m a f) (hs : swapsWith a (some (.Name x p')) pos.line X.env = pure false := by rfl) :
    DS X W (.Assign [.Name x p'] a pos) (sAsg (tgName i) f) :=
  PS.imp (ps_set hN hi hx ha hs hf) fun D σ H ⟨F, L, ρ, er, p⟩ => tS_do er p fun v d F1 H1 L1 ρ1 x1 er1 r p1 => by
    unfold sTg at p1
    cases e : tgName i d ρ1 with
    | none => rw [e] at p1; exact p1.elim
    | some ρ' =>
      rw [e] at p1
      obtain ⟨L', a, b, c, e'⟩ := set_er (vs := [i]) (by simp) er1 r e
      exact p1 F1 H1 L' _ ⟨(Ex.refl F1 H1 L1).sub b.1, e', c.1⟩ a
/-- name = [..] -/
theorem ds_setLc {i : Nat} {y : Str} {py : Pos} {elt tg iter : Expr} {ifs : List Expr} {scope : Scope} {own : List (Str × Nat)} {pos spos : Pos} {src : M (List D)} {k : M Bool} {e : M D} (hc : X.calm = true) (hN : X.N.Nodup) (hy : X.N[i]? = some y) (hyl : X.env.scope.names.lookup y = some .local)
    (hsw : swapsWith (.ListComp elt [⟨tg, iter, ifs, 0⟩] scope pos) (some (.Name y py)) spos.line X.env = pure true) (hi : DI X W m tg iter src) (ok : BlkOk X.N X.env.scope scope own) (hvs : own.map (·.2) = vs) (hT : TOk vs T)
    (hg : ∀ (s : Shared) (H : Hp) (C : Addr) (cl : List (Str × Addr)) (fp : List Addr), DG (X.blk s H scope (compEnvC scope cl C X.env) fp) vs tg T)
    (ht : ∀ (s : Shared) (H : Hp) (C : Addr) (cl : List (Str × Addr)) (fp : List Addr), DTs (X.blk s H scope (compEnvC scope cl C X.env) fp) W0 m ifs k)
    (he : ∀ (s : Shared) (H : Hp) (C : Addr) (cl : List (Str × Addr)) (fp : List Addr), DE (X.blk s H scope (compEnvC scope cl C X.env) fp) W0 m elt e)
    (hs : ∀ x, foldedSetIterable iter X.env x = pure x := by intro _; rfl) : DS X W (.Assign [.Name y py] (.ListComp elt [⟨tg, iter, ifs, 0⟩] scope pos) spos) (sAsg (tgName i) (eLc T src k e vs)) := by
  refine PS.imp (ps_setLc (g := tgR X.K X.mg vs T) (tt := tG REq X.K X.mg W0 m k) (te := tG (Rp X.K X.mg) X.K X.mg W0 m e) hc hN hy hyl hsw hi ok hg ht he hs) fun D σ H ⟨F, L, ρ, er, p⟩ => ?_
  have z : tG (Rp X.K X.mg) X.K X.mg W m (eLc T src k e vs) σ H fun x H1 => gName i x σ H1 D.nx := tS_do er p fun v d F1 H1 L1 ρ1 x1 er1 r p1 => by
    unfold sTg at p1
    cases e : tgName i d ρ1 with
    | none => rw [e] at p1; exact p1.elim
    | some ρ' =>
      rw [e] at p1
      obtain ⟨L', a, b, c, e'⟩ := set_er (vs := [i]) (by simp) er1 r e
      exact p1 F1 H1 L' _ ⟨(Ex.refl F1 H1 L1).sub b.1, e', c.1⟩ a
  rw [hvs]
  exact lc_read hT z
end
end Wk
set_option Elab.async false
set_option linter.all false
set_option maxRecDepth 100000
namespace Wk
open PySem PySem.Spec PyProof.Rows L2

/-! ### for -/
theorem forGo_cons (T : D → EnvD → Option EnvD) (s : SM) (d : D) (ds : List D) (ρ : EnvD) : forGo T s (d :: ds) ρ = match T d ρ with
    | none => .stuck
    | some ρ1 => match s ρ1 with
      | .ok .nx ρ2 => forGo T s ds ρ2
      | .ok .ct ρ2 => forGo T s ds ρ2
      | .ok .bk ρ2 => .ok .nx ρ2
      | .ok (.rt d) ρ2 => .ok (.rt d) ρ2
      | .ok (.ro xs) ρ2 => .ok (.ro xs) ρ2
      | .err x ρ2 => .err x ρ2
      | .stuck => .stuck := rfl
section
variable {X : Cx} {W : WX} {m : Bool} {sts : List Stmt} {s t : SM} {pos : Pos} {a b c tg iter : Expr} {f g h : M D} {T : D → EnvD → Option EnvD} {vs : List Nat} {src : M (List D)}
theorem ds_for (hp : PassesOwn (model X.prog X.w) X.A X.env X.xe) (hc : X.calm = true) (hi : DI X W m tg iter src) (hg : DG X vs tg T) (hb : DSs X W sts s) (hs : ∀ x, foldedSetIterable iter X.env x = pure x := by intro _; rfl) :
    DS X W (.For tg iter sts [] pos) (sFor T src s) := by
  refine PS.imp (ps_for (wi := tI X.K X.mg W m src) (g := tgR X.K X.mg vs T) (tb := tS X.K X.mg W s) hp hc hi hg hb hs) fun D σ H ⟨F, L, ρ, er, p⟩ => ⟨F, L, ρ, er, ?_⟩
  unfold sFor sDo at p
  cases es : src ρ with
  | stuck => rw [es] at p; exact p
  | err x ρ' => rw [es] at p; exact fun c dx F' H' L' x' er' r => p c dx F' H' L' σ (.of x') er' r
  | ok ds ρ1 =>
    rw [es] at p
    intro J F1 H1 L1 x1 er1 wl
    have p1 : PostS X.K X.mg W F1 H1 L1 σ ρ1 (EndD X.K X.mg D) (forGo T s ds ρ1) := PostS.mono p (.of x1) fun _ _ _ _ _ _ h => h
    have w : Walk J ds.length (fun H => Same F1 H) (fun i H x H' => ∀ F2, Same F1 F2 → Same F2 H → ∃ d F3, ds[i]? = some d ∧ Gw F2 H F3 H' ∧ Rp X.K X.mg F3 x d) :=
      ⟨fun i H hi q => wl.goes i F1 H hi (Same.refl _) q, fun H q => wl.stops F1 H (Same.refl _) q, fun i H x H' hi q y F2 e1 e2 => wl.yields i F2 H x H' hi e1 e2 y⟩
    refine for_it w (fun i σ' H' => ∃ Fi Li ρi, ER X.K X.mg Fi H' Li σ' ρi ∧ Exs F1 H1 L1 σ ρ1 Fi H' Li σ' ρi ∧ forGo T s ds ρ1 = forGo T s (ds.drop i) ρi) ?_ ?_ ?_ ?_
    · exact ⟨F1, L1, ρ1, er1, Exs.refl _ _ _ _ _, rfl⟩
    · rintro i σ' H' _ ⟨Fi, Li, ρi, er, x, _⟩
      exact x.ex.ff.trans er.fh
    · rintro i x σ' Hi H' hi ⟨Fi, Li, ρi, er, xi, eq⟩ y
      obtain ⟨d, F3, hd, g3, rx⟩ := y Fi xi.ex.ff er.fh
      have er3 := g3.er er
      have hdrop : ds.drop i = d :: ds.drop (i + 1) := by
        obtain ⟨hlt, he⟩ := List.getElem?_eq_some_iff.mp hd
        rw [← he, List.getElem_cons_drop]
      rw [hdrop, forGo_cons] at eq
      have x3 : Exs F1 H1 L1 σ ρ1 F3 H' Li σ' ρi := xi.trans ⟨(g3.exm false Li ρi).ex, Pn.refl _ _, rfl⟩
      cases eT : T d ρi with
      | none =>
        simp only [eT] at eq
        rw [eq] at p1
        exact p1.elim
      | some ρt =>
      refine ⟨F3, Li, ρi, d, ρt, er3, rx, eT, fun σ2 L2 er2 lt2 off2 pn2 => ⟨F3, L2, ρt, er2, ?_⟩⟩
      have x4 : Exs F1 H1 L1 σ ρ1 F3 H' L2 σ2 ρt := ⟨x3.ex.sub lt2.1, x3.pn.trans pn2, off2.1.trans x3.ln⟩
      have eq' : forGo T s ds ρ1 = match s ρt with
        | .ok .nx ρ2 => forGo T s (ds.drop (i + 1)) ρ2
        | .ok .ct ρ2 => forGo T s (ds.drop (i + 1)) ρ2
        | .ok .bk ρ2 => .ok .nx ρ2
        | .ok (.rt d) ρ2 => .ok (.rt d) ρ2
        | .ok (.ro xs) ρ2 => .ok (.ro xs) ρ2
        | .err x ρ2 => .err x ρ2
        | .stuck => .stuck := by
        simp only [eT] at eq
        exact eq
      rw [eq'] at p1
      cases eb : s ρt with
      | stuck => rw [eb] at p1; exact p1
      | err x ρ2 =>
        rw [eb] at p1
        exact fun c dx F' H' L' σ' x' er' r => p1 c dx F' H' L' σ' (x4.trans x') er' r
      | ok fl ρ2 =>
        rw [eb] at p1 eq'
        intro F5 H5 L5 σ5 x5 er5
        cases fl with
        | nx => exact ⟨F5, L5, ρ2, er5, x4.trans x5, eq'⟩
        | ct => exact ⟨F5, L5, ρ2, er5, x4.trans x5, eq'⟩
        | bk => exact p1 F5 H5 L5 σ5 (x4.trans x5) er5
        | rt d => exact p1 F5 H5 L5 σ5 (x4.trans x5) er5
        | ro xs => exact p1 F5 H5 L5 σ5 (x4.trans x5) er5
    · rintro σ' H' ⟨Fn, Ln, ρn, er, x, eq⟩
      rw [List.drop_eq_nil_of_le (Nat.le_refl _)] at eq
      rw [eq] at p1
      exact p1 Fn H' Ln σ' x er

/-! ### a, b = x, y -/
def sPar (i j : Nat) (fs : M (List D)) : SM := sDo fs fun ds ρ => match ds with
  | [d, e] => (match tgName i d ρ with
    | some ρ1 => sTg (tgName j) e ρ1
    | none => .stuck)
  | _ => .stuck
theorem ds_par {i j : Nat} {x y : Str} {px py pt : Pos} {kt k2 pt2} {fs : M (List D)} (hc : X.calm = true) (hN : X.N.Nodup) (hi : X.N[i]? = some x) (hj : X.N[j]? = some y) (hij : i ≠ j)
    (hx : X.env.scope.names.lookup x = some .local) (hy : X.env.scope.names.lookup y = some .local) (ha : DAs X W m [a, b] fs)
    (hw : swappedStores [.Tuple [.Name x px, .Name y py] kt pt] (.Tuple [a, b] k2 pt2) X.env = pure (some [x, y]))
    (hs : swapsWithSole [.Tuple [.Name x px, .Name y py] kt pt] (.Tuple [a, b] k2 pt2) pos.line X.env = pure false := by rfl) :
    DS X W (.Assign [.Tuple [.Name x px, .Name y py] kt pt] (.Tuple [a, b] k2 pt2) pos) (sPar i j fs) :=
  PS.imp (ps_par hc hN hi hj hij hx hy ha hw hs) fun D σ H ⟨F, L, ρ, er, p⟩ => tS_do er p fun us ds F1 H1 L1 ρ1 x1 er1 r p1 => by
    split at p1
    · cases r with
      | cons r1 t =>
        cases t with
        | cons r2 t =>
          cases t
          split at p1
          · rename_i ρ2 e1
            unfold sTg at p1
            split at p1
            · rename_i ρ3 e2
              obtain ⟨La, a1, b1, c1, d1⟩ := set_er (vs := [i]) (by simp) er1 r1 e1
              obtain ⟨Lb, a2, b2, c2, d2⟩ := set_er (vs := [j]) (by simp) a1 r2 e2
              exact ⟨_, _, rfl, p1 F1 H1 Lb _ ⟨((Ex.refl F1 H1 L1).sub b1.1).sub b2.1, d1.trans d2, c2.1.trans c1.1⟩ a2⟩
            · exact p1.elim
          · exact p1.elim
    · exact p1.elim
end
end Wk
set_option Elab.async false
set_option linter.all false
set_option maxRecDepth 100000
namespace Wk
open PySem PySem.Spec PyProof.Rows L2

/-! ### one own object taken out of the frame -/
/-- own (false) or lent (true) -/
def Slot.mine : Bool → D → Slot
  | false, d => .own d
  | true, d => .pin d
section
variable {K : PySem.W.Frag} {mg : Mg} {F H : Hp}
theorem ERs.pick {b : Bool} {d : D} : ∀ {σ : L2.St} {ρ : EnvD} {L : List Addr} {i : Nat}, ERs K mg F H σ ρ L → ρ[i]? = some (Slot.mine b d) →
    ∃ v La L1 Lb, L = La ++ (L1 ++ Lb) ∧ σ[i]? = some (some v) ∧ Ow K mg F H v d L1 ∧
      (∀ F' H' d' L1', Same F F' → (∀ a ∈ La ++ Lb, ∀ o, H a = some o → H' a = some o) → (∀ a ∈ La ++ Lb, F' a = none) → Ow K mg F' H' v d' L1' → ERs K mg F' H' σ (ρ.set i (Slot.mine b d')) (La ++ (L1' ++ Lb))) ∧
      (∀ F' H' d', Same F F' → (∀ a ∈ La ++ Lb, ∀ o, H a = some o → H' a = some o) → (∀ a ∈ La ++ Lb, F' a = none) → Rp K mg F' v d' → ERs K mg F' H' σ (ρ.set i (Slot.val d')) (La ++ Lb))
  | _, _, _, _, .nil, h => by simp at h
  | _, _, _, 0, .no t, h => by cases b <;> simp [Slot.mine] at h
  | _, _, _, 0, .val _ t, h => by cases b <;> simp [Slot.mine] at h
  | _, _, _, 0, .own (v := v) (L1 := L1) (L := L) r t, h => by
    cases b <;> simp [Slot.mine] at h
    subst h
    exact ⟨v, [], L1, L, rfl, rfl, r, fun F' H' d' L1' e k z o => by rw [List.nil_append]; exact .own o (t.frame e k z), fun F' H' d' e k z o => .val o (t.frame e k z)⟩
  | _, _, _, 0, .pin (v := v) (L1 := L1) (L := L) r t, h => by
    cases b <;> simp [Slot.mine] at h
    subst h
    exact ⟨v, [], L1, L, rfl, rfl, r, fun F' H' d' L1' e k z o => by rw [List.nil_append]; exact .pin o (t.frame e k z), fun F' H' d' e k z o => .val o (t.frame e k z)⟩
  | _, _, _, i + 1, .no t, h => by
    obtain ⟨v, La, L1, Lb, e, hv, o, k1, k2⟩ := ERs.pick (i := i) t (by simpa using h)
    exact ⟨v, La, L1, Lb, e, by simpa using hv, o, fun F' H' d' L1' a b c o => .no (k1 F' H' d' L1' a b c o), fun F' H' d' a b c o => .no (k2 F' H' d' a b c o)⟩
  | _, _, _, i + 1, .val r t, h => by
    obtain ⟨v, La, L1, Lb, e, hv, o, k1, k2⟩ := ERs.pick (i := i) t (by simpa using h)
    exact ⟨v, La, L1, Lb, e, by simpa using hv, o, fun F' H' d' L1' a b c o => .val (r.same a) (k1 F' H' d' L1' a b c o), fun F' H' d' a b c o => .val (r.same a) (k2 F' H' d' a b c o)⟩
  | _, _, _, i + 1, .own (L1 := L0) r t, h => by
    obtain ⟨v, La, L1, Lb, e, hv, o, k1, k2⟩ := ERs.pick (i := i) t (by simpa using h)
    subst e
    refine ⟨v, L0 ++ La, L1, Lb, by rw [List.append_assoc], by simpa using hv, o, fun F' H' d' L1' a b c o => ?_, fun F' H' d' a b c o => ?_⟩
    · rw [List.append_assoc]
      exact .own (r.frame a (fun x hx => b x (by simp [hx])) fun x hx => c x (by simp [hx])) (k1 F' H' d' L1' a (fun x hx => b x (by simp at hx ⊢; rcases hx with hx | hx <;> simp [hx])) (fun x hx => c x (by simp at hx ⊢; rcases hx with hx | hx <;> simp [hx])) o)
    · rw [List.append_assoc]
      exact .own (r.frame a (fun x hx => b x (by simp [hx])) fun x hx => c x (by simp [hx])) (k2 F' H' d' a (fun x hx => b x (by simp at hx ⊢; rcases hx with hx | hx <;> simp [hx])) (fun x hx => c x (by simp at hx ⊢; rcases hx with hx | hx <;> simp [hx])) o)
  | _, _, _, i + 1, .pin (L1 := L0) r t, h => by
    obtain ⟨v, La, L1, Lb, e, hv, o, k1, k2⟩ := ERs.pick (i := i) t (by simpa using h)
    subst e
    refine ⟨v, L0 ++ La, L1, Lb, by rw [List.append_assoc], by simpa using hv, o, fun F' H' d' L1' a b c o => ?_, fun F' H' d' a b c o => ?_⟩
    · rw [List.append_assoc]
      exact .pin (r.frame a (fun x hx => b x (by simp [hx])) fun x hx => c x (by simp [hx])) (k1 F' H' d' L1' a (fun x hx => b x (by simp at hx ⊢; rcases hx with hx | hx <;> simp [hx])) (fun x hx => c x (by simp at hx ⊢; rcases hx with hx | hx <;> simp [hx])) o)
    · rw [List.append_assoc]
      exact .pin (r.frame a (fun x hx => b x (by simp [hx])) fun x hx => c x (by simp [hx])) (k2 F' H' d' a (fun x hx => b x (by simp at hx ⊢; rcases hx with hx | hx <;> simp [hx])) (fun x hx => c x (by simp at hx ⊢; rcases hx with hx | hx <;> simp [hx])) o)
theorem nodup_parts {La L1 Lb L1' : List Addr} (h : (La ++ (L1 ++ Lb)).Nodup) (h1 : L1'.Nodup) (d : ∀ a ∈ L1', a ∉ La ++ Lb) : (La ++ (L1' ++ Lb)).Nodup := by
  rw [List.nodup_append] at h
  obtain ⟨ha, h2, h3⟩ := h
  rw [List.nodup_append] at h2
  obtain ⟨hb, hc, h4⟩ := h2
  refine List.nodup_append.mpr ⟨ha, List.nodup_append.mpr ⟨h1, hc, fun x hx y hy e => ?_⟩, fun x hx y hy e => ?_⟩
  · subst e; exact d x hx (List.mem_append_right _ hy)
  · subst e
    rcases List.mem_append.mp hy with hy | hy
    · exact d x hy (List.mem_append_left _ hx)
    · exact h3 x hx x (List.mem_append_right _ hy) rfl
theorem apart_parts {La L1 Lb : List Addr} (h : (La ++ (L1 ++ Lb)).Nodup) {a : Addr} (ha : a ∈ La ++ Lb) : a ∉ L1 := fun hb => by
  rw [List.nodup_append] at h
  obtain ⟨_, h2, h3⟩ := h
  rw [List.nodup_append] at h2
  rcases List.mem_append.mp ha with ha | ha
  · exact h3 a ha a (List.mem_append_left _ hb) rfl
  · exact h2.2.2 a hb a ha rfl
end

/-! ### what a def promises -/
def PostC (K : PySem.W.Frag) (mg : Mg) (F H : Hp) (L : List Addr) (vs : List V) (Q : VK) (E : XK) : Rs D → Prop
  | .ok d ss' => ∀ v F' H' L', Ex F H L F' H' L' → ER K mg F' H' L' (vs.map some) ss' → Rp K mg F' v d → Q v H'
  | .err x ss' => ∀ c dx F' H' L', Ex F H L F' H' L' → ER K mg F' H' L' (vs.map some) ss' → XR K mg F' x c dx → E c dx H'
  | .stuck => False
def spD (K : PySem.W.Frag) (mg : Mg) (n : Nat) (sem : M D) : Sp := fun vs H Q E => vs.length = n ∧ ∃ F L ss, ER K mg F H L (vs.map some) ss ∧ PostC K mg F H L vs Q E (sem ss)
abbrev FnD (P : Program) (w : World) (K : PySem.W.Frag) (mg : Mg) (base : Heap) (k : Nat) (f : Addr) (fd : FuncData) (ps : List Str) (sem : M D) : Prop := FnOk P w K mg base (L2.CX P w) k f fd ps (spD K mg ps.length sem)
/-- what comes back of the things that were lent -/
def outs : EnvD → EnvD → EnvD
  | .pin _ :: ss, .pin d :: ρ => .pin d :: outs ss ρ
  | _ :: ss, _ :: ρ => .no :: outs ss ρ
  | _, _ => []
def runDef (n k : Nat) (body : SM) : M D := fun ss => match body (ss ++ List.replicate k .no) with
  | .ok (.rt d) ρ => .ok d (outs ss ρ)
  | .ok .nx ρ => .ok .non (outs ss ρ)
  | .err x ρ => .err x (outs ss ρ)
  | _ => .stuck
section
variable {K : PySem.W.Frag} {mg : Mg} {F H : Hp}
theorem ERs.more : ∀ {σ : L2.St} {ρ : EnvD} {L : List Addr} (k : Nat), ERs K mg F H σ ρ L → ERs K mg F H (σ ++ List.replicate k none) (ρ ++ List.replicate k .no) L
  | _, _, _, k, .nil => by
    rw [List.nil_append, List.nil_append]
    induction k with
    | zero => exact .nil
    | succ k ih => exact .no ih
  | _, _, _, k, .no t => .no (ERs.more k t)
  | _, _, _, k, .val r t => .val r (ERs.more k t)
  | _, _, _, k, .own r t => .own r (ERs.more k t)
  | _, _, _, k, .pin r t => .pin r (ERs.more k t)
theorem ERs.outs : ∀ {ss : EnvD} {vs : List V} {σ' : L2.St} {ρ' : EnvD} {L' : List Addr}, ERs K mg F H σ' ρ' L' → ss.length = vs.length → ss.length ≤ ρ'.length →
    (∀ (i : Nat) (d : D), ss[i]? = some (Slot.pin d) → σ'[i]? = (vs.map some)[i]? ∧ ∃ d' : D, ρ'[i]? = some (Slot.pin d')) → ∃ Lo, Lo.Sublist L' ∧ ERs K mg F H (vs.map some) (Wk.outs ss ρ') Lo
  | [], [], _, _, L', _, _, _, _ => ⟨[], List.nil_sublist _, by simp only [Wk.outs, List.map_nil]; exact .nil⟩
  | [], _ :: _, _, _, _, _, h, _, _ => by simp at h
  | _ :: _, [], _, _, _, _, h, _, _ => by simp at h
  | s :: ss, v :: vs, _, _, _, .nil, _, h, _ => by simp at h
  | s :: ss, v :: vs, _, _, _, .no (σ := σ) t, h1, h2, k => by
    obtain ⟨Lo, a, b⟩ := ERs.outs (ss := ss) (vs := vs) t (by simpa using h1) (by simpa using h2) (fun i d e => by simpa using k (i + 1) d (by simpa using e))
    cases s with
    | pin d =>
      obtain ⟨_, d', e⟩ := k 0 d rfl
      simp at e
    | _ => exact ⟨Lo, a, .no b⟩
  | s :: ss, v :: vs, _, _, _, .val _ t, h1, h2, k => by
    obtain ⟨Lo, a, b⟩ := ERs.outs (ss := ss) (vs := vs) t (by simpa using h1) (by simpa using h2) (fun i d e => by simpa using k (i + 1) d (by simpa using e))
    cases s with
    | pin d =>
      obtain ⟨_, d', e⟩ := k 0 d rfl
      simp at e
    | _ => exact ⟨Lo, a, .no b⟩
  | s :: ss, v :: vs, _, _, _, .own (L1 := L1) (L := L) _ t, h1, h2, k => by
    obtain ⟨Lo, a, b⟩ := ERs.outs (ss := ss) (vs := vs) t (by simpa using h1) (by simpa using h2) (fun i d e => by simpa using k (i + 1) d (by simpa using e))
    cases s with
    | pin d =>
      obtain ⟨_, d', e⟩ := k 0 d rfl
      simp at e
    | _ => exact ⟨Lo, a.trans (List.sublist_append_right _ _), .no b⟩
  | s :: ss, v :: vs, _, _, _, .pin (v := v') (L1 := L1) (L := L) r t, h1, h2, k => by
    obtain ⟨Lo, a, b⟩ := ERs.outs (ss := ss) (vs := vs) t (by simpa using h1) (by simpa using h2) (fun i d e => by simpa using k (i + 1) d (by simpa using e))
    cases s with
    | pin d =>
      obtain ⟨e, _⟩ := k 0 d rfl
      simp at e
      subst e
      exact ⟨L1 ++ Lo, a.append_left _, .pin r b⟩
    | _ => exact ⟨Lo, a.trans (List.sublist_append_right _ _), .no b⟩
end
section
variable {P : Program} {w : World} {K : PySem.W.Frag} {mg : Mg} {base : Heap}
/-- THE RULE for a def: its body computes s -/
theorem fn_D {x qual : Str} {pms : Arguments} {body : List Stmt} {scope : Scope} {dvs : List V} {kws : List (Str × V)} {f : Addr} {fd : FuncData} {N ps : List Str} {k j : Nat} {s : SM} (F : FunD K x qual pms body scope dvs kws f fd) (S : FnScope N ps scope) (hj : N.length = ps.length + j)
    (hb : ∀ (cdv : Value) (A : Around) (outer : List Env) (sh : Shared) (H : Hp) (E : XK), Room k (A.deeper (envOfC qual scope sh.heap.objs.size f cdv)) →
      DSs (cxOf (L2.CX P w) P w K mg base N qual scope f cdv A outer sh H E) (fun c d _ H' => E c d H') body s) : FnD P w K mg base (k + 1) f fd ps (runDef ps.length j s) := by
  refine F.ok S (fun vs H Q E h => h.1) fun cdv A outer sh H vs Q E hr h => ?_
  obtain ⟨hl, F0, L0, ss, er, p⟩ := h
  refine ⟨_, hb cdv A outer sh H E hr, F0, L0, ss ++ List.replicate j .no, ?_, ?_⟩
  · have e : L2.start N vs = vs.map some ++ List.replicate j none := by
      unfold L2.start
      rw [hl, hj, Nat.add_sub_cancel_left]
    rw [e]
    exact ⟨er.fh, er.rs.more j, er.nd⟩
  · have ssl : ss.length = vs.length := by
      have := er.rs.length
      simpa using this.symm
    have e : L2.start N vs = vs.map some ++ List.replicate j none := by
      unfold L2.start
      rw [hl, hj, Nat.add_sub_cancel_left]
    have pinAt : ∀ (i : Nat) (d : D), ss[i]? = some (Slot.pin d) → (ss ++ List.replicate j Slot.no)[i]? = some (Slot.pin d) ∧ (L2.start N vs)[i]? = (vs.map some)[i]? := fun i d hi => by
      have hlt := (List.getElem?_eq_some_iff.mp hi).1
      refine ⟨by rw [List.getElem?_append_left hlt]; exact hi, ?_⟩
      rw [e, List.getElem?_append_left (by simpa [← ssl] using hlt)]
    have fin : ∀ {F' H' L' σ' ρ'}, Exs F0 H L0 (L2.start N vs) (ss ++ List.replicate j Slot.no) F' H' L' σ' ρ' → ER K mg F' H' L' σ' ρ' → ∃ Lo, Lo.Sublist L' ∧ ER K mg F' H' Lo (vs.map some) (outs ss ρ') := by
      intro F' H' L' σ' ρ' x er'
      have hle : ss.length ≤ ρ'.length := by
        rw [← er'.rs.length, x.ln, e, List.length_append, List.length_map, ssl]
        omega
      obtain ⟨Lo, a, b⟩ := er'.rs.outs ssl hle fun i d hi => by
        obtain ⟨h1, h2⟩ := pinAt i d hi
        obtain ⟨h3, h4⟩ := x.pn i d h1
        exact ⟨h3.trans h2, h4⟩
      exact ⟨Lo, a, er'.fh, b, er'.nd.sublist a⟩
    unfold runDef at p
    cases es : s (ss ++ List.replicate j Slot.no) with
    | stuck => rw [es] at p; exact p
    | err y ρ' =>
      rw [es] at p
      intro c dx F' H' L' σ' x er' xr
      obtain ⟨Lo, a, b⟩ := fin x er'
      exact p c dx F' H' Lo (x.ex.sub a) b xr
    | ok fl ρ' =>
      rw [es] at p
      intro F' H' L' σ' x er'
      obtain ⟨Lo, a, b⟩ := fin x er'
      cases fl with
      | nx => exact p .non F' H' Lo (x.ex.sub a) b .non
      | rt d => exact fun v r => p v F' H' Lo (x.ex.sub a) b r
      | bk => exact p.elim
      | ct => exact p.elim
      | ro _ => exact p.elim
end
end Wk
set_option Elab.async false
set_option linter.all false
set_option maxRecDepth 100000
namespace Wk
open PySem PySem.Spec PyProof.Rows L2

/-! ### calls of defs -/
def callV (n : Nat) (sem : M D) (ds : List D) : M D := fun ρ => if ds.length = n then match sem (ds.map .val) with
  | .ok d _ => .ok d ρ
  | .err x _ => .err x ρ
  | .stuck => .stuck else .stuck
def eCall (n : Nat) (sem : M D) (fs : M (List D)) : M D := bnd fs (callV n sem)
/-- the first argument is lent -/
def callO (n : Nat) (sem : M D) (i : Nat) (ds : List D) : M D := fun ρ => if ds.length + 1 = n then match ρ[i]? with
  | some (.own d) => (match sem (.pin d :: ds.map .val) with
    | .ok r (.pin d' :: _) => .ok r (ρ.set i (.own d'))
    | .err x (.pin d' :: _) => .err x (ρ.set i (.own d'))
    | _ => .stuck)
  | some (.pin d) => (match sem (.pin d :: ds.map .val) with
    | .ok r (.pin d' :: _) => .ok r (ρ.set i (.pin d'))
    | .err x (.pin d' :: _) => .err x (ρ.set i (.pin d'))
    | _ => .stuck)
  | _ => .stuck else .stuck
def isMine : Option Slot → Bool
  | some (.own _) => true
  | some (.pin _) => true
  | _ => false
def eCallO (n : Nat) (sem : M D) (i : Nat) (fs : M (List D)) : M D := fun ρ => if isMine ρ[i]? then bnd fs (callO n sem i) ρ else .stuck
/-- of the arguments but the first none is lent -/
structure Tidy (sem : M D) : Prop where
  ok : ∀ d ds r ss', sem (.pin d :: List.map .val ds) = .ok r ss' → ∀ s ∈ ss'.drop 1, s.light = true
  err : ∀ d ds r ss', sem (.pin d :: List.map .val ds) = .err r ss' → ∀ s ∈ ss'.drop 1, s.light = true
theorem outs_light : ∀ (ds : List D) (ρ : EnvD), ∀ s ∈ outs (List.map .val ds) ρ, s.light = true
  | [], ρ, s, h => by simp [outs] at h
  | d :: ds, [], s, h => by simp [outs] at h
  | d :: ds, t :: ρ, s, h => by
    have e : outs (List.map .val (d :: ds)) (t :: ρ) = .no :: outs (List.map .val ds) ρ := by cases t <;> rfl
    rw [e] at h
    rcases List.mem_cons.mp h with h | h
    · subst h; rfl
    · exact outs_light ds ρ s h
theorem outs_tail (d : D) (ds : List D) : ∀ (ρ : EnvD), ∀ s ∈ (outs (.pin d :: List.map .val ds) ρ).drop 1, s.light = true
  | [], s, h => by simp [outs] at h
  | t :: ρ, s, h => by
    cases t <;> exact outs_light ds ρ s (by simpa [outs] using h)
theorem tidy_runDef (n k : Nat) (body : SM) : Tidy (runDef n k body) where
  ok := fun d ds r ss' h => by
    unfold runDef at h
    split at h <;> cases h <;> exact outs_tail d ds _
  err := fun d ds r ss' h => by
    unfold runDef at h
    split at h <;> cases h <;> exact outs_tail d ds _
section
variable {K : PySem.W.Frag} {mg : Mg} {F H : Hp}
theorem ers_vals : ∀ {vs : List V} {ds : List D}, RpA K mg F vs ds → ERs K mg F H (vs.map some) (ds.map .val) []
  | _, _, .nil => .nil
  | _, _, .cons r t => .val r (ers_vals t)
theorem Ex.gw {F' H' : Hp} {L' : List Addr} (x : Ex F H [] F' H' L') (fh : Same F' H') : Gw F H F' H' :=
  ⟨x.ff, fh, fun a o h => x.keep a o h (by simp), fun a o h => by
    rcases x.fdom a o h with h | h | h
    · exact .inl h
    · simp at h
    · exact .inr h⟩
theorem XR.same {F F' : Hp} {x : Exn} {c : Value} {dx : Option Addr} (e : Same F F') (h : XR K mg F x c dx) : XR K mg F' x c dx := by
  refine ⟨h.1, ?_⟩
  rcases h.2 with h | ⟨d, fvs, h1, h2, h3⟩
  · exact .inl h
  · refine .inr ⟨d, fvs, h1, e _ _ h2, ?_⟩
    have go : ∀ {fvs fs}, RpF K mg F fvs fs → RpF K mg F' fvs fs := fun r => by
      induction r with
      | nil => exact .nil
      | cons h _ ih => exact .cons (h.same e) ih
    exact go h3
end
section
variable {X : Cx} {W : WX} {m : Bool} {k j : Nat} {f : Addr} {fd : FuncData} {ps : List Str} {sem : M D} {x y : Str} {p p2 pos : Pos} {a : Expr} {es : List Expr} {fs : M (List D)} {st : Stmt}
theorem d_call (G : FnD X.prog X.w X.K X.mg X.base k f fd ps sem) (tk : Takes X W) (hr : Room j X.A) (hk : k ≤ j) (hg : Gl X x) (hm : X.mg x = some (.ref f)) (kp : PySem.W.keepIn X.K (.ref f) = true) (hb : Binds X.K fd ps [])
    (ha : DAs X W m (a :: es) fs) (hdb : (x == ("__debug__" : Str)) = false := by decide) (he : starEach (a :: es) X.env = (false, eval a X.env) :: starEach es X.env := by rfl) (hpl : (backTo pos (starEach es X.env)).any (·.1) = false := by rfl) :
    DE X W m (.Call (.Name x p) (a :: es) [] pos) (eCall ps.length sem fs) :=
  PE.imp (pe_callS G (hr.mono hk) hg hm kp hb (fun σ => passAt tk σ) ha hdb he hpl) fun σ H Q ⟨F, L, ρ, er, q⟩ => tG_bnd er q fun vs ds F1 H1 L1 ρ1 x1 er1 r q1 => by
    unfold callV at q1
    split at q1
    · rename_i hl
      refine ⟨by rw [r.length]; exact hl, F1, [], ds.map .val, ⟨er1.fh, ers_vals r, List.nodup_nil⟩, ?_⟩
      cases e : sem (ds.map .val) with
      | stuck => rw [e] at q1; exact q1
      | ok d ss' =>
        rw [e] at q1
        intro v F' H' L' x' er' rv
        have g := x'.gw er'.fh
        exact q1 v F' H' L1 (g.exm m L1 ρ1) (g.er er1) rv
      | err z ss' =>
        rw [e] at q1
        intro c dx F' H' L' x' er' xr
        have g := x'.gw er'.fh
        exact q1 c dx F' H' L1 (g.exm false L1 ρ1) (g.er er1) xr
    · exact q1.elim
/-- behind a call that was lent an object -/
theorem lent_back {K : PySem.W.Frag} {mg : Mg} {F H F' H' : Hp} {L L' La L1 Lb : List Addr} {σ : L2.St} {ρ : EnvD} {b : Bool} {i : Nat} {v : V} {vs : List V} {d' : D} {ss : EnvD} (er : ER K mg F H L σ ρ) (eL : L = La ++ (L1 ++ Lb))
    (back : ∀ F' H' d' L1', Same F F' → (∀ a ∈ La ++ Lb, ∀ o, H a = some o → H' a = some o) → (∀ a ∈ La ++ Lb, F' a = none) → Ow K mg F' H' v d' L1' → ERs K mg F' H' σ (ρ.set i (Slot.mine b d')) (La ++ (L1' ++ Lb)))
    (hi : ∃ d, ρ[i]? = some (Slot.mine b d)) (x : Ex F H L1 F' H' L') (er' : ER K mg F' H' L' (some v :: vs.map some) (.pin d' :: ss)) (hno : ∀ s ∈ ss, s.light = true) :
    ∃ L2', Exm false F H L ρ F' H' L2' (ρ.set i (Slot.mine b d')) ∧ ER K mg F' H' L2' σ (ρ.set i (Slot.mine b d')) := by
  have nolent : ∀ {σ : L2.St} {ρ : EnvD} {L : List Addr}, ERs K mg F' H' σ ρ L → (∀ s ∈ ρ, s.light = true) → L = [] := by
    intro σ ρ L t
    induction t with
    | nil => intro _; rfl
    | no t ih => intro h; exact ih fun s hs => h s (List.mem_cons_of_mem _ hs)
    | val _ t ih => intro h; exact ih fun s hs => h s (List.mem_cons_of_mem _ hs)
    | own _ t ih => intro h; exact absurd (h _ List.mem_cons_self) (by simp [Slot.light])
    | pin _ t ih => intro h; exact absurd (h _ List.mem_cons_self) (by simp [Slot.light])
  have hrs := er'.rs
  have hnd := er'.nd
  cases hrs with
  | pin o t =>
    rename_i L1' L0
    have e0 := nolent t hno
    subst e0
    rw [List.append_nil] at x hnd
    subst eL
    have apart : ∀ a ∈ La ++ Lb, a ∉ L1 ∧ F a = none ∧ ∃ u, H a = some u := fun a ha => by
      obtain ⟨h1, h2⟩ := er.rs.out a (by simp at ha ⊢; rcases ha with ha | ha <;> simp [ha])
      exact ⟨apart_parts er.nd ha, h1, h2⟩
    have frm : ∀ a ∈ La ++ Lb, ∀ o, H a = some o → H' a = some o := fun a ha o h => x.keep a o h (apart a ha).1
    have nof : ∀ a ∈ La ++ Lb, F' a = none := fun a ha => by
      obtain ⟨h1, h2, u, h3⟩ := apart a ha
      cases q : F' a with
      | none => rfl
      | some o =>
        rcases x.fdom a o q with z | z | z
        · rw [h2] at z; cases z
        · exact absurd z h1
        · rw [h3] at z; cases z
    have sub1 : ∀ a ∈ L1, a ∈ La ++ (L1 ++ Lb) := fun a ha => by simp [ha]
    refine ⟨La ++ (L1' ++ Lb), ⟨⟨x.ff, fun a o h n => x.keep a o h fun z => n (sub1 a z), fun a o h => ?_, fun a ha => ?_⟩, fun i2 d2 e2 => ?_, fun z => by cases z⟩, er'.fh, back F' H' d' L1' x.ff frm nof o, nodup_parts er.nd hnd fun a ha hb => ?_⟩
    · rcases x.fdom a o h with z | z | z
      · exact .inl z
      · exact .inr (.inl (sub1 a z))
      · exact .inr (.inr z)
    · simp only [List.mem_append] at ha
      rcases ha with ha | ha | ha
      · exact .inl (by simp [ha])
      · rcases x.ldom a ha with z | z
        · exact .inl (sub1 a z)
        · exact .inr z
      · exact .inl (by simp [ha])
    · obtain ⟨d0, hd0⟩ := hi
      by_cases h12 : i = i2
      · subst h12
        rw [hd0] at e2
        have hlt := (List.getElem?_eq_some_iff.mp hd0).1
        rw [List.getElem?_set_self hlt]
        cases b with
        | false => simp [Slot.mine] at e2
        | true => exact ⟨d', rfl⟩
      · rw [List.getElem?_set_ne h12]
        exact ⟨d2, e2⟩
    · obtain ⟨h1, h2, u, h3⟩ := apart a hb
      rcases x.ldom a ha with z | z
      · exact h1 z
      · rw [h3] at z; cases z
theorem d_callO {i : Nat} (G : FnD X.prog X.w X.K X.mg X.base k f fd ps sem) (tk : Takes X W) (hr : Room j X.A) (hk : k ≤ j) (hg : Gl X x) (hm : X.mg x = some (.ref f)) (kp : PySem.W.keepIn X.K (.ref f) = true) (hb : Binds X.K fd ps [])
    (hN : X.N[i]? = some y) (hv : Vis X.env.scope y) (ha : DAs X W false es fs) (ht : Tidy sem)
    (hdb : (x == ("__debug__" : Str)) = false := by decide) (hdy : (y == ("__debug__" : Str)) = false := by decide) (hcy : (y == ("__classdict__" : Str)) = false := by decide)
    (he : starEach (.Name y p2 :: es) X.env = (false, eval (.Name y p2) X.env) :: starEach es X.env := by rfl) (hpl : (backTo pos (starEach es X.env)).any (·.1) = false := by rfl) :
    DE X W false (.Call (.Name x p) (.Name y p2 :: es) [] pos) (eCallO ps.length sem i fs) :=
  PE.imp (pe_callS G (hr.mono hk) hg hm kp hb (fun σ => passAt tk σ) (pa_cons (pe_var hN hv hdy hcy) ha he) hdb he hpl) fun σ H Q ⟨F, L, ρ, er, q⟩ => by
    have q0 := q
    unfold eCallO at q
    split at q
    rotate_left
    · exact q.elim
    rename_i hmine
    -- the object's address
    have go : ∀ (b : Bool) (v : V) (d : D), σ[i]? = some (some v) → tCallS (spD X.K X.mg ps.length sem) (WE W) (tCons (tVar i) (tG (RpA X.K X.mg) X.K X.mg W false fs)) σ H Q := fun b v d hv => ⟨v, hv, tG_bnd er q fun vs ds F1 H1 L1 ρ1 x1 er1 r q1 => by
      unfold callO at q1
      split at q1
      · rename_i hl
        have run : ∀ (b : Bool) (d : D), ρ1[i]? = some (Slot.mine b d) → Post (Rp X.K X.mg) X.K X.mg W false F1 H1 L1 σ ρ1 Q (match sem (.pin d :: ds.map .val) with
            | .ok r (.pin d' :: _) => .ok r (ρ1.set i (Slot.mine b d'))
            | .err x (.pin d' :: _) => .err x (ρ1.set i (Slot.mine b d'))
            | _ => .stuck) → spD X.K X.mg ps.length sem (v :: vs) H1 Q (WE W σ) := fun b d hi q2 => by
          obtain ⟨v', La, La1, Lb, eL, hv', o, back, _⟩ := er1.rs.pick hi
          rw [hv] at hv'
          cases hv'
          have nd1 : La1.Nodup := by
            have z := er1.nd
            rw [eL] at z
            exact (List.nodup_append.mp (List.nodup_append.mp z).2.1).1
          refine ⟨by simp [r.length, hl], F1, La1, .pin d :: ds.map .val, ⟨er1.fh, by rw [List.map_cons, ← List.append_nil La1]; exact .pin o (ers_vals r), nd1⟩, ?_⟩
          cases e : sem (.pin d :: ds.map .val) with
          | stuck => rw [e] at q2; exact q2
          | ok rd ss' =>
            rw [e] at q2
            intro rv F' H' L' x' er' rr
            cases ss' with
            | nil => exact q2.elim
            | cons s0 ss0 =>
              cases s0 with
              | pin d' =>
                obtain ⟨L2', ex2, er2⟩ := lent_back er1 eL back ⟨d, hi⟩ x' er' (ht.ok _ _ _ _ e)
                exact q2 rv F' H' L2' ex2 er2 rr
              | _ => exact q2.elim
          | err z ss' =>
            rw [e] at q2
            intro c dx F' H' L' x' er' xr
            cases ss' with
            | nil => exact q2.elim
            | cons s0 ss0 =>
              cases s0 with
              | pin d' =>
                obtain ⟨L2', ex2, er2⟩ := lent_back er1 eL back ⟨d, hi⟩ x' er' (ht.err _ _ _ _ e)
                exact q2 c dx F' H' L2' ex2 er2 xr
              | _ => exact q2.elim
        split at q1
        · rename_i d0 hi
          exact run false d0 hi q1
        · rename_i d0 hi
          exact run true d0 hi q1
        · exact q1.elim
      · exact q1.elim⟩
    cases es : ρ[i]? with
    | none => rw [es] at hmine; cases hmine
    | some s =>
      cases s with
      | own d =>
        obtain ⟨v, _, _, _, _, hv, _⟩ := er.rs.pick (b := false) es
        exact go false v d hv
      | pin d =>
        obtain ⟨v, _, _, _, _, hv, _⟩ := er.rs.pick (b := true) es
        exact go true v d hv
      | _ => rw [es] at hmine; cases hmine
end
end Wk
set_option Elab.async false
set_option linter.all false
set_option maxRecDepth 100000
namespace Wk
open PySem PySem.Spec PyProof.Rows L2

/-! ### errors -/
/-- an own error class without own __init__ -/
structure ExcF (K : PySem.W.Frag) (mg : Mg) (x : Str) (C : Addr) : Prop where
  g : mg x = some (.ref C)
  ex : PySem.W.excIn K C [.type "ValueError", .type "Exception", .type "BaseException", .type "object"] "ValueError.__new__" = true
  kp : PySem.W.keepIn K (.ref C) = true
  sb : PySem.W.subIn K (.ref C) (.type "BaseException") = some true
  ty : PySem.W.typeIn K (.ref C) = some (.type "type")
def sRaise (x : Str) : SM := fun ρ => .err ⟨x, []⟩ ρ
section
variable {X : Cx} {W : WX} {m : Bool} {pos p p2 pos' : Pos} {a b c : Expr} {f g h : M D}
theorem ds_raise {x t : Str} {C : Addr} {j : Nat} (hc : X.calm = true) (tk : Takes X W) (E : ExcF X.K X.mg x C) (hg : Gl X x) (hdb : (x == ("__debug__" : Str)) = false := by decide) :
    DS X W (.Raise (some (.Call (.Name x p) [.Constant (.str t) j p2] [] pos)) none pos') (sRaise x) :=
  PS.imp (ps_raise hc tk (pmk_own PySem.F.excBase_ValueError E.ex E.g E.kp (raises_own E.sb E.ty) hg hdb)) fun D σ H ⟨F, L, ρ, er, q⟩ =>
    q (.ref C) none F H L σ (Exs.refl _ _ _ _ _) er ⟨⟨C, rfl, E.g⟩, .inl ⟨rfl, rfl⟩⟩

/-! ### own lists -/
def flat : D → Bool
  | .non => true
  | .bl _ => true
  | .int _ => true
  | .str _ => true
  | _ => false
theorem Rp.flat {K : PySem.W.Frag} {mg : Mg} {F F' : Hp} {v : V} {d : D} (r : Rp K mg F v d) (h : flat d = true) : Rp K mg F' v d := by
  cases r with
  | non => exact .non
  | bl => exact .bl
  | int => exact .int
  | str hs => exact .str hs
  | _ => simp [Wk.flat] at h
/-- what an own list is, and what it is where it is known -/
theorem Ow.asLst {K : PySem.W.Frag} {mg : Mg} {F H : Hp} {v : V} {xs : List D} {L : List Addr} (o : Ow K mg F H v (.lst xs) L) : ∃ a vs, v = .ref a ∧ L = [a] ∧ H a = some (.lst vs) ∧ F a = none ∧ RpA K mg F vs xs := by
  cases o with
  | lst h n r => exact ⟨_, _, rfl, rfl, h, n, r⟩
/-- read for a while: the result is flat -/
def eBor (i : Nat) (f : M D) : M D := fun ρ => match ρ[i]? with
  | some (.own (.lst xs)) => (match f (ρ.set i (.val (.lst xs))) with
    | .ok r _ => if flat r then .ok r ρ else .stuck
    | _ => .stuck)
  | some (.pin (.lst xs)) => (match f (ρ.set i (.val (.lst xs))) with
    | .ok r _ => if flat r then .ok r ρ else .stuck
    | _ => .stuck)
  | _ => .stuck
theorem lst_known {K : PySem.W.Frag} {mg : Mg} {F H : Hp} {L : List Addr} {σ : L2.St} {ρ : EnvD} {b : Bool} {i : Nat} {xs : List D} (er : ER K mg F H L σ ρ) (hi : ρ[i]? = some (Slot.mine b (.lst xs))) :
    ∃ a vs L1, σ[i]? = some (some (.ref a)) ∧ H a = some (.lst vs) ∧ F a = none ∧ RpA K mg F vs xs ∧ a ∈ L ∧ a ∉ L1 ∧ L1.Sublist L ∧ Same F (upd F a (.lst vs)) ∧ ER K mg (upd F a (.lst vs)) H L1 σ (ρ.set i (.val (.lst xs))) := by
  obtain ⟨v, La, L1, Lb, eL, hv, o, _, back⟩ := er.rs.pick hi
  obtain ⟨a, vs, rfl, rfl, hH, hF, r⟩ := o.asLst
  have ff : Same F (upd F a (.lst vs)) := fun c u h => by rw [upd_ne (ne_of_none h hF)]; exact h
  subst eL
  have hna : a ∉ La ++ Lb := fun z => apart_parts er.nd z (by simp)
  refine ⟨a, vs, La ++ Lb, hv, hH, hF, r, by simp, hna, ?_, ff, ?_, back _ H (.lst xs) ff (fun _ _ _ h => h) (fun c hc => ?_) (.lst upd_same (r.same ff)), ?_⟩
  · exact List.Sublist.append_left (List.sublist_append_right _ _) _
  · intro c u h
    by_cases hc : c = a
    · subst hc; rw [upd_same] at h; cases h; exact hH
    · rw [upd_ne hc] at h; exact er.fh c u h
  · rw [upd_ne (fun z => hna (by rw [← z]; exact hc))]
    exact (er.rs.out c (by simp at hc ⊢; rcases hc with hc | hc <;> simp [hc])).1
  · exact er.nd.sublist (List.Sublist.append_left (List.sublist_append_right _ _) _)
theorem d_bor {i : Nat} (ha : DE X W0 true a f) : DE X W m a (eBor i f) :=
  PE.imp ha fun σ H Q ⟨F, L, ρ, er, p⟩ => by
    have run : ∀ (b : Bool) (xs : List D), ρ[i]? = some (Slot.mine b (.lst xs)) → Post (Rp X.K X.mg) X.K X.mg W m F H L σ ρ Q (match f (ρ.set i (.val (.lst xs))) with
        | .ok r _ => if flat r then .ok r ρ else .stuck
        | _ => .stuck) → tG (Rp X.K X.mg) X.K X.mg W0 true f σ H Q := fun b xs hi p => by
      obtain ⟨a, vs, L1, _, hH, hF, _, _, _, _, ff, er1⟩ := lst_known er hi
      refine ⟨_, L1, _, er1, ?_⟩
      cases e : f (ρ.set i (.val (.lst xs))) with
      | stuck => rw [e] at p; exact p
      | err x ρ' => rw [e] at p; exact p.elim
      | ok r ρ' =>
        rw [e] at p
        intro v F' H' L' x er' rr
        obtain ⟨_, _, hh⟩ := x.pure rfl
        by_cases hfl : flat r = true
        · simp only [hfl, if_true] at p
          exact p v F H' L ⟨⟨Same.refl _, fun c u h _ => hh c u h, fun c u h => .inl h, fun c h => .inl h⟩, Pk.refl _, fun _ => ⟨rfl, rfl, hh⟩⟩
            ⟨er.fh.trans hh, er.rs.frame (Same.refl _) (fun c _ u h => hh c u h) fun c hc => (er.rs.out c hc).1, er.nd⟩ (rr.flat hfl)
        · simp only [hfl] at p
          exact p.elim
    unfold eBor at p
    split at p
    · rename_i xs hi
      exact run false xs hi p
    · rename_i xs hi
      exact run true xs hi p
    · exact p.elim
/-- a word of ours alone: the list in slot i is not changed any more -/
theorem dss_frz {i : Nat} {sts : List Stmt} {s : SM} (h : DSs X W sts s) : DSs X W sts (sSeq (frz i) s) :=
  PSs.imp h fun D σ H ⟨F, L, ρ, er, p⟩ => by
    unfold sSeq at p
    cases e2 : frz i ρ with
    | stuck => rw [e2] at p; exact p.elim
    | err x ρ' =>
      unfold frz at e2
      split at e2 <;> cases e2
    | ok fl ρ' =>
      rw [e2] at p
      unfold frz at e2
      split at e2
      · rename_i xs e
        cases e2
        obtain ⟨a, vs, L1, _, hH, hF, _, ha, hna, hsub, ff, er1⟩ := lst_known (b := false) er e
        refine ⟨_, L1, _, er1, PostS.mono p ⟨⟨ff, fun c u h _ => h, fun c u h => ?_, fun c hc => .inl (hsub.subset hc)⟩, fun i2 d2 e2 => ⟨rfl, ?_⟩, rfl⟩ fun _ _ _ _ _ _ h => h⟩
        · by_cases hc : c = a
          · subst hc; exact .inr (.inl ha)
          · rw [upd_ne hc] at h; exact .inl h
        · by_cases h12 : i = i2
          · subst h12; rw [e] at e2; cases e2
          · rw [List.getElem?_set_ne h12]; exact ⟨d2, e2⟩
      · cases e2
end
end Wk
set_option Elab.async false
set_option linter.all false
set_option maxRecDepth 100000
namespace Wk
open PySem PySem.Spec PyProof.Rows L2

/-! ### own lists made and changed -/
section
variable {K : PySem.W.Frag} {mg : Mg} {F H : Hp}
theorem ERs.setOwn {v : V} {d : D} {L1 : List Addr} (o : Ow K mg F H v d L1) : ∀ {σ : L2.St} {ρ : EnvD} {L : List Addr} {i : Nat}, ERs K mg F H σ ρ L → i < ρ.length →
    ∃ L', ERs K mg F H (σ.set i (some v)) (ρ.set i (.own d)) L' ∧ (∀ a ∈ L', a ∈ L ∨ a ∈ L1) ∧ (L.Nodup → L1.Nodup → (∀ a ∈ L1, a ∉ L) → L'.Nodup)
  | _, _, _, _, .nil, h => by simp at h
  | _, _, L, 0, .no t, _ => ⟨L1 ++ L, .own o t, fun a ha => by simp at ha; exact ha.symm, fun h1 h2 h3 => List.nodup_append.mpr ⟨h2, h1, fun a ha b hb e => by subst e; exact h3 a ha hb⟩⟩
  | _, _, L, 0, .val _ t, _ => ⟨L1 ++ L, .own o t, fun a ha => by simp at ha; exact ha.symm, fun h1 h2 h3 => List.nodup_append.mpr ⟨h2, h1, fun a ha b hb e => by subst e; exact h3 a ha hb⟩⟩
  | _, _, _, 0, .own (L1 := L0) (L := L) _ t, _ => ⟨L1 ++ L, .own o t, fun a ha => by simp at ha ⊢; rcases ha with ha | ha <;> simp [ha], fun h1 h2 h3 => List.nodup_append.mpr ⟨h2, (List.nodup_append.mp h1).2.1, fun a ha b hb e => by subst e; exact h3 a ha (by simp [hb])⟩⟩
  | _, _, _, 0, .pin (L1 := L0) (L := L) _ t, _ => ⟨L1 ++ L, .own o t, fun a ha => by simp at ha ⊢; rcases ha with ha | ha <;> simp [ha], fun h1 h2 h3 => List.nodup_append.mpr ⟨h2, (List.nodup_append.mp h1).2.1, fun a ha b hb e => by subst e; exact h3 a ha (by simp [hb])⟩⟩
  | _, _, _, i + 1, .no t, h => by
    obtain ⟨L', a, b, c⟩ := ERs.setOwn (i := i) o t (by simpa using h)
    exact ⟨L', .no a, b, c⟩
  | _, _, _, i + 1, .val q t, h => by
    obtain ⟨L', a, b, c⟩ := ERs.setOwn (i := i) o t (by simpa using h)
    exact ⟨L', .val q a, b, c⟩
  | _, _, _, i + 1, .own (L1 := L0) (L := L) q t, h => by
    obtain ⟨L', a, b, c⟩ := ERs.setOwn (i := i) o t (by simpa using h)
    refine ⟨L0 ++ L', .own q a, fun x hx => ?_, fun h1 h2 h3 => ?_⟩
    · rcases List.mem_append.mp hx with hx | hx
      · exact .inl (by simp [hx])
      · exact (b x hx).imp (fun z => by simp [z]) id
    · obtain ⟨n1, n2, n3⟩ := List.nodup_append.mp h1
      refine List.nodup_append.mpr ⟨n1, c n2 h2 (fun x hx z => h3 x hx (by simp [z])), fun x hx y hy e => ?_⟩
      subst e
      rcases b x hy with z | z
      · exact n3 x hx x z rfl
      · exact h3 x z (by simp [hx])
  | _, _, _, i + 1, .pin (L1 := L0) (L := L) q t, h => by
    obtain ⟨L', a, b, c⟩ := ERs.setOwn (i := i) o t (by simpa using h)
    refine ⟨L0 ++ L', .pin q a, fun x hx => ?_, fun h1 h2 h3 => ?_⟩
    · rcases List.mem_append.mp hx with hx | hx
      · exact .inl (by simp [hx])
      · exact (b x hx).imp (fun z => by simp [z]) id
    · obtain ⟨n1, n2, n3⟩ := List.nodup_append.mp h1
      refine List.nodup_append.mpr ⟨n1, c n2 h2 (fun x hx z => h3 x hx (by simp [z])), fun x hx y hy e => ?_⟩
      subst e
      rcases b x hy with z | z
      · exact n3 x hx x z rfl
      · exact h3 x z (by simp [hx])
end
/-- an expression that makes a new list -/
def PostF (K : PySem.W.Frag) (mg : Mg) (W : WX) (F H : Hp) (L : List Addr) (σ : L2.St) (ρ : EnvD) (Q : VK) : Rs (List D) → Prop
  | .ok xs ρ' => ∀ p vs F' H' L', Exm false F H L ρ F' H' L' ρ' → ER K mg F' H' L' σ ρ' → RpA K mg F' vs xs → H' p = none → Q (.ref p) (upd H' p (.lst vs))
  | .err x ρ' => ∀ c dx F' H' L', Exm false F H L ρ F' H' L' ρ' → ER K mg F' H' L' σ ρ' → XR K mg F' x c dx → W c dx σ H'
  | .stuck => False
def tFr (K : PySem.W.Frag) (mg : Mg) (W : WX) (f : M (List D)) : TE := fun σ H Q => ∃ F L ρ, ER K mg F H L σ ρ ∧ PostF K mg W F H L σ ρ Q (f ρ)
abbrev DFr (X : Cx) (W : WX) (e : Expr) (f : M (List D)) : Prop := PE X e (tFr X.K X.mg W f)
theorem tF_bnd {K : PySem.W.Frag} {mg : Mg} {W : WX} {F H : Hp} {L : List Addr} {σ : L2.St} {ρ : EnvD} {α β : Type} {Rr : Hp → β → α → Prop} {f : M α} {g : α → M (List D)} {Q : VK} {Q1 : β → Hp → Prop} (er : ER K mg F H L σ ρ) (p : PostF K mg W F H L σ ρ Q (bnd f g ρ))
    (k : ∀ b a F1 H1 L1 ρ1, Exm false F H L ρ F1 H1 L1 ρ1 → ER K mg F1 H1 L1 σ ρ1 → Rr F1 b a → PostF K mg W F1 H1 L1 σ ρ1 Q (g a ρ1) → Q1 b H1) : tG Rr K mg W false f σ H Q1 := by
  refine ⟨F, L, ρ, er, ?_⟩
  unfold bnd at p
  cases e : f ρ with
  | ok a ρ' =>
    rw [e] at p
    refine fun v F' H' L' x er' r => k v a F' H' L' ρ' x er' r ?_
    have p : PostF K mg W F H L σ ρ Q (g a ρ') := p
    cases e2 : g a ρ' with
    | ok ys ρ2 => rw [e2] at p; exact fun p' vs F2 H2 L2' x2 er2 => p p' vs F2 H2 L2' (x.trans x2) er2
    | err y ρ2 => rw [e2] at p; exact fun c dx F2 H2 L2' x2 er2 => p c dx F2 H2 L2' (x.trans x2) er2
    | stuck => rw [e2] at p; exact p
  | err x ρ' => rw [e] at p; exact p
  | stuck => rw [e] at p; exact p
def frLst (fs : M (List D)) : M (List D) := bnd fs fun xs => lift (if xs.length ≤ lim then some xs else none)
def frOp (g : D → D → Option D) (f h : M D) : M (List D) := bnd f fun x => bnd h fun y => lift ((g x y).bind lstOf)
/-- the list in slot i, own or lent -/
def mineL : Option Slot → Bool
  | some (.own (.lst _)) => true
  | some (.pin (.lst _)) => true
  | _ => false
def putL (i : Nat) (g : List D → Option (List D)) : SM := fun ρ => match ρ[i]? with
  | some (.own (.lst xs)) => (match g xs with | some ys => .ok .nx (ρ.set i (.own (.lst ys))) | none => .stuck)
  | some (.pin (.lst xs)) => (match g xs with | some ys => .ok .nx (ρ.set i (.pin (.lst ys))) | none => .stuck)
  | _ => .stuck
def sApp (i : Nat) (f : M D) : SM := fun ρ => if mineL ρ[i]? then sDo f (fun d => putL i fun xs => if xs.length < lim then some (xs ++ [d]) else none) ρ else .stuck
def setAt (k : D) (d : D) (xs : List D) : Option (List D) := match k with
  | .int j => (ixN xs.length j).map fun n => xs.set n d
  | _ => none
def sPut (i : Nat) (f : M D) (g : M D) : SM := sDo f fun d ρ => if mineL ρ[i]? then sDo g (fun k => putL i (setAt k d)) ρ else .stuck
def ownL (i : Nat) (xs : List D) : SM := fun ρ => match ρ[i]? with
  | some (.pin _) => .stuck
  | some _ => .ok .nx (ρ.set i (.own (.lst xs)))
  | none => .stuck
def sOwn (i : Nat) (f : M (List D)) : SM := sDo f (ownL i)
section
variable {X : Cx} {W : WX} {m : Bool} {pos p p2 pos' : Pos} {a b c : Expr} {f g h : M D} {es : List Expr} {fs : M (List D)}
theorem dfr_lst (h : DAs X W false es fs) : DFr X W (.List es pos) (frLst fs) :=
  PE.imp (pe_lst h) fun σ H Q ⟨F, L, ρ, er, p⟩ => tF_bnd er p fun x dx F1 H1 L1 ρ1 x1 er1 rx p1 => by
    unfold lift at p1
    split at p1
    · rename_i xs hd
      split at hd
      · rename_i hl
        cases hd
        exact ⟨by rw [rx.length, line_eq]; exact hl, fun q hq => p1 q x F1 H1 L1 (Exm.refl _ _ _ _ _) er1 rx hq⟩
      · cases hd
    · exact p1.elim
theorem addD_lst {x y : D} {zs : List D} (e : addD x y = some (.lst zs)) : ∃ xs ys, x = .lst xs ∧ y = .lst ys ∧ xs.length + ys.length ≤ lim ∧ zs = xs ++ ys := by
  cases x <;> cases y <;> simp [addD] at e
  exact ⟨_, _, rfl, rfl, e.1, e.2.symm⟩
theorem dfr_add (ha : DE X W false a f) (hb : DE X W false b g) : DFr X W (.BinOp a .Add b pos) (frOp addD f g) :=
  PE.imp (pe_op op_cat ha hb) fun σ H Q ⟨F, L, ρ, er, p⟩ => tF_bnd er p fun x dx F1 H1 L1 ρ1 x1 er1 rx p1 => tF_bnd er1 p1 fun y dy F2 H2 L2 ρ2 x2 er2 ry p2 => by
    unfold lift at p2
    split at p2
    · rename_i xs hd
      cases e : addD dx dy with
      | none => rw [e] at hd; cases hd
      | some d =>
        rw [e] at hd
        cases d <;> simp only [Option.bind_some, lstOf, reduceCtorEq] at hd
        cases hd
        have rx2 := rx.same x2.ex.ff
        obtain ⟨xs1, ys1, rfl, rfl, hl, rfl⟩ := addD_lst e
        cases rx2 with
        | lst ha ra =>
          cases ry with
          | lst hb rb => exact ⟨_, _, _, _, rfl, rfl, er2.fh _ _ ha, er2.fh _ _ hb, by rw [ra.length, rb.length, line_eq]; exact hl, fun q hq => p2 q _ F2 H2 L2 (Exm.refl _ _ _ _ _) er2 (ra.append rb) hq⟩
    · exact p2.elim
/-- an own list is changed -/
theorem own_write {K : PySem.W.Frag} {mg : Mg} {F H : Hp} {L : List Addr} {σ : L2.St} {ρ : EnvD} {b : Bool} {i : Nat} {xs : List D} (er : ER K mg F H L σ ρ) (hi : ρ[i]? = some (Slot.mine b (.lst xs))) :
    ∃ a vs, σ[i]? = some (some (.ref a)) ∧ H a = some (.lst vs) ∧ RpA K mg F vs xs ∧
      ∀ vs' xs', RpA K mg F vs' xs' → ER K mg F (upd H a (.lst vs')) L σ (ρ.set i (Slot.mine b (.lst xs'))) ∧ Exs F H L σ ρ F (upd H a (.lst vs')) L σ (ρ.set i (Slot.mine b (.lst xs'))) := by
  obtain ⟨v, La, L1, Lb, eL, hv, o, back, _⟩ := er.rs.pick hi
  obtain ⟨a, vs, rfl, rfl, hH, hF, r⟩ := o.asLst
  subst eL
  have hna : a ∉ La ++ Lb := fun z => apart_parts er.nd z (by simp)
  refine ⟨a, vs, hv, hH, r, fun vs' xs' r' => ⟨⟨fun c u h => ?_, back F _ (.lst xs') [a] (Same.refl _) (fun c hc u h => ?_) (fun c hc => ?_) (.lst upd_same hF r'), er.nd⟩, ⟨⟨Same.refl _, fun c u h n => ?_, fun _ _ h => .inl h, fun _ h => .inl h⟩, fun i2 d2 e2 => ⟨rfl, ?_⟩, rfl⟩⟩⟩
  · rw [upd_ne (ne_of_none h hF)]; exact er.fh c u h
  · rw [upd_ne (fun z => hna (by rw [← z]; exact hc))]; exact h
  · exact (er.rs.out c (by simp at hc ⊢; rcases hc with hc | hc <;> simp [hc])).1
  · rw [upd_ne (fun z => n (by rw [z]; simp))]; exact h
  · by_cases h12 : i = i2
    · subst h12
      have hlt := (List.getElem?_eq_some_iff.mp hi).1
      rw [List.getElem?_set_self hlt]
      rw [hi] at e2
      cases b with
      | false => simp [Slot.mine] at e2
      | true => exact ⟨_, rfl⟩
    · rw [List.getElem?_set_ne h12]; exact ⟨d2, e2⟩
theorem mineL_some {o : Option Slot} (h : mineL o = true) : ∃ b xs, o = some (Slot.mine b (.lst xs)) := by
  unfold mineL at h
  split at h
  · exact ⟨false, _, rfl⟩
  · exact ⟨true, _, rfl⟩
  · cases h
theorem putL_post {K : PySem.W.Frag} {mg : Mg} {W : WX} {F H : Hp} {L : List Addr} {σ : L2.St} {ρ : EnvD} {i : Nat} {gg : List D → Option (List D)} {E : Fl → Hp → List Addr → L2.St → Hp → EnvD → Prop} (er : ER K mg F H L σ ρ) (p : PostS K mg W F H L σ ρ E (putL i gg ρ)) :
    ∃ a vs xs ys, σ[i]? = some (some (.ref a)) ∧ H a = some (.lst vs) ∧ RpA K mg F vs xs ∧ gg xs = some ys ∧ ∀ vs', RpA K mg F vs' ys → ∃ L' ρ', E .nx F L' σ (upd H a (.lst vs')) ρ' := by
  have run : ∀ b xs, ρ[i]? = some (Slot.mine b (.lst xs)) → PostS K mg W F H L σ ρ E (match gg xs with | some ys => .ok .nx (ρ.set i (Slot.mine b (.lst ys))) | none => .stuck) →
      ∃ a vs xs ys, σ[i]? = some (some (.ref a)) ∧ H a = some (.lst vs) ∧ RpA K mg F vs xs ∧ gg xs = some ys ∧ ∀ vs', RpA K mg F vs' ys → ∃ L' ρ', E .nx F L' σ (upd H a (.lst vs')) ρ' := fun b xs hi p => by
    obtain ⟨a, vs, h1, h2, h3, k⟩ := own_write er hi
    cases e : gg xs with
    | none => rw [e] at p; exact p.elim
    | some ys =>
      rw [e] at p
      exact ⟨a, vs, xs, ys, h1, h2, h3, e, fun vs' r => ⟨L, _, p F _ L σ (k vs' ys r).2 (k vs' ys r).1⟩⟩
  unfold putL at p
  split at p
  · rename_i xs hi
    exact run false xs hi p
  · rename_i xs hi
    exact run true xs hi p
  · exact p.elim
theorem ds_app {i : Nat} {x : Str} {apos cpos : Pos} (hN : X.N[i]? = some x) (hv : Vis X.env.scope x) (ha : DE X W m a f) (hd : (x == ("__debug__" : Str)) = false := by decide) (hcd : (x == ("__classdict__" : Str)) = false := by decide)
    (hbase : attributeBase (.Name x p) "append" X.env (eval (.Name x p) X.env) = eval (.Name x p) X.env := by rfl)
    (hfew : ((backTo cpos (starEach [a] X.env)).all (fun x => !x.1) && (backToKw cpos (keywordEach [] X.env)).all (fun x => x.1.isSome) && decide (([a] : List Expr).length + ([] : List Keyword).length + (if ([] : List Keyword).isEmpty then 0 else 1) < 30)) = true := by rfl)
    (hline : (apos.endLine == cpos.line) = true := by rfl) (hs : starEach [a] X.env = (false, eval a X.env) :: starEach [] X.env := by rfl) (hplain : (backTo cpos (starEach [] X.env)).any (·.1) = false := by rfl)
    (hsw : swapsWith (.Call (.Attribute (.Name x p) "append" apos) [a] [] cpos) none pos.line X.env = pure false := by rfl) :
    DS X W (.Expr (.Call (.Attribute (.Name x p) "append" apos) [a] [] cpos) pos) (sApp i f) :=
  PS.imp (ps_expr (pe_bm PySem.F.plainAttrs_list PySem.F.slot_list_append PySem.F.type_list_append mt_append (pe_var hN hv hd hcd) (pa_cons ha pa_nil hs) hbase hfew hline hs hplain) hsw) fun D σ H ⟨F, L, ρ, er, q⟩ => by
    unfold sApp at q
    split at q
    · rename_i hm
      obtain ⟨b, xs, hi⟩ := mineL_some hm
      obtain ⟨a0, vs0, _, h1, h2, _, _, _, _, _, _, _⟩ := lst_known er hi
      refine ⟨_, h1, .inl ⟨rfl, vs0, SqL.of h2⟩, tS_do er q fun v d F1 H1 L1 ρ1 x1 er1 r p1 => ?_⟩
      obtain ⟨a, vs, xs, ys, g1, g2, g3, g4, g5⟩ := putL_post er1 p1
      rw [h1] at g1
      cases g1
      split at g4
      · rename_i hl
        cases g4
        obtain ⟨_, _, z⟩ := g5 _ (g3.append (.cons r .nil))
        exact ⟨_, vs, v, rfl, rfl, g2, by rw [g3.length, line_eq]; exact hl, z⟩
      · cases g4
    · exact q.elim
theorem ds_put {i : Nat} {x : Str} {sp : Pos} (hN : X.N[i]? = some x) (hv : Vis X.env.scope x) (ha : DE X W m a f) (hk : DE X W m b g) (hd : (x == ("__debug__" : Str)) = false := by decide) (hcd : (x == ("__classdict__" : Str)) = false := by decide)
    (has : ∀ v, assign (.Subscript (.Name x p) b sp) X.env v = (do
      let ov ← holding [v] (eval (.Name x p) X.env)
      let iv ← holding [v, ov] (eval b X.env)
      standAt sp
      holding [v, ov, iv] (setItem ov iv v)
      release [v, ov, iv] []) := by intro _; rfl)
    (hs : swapsWithSole [.Subscript (.Name x p) b sp] a pos.line X.env = pure false := by rfl) (hw : swappedStores [.Subscript (.Name x p) b sp] a X.env = pure none := by rfl) (h1 : (assignEach [.Subscript (.Name x p) b sp] X.env).map (·.2) = [assign (.Subscript (.Name x p) b sp) X.env] := by rfl) :
    DS X W (.Assign [.Subscript (.Name x p) b sp] a pos) (sPut i f g) :=
  PS.imp (ps_asg ha (pg_sub (pe_var hN hv hd hcd) hk set_list has) hs hw h1) fun D σ H ⟨F, L, ρ, er, q⟩ => tS_do er q fun v d F1 H1 L1 ρ1 x1 er1 r p1 => by
    split at p1
    · rename_i hm
      obtain ⟨bb, xs, hi⟩ := mineL_some hm
      obtain ⟨a0, vs0, _, h1, h2, _, _, _, _, _, _, _⟩ := lst_known er1 hi
      refine ⟨_, h1, tS_do er1 p1 fun kv kd F2 H2 L2' ρ2 x2 er2 rk p2 => ?_⟩
      obtain ⟨a, vs, xs, ys, g1, g2, g3, g4, g5⟩ := putL_post er2 p2
      rw [h1] at g1
      cases g1
      unfold setAt at g4
      split at g4
      · cases rk
        cases e : ixN xs.length _ with
        | none => rw [e] at g4; cases g4
        | some n =>
          rw [e] at g4
          cases g4
          obtain ⟨_, _, z⟩ := g5 _ (g3.set (r.same x2.ex.ff) n)
          exact ⟨_, vs, _, n, rfl, rfl, g2, by rw [g3.length]; exact e, z⟩
      · cases g4
    · exact p1.elim
theorem ds_own {i : Nat} {x : Str} {p' : Pos} (hN : X.N.Nodup) (hi : X.N[i]? = some x) (hx : Loc X.env.scope x) (hf : X.fn x = true ∨ X.env.scope.names.lookup x = some .local) (ha : DFr X W a fs) (hs : swapsWith a (some (.Name x p')) pos.line X.env = pure false := by rfl) :
    DS X W (.Assign [.Name x p'] a pos) (sOwn i fs) :=
  PS.imp (ps_set hN hi hx ha hs hf) fun D σ H ⟨F, L, ρ, er, p⟩ => by
    refine ⟨F, L, ρ, er, ?_⟩
    unfold sOwn sDo at p
    cases e : fs ρ with
    | stuck => rw [e] at p; exact p
    | err x ρ' => rw [e] at p; exact fun c dx F' H' L' x' er' r => p c dx F' H' L' σ (.of x') er' r
    | ok xs ρ1 =>
      rw [e] at p
      intro q vs F1 H1 L1 x1 er1 r hq
      have hqF : F1 q = none := er1.fh.free hq
      have hqL : q ∉ L1 := fun z => by
        obtain ⟨_, o, ho⟩ := er1.rs.out _ z
        rw [hq] at ho; cases ho
      have er2 := er1.other (o := .lst vs) hqF hqL
      have go : ∀ s, ρ1[i]? = some s → (∀ d, s ≠ .pin d) → PostS X.K X.mg W F H L σ ρ (EndD X.K X.mg D) (.ok .nx (ρ1.set i (.own (.lst xs)))) → D.nx (σ.set i (some (.ref q))) (upd H1 q (.lst vs)) := fun s hs np p => by
        have hl := (List.getElem?_eq_some_iff.mp hs).1
        obtain ⟨L', t, sub, nd⟩ := er2.rs.setOwn (.lst upd_same hqF r) hl
        have er3 : ER X.K X.mg F1 (upd H1 q (.lst vs)) L' (σ.set i (some (.ref q))) (ρ1.set i (.own (.lst xs))) := ⟨er2.fh, t, nd er1.nd (by simp) fun a ha => by simp at ha; subst ha; exact hqL⟩
        refine p F1 _ L' _ ((Exs.of x1).trans ⟨⟨Same.refl _, fun c u h n => by rw [upd_ne (ne_of_none h hq)]; exact h, fun _ _ h => .inl h, fun c hc => ?_⟩, fun i2 d2 e2 => ?_, by simp⟩) er3
        · rcases sub c hc with z | z
          · exact .inl z
          · simp at z; subst z; exact .inr hq
        · have hj : i ≠ i2 := fun z => by subst z; rw [hs] at e2; cases e2; exact np d2 rfl
          rw [List.getElem?_set_ne hj, List.getElem?_set_ne hj]
          exact ⟨rfl, d2, e2⟩
      have p : PostS X.K X.mg W F H L σ ρ (EndD X.K X.mg D) (ownL i xs ρ1) := p
      unfold ownL at p
      split at p
      · exact p.elim
      · rename_i s h1 hs
        exact go s hs (fun d z => h1 d z) p
      · exact p.elim
end
end Wk
set_option Elab.async false
set_option linter.all false
set_option maxRecDepth 100000
namespace Wk
open PySem PySem.Spec PyProof.Rows L2

/-! ### a def that returns a new list of its own -/
def PostCO (K : PySem.W.Frag) (mg : Mg) (F H : Hp) (L : List Addr) (vs : List V) (Q : VK) (E : XK) : Rs (List D) → Prop
  | .ok xs ss' => ∀ p us F' H' L', Ex F H L F' H' L' → ER K mg F' H' L' (vs.map some) ss' → RpA K mg F' us xs → H' p = none → Q (.ref p) (upd H' p (.lst us))
  | .err x ss' => ∀ c dx F' H' L', Ex F H L F' H' L' → ER K mg F' H' L' (vs.map some) ss' → XR K mg F' x c dx → E c dx H'
  | .stuck => False
def spO (K : PySem.W.Frag) (mg : Mg) (n : Nat) (sem : M (List D)) : Sp := fun vs H Q E => vs.length = n ∧ ∃ F L ss, ER K mg F H L (vs.map some) ss ∧ PostCO K mg F H L vs Q E (sem ss)
abbrev FnO (P : Program) (w : World) (K : PySem.W.Frag) (mg : Mg) (base : Heap) (k : Nat) (f : Addr) (fd : FuncData) (ps : List Str) (sem : M (List D)) : Prop := FnOk P w K mg base (L2.CX P w) k f fd ps (spO K mg ps.length sem)
def runDefO (n k : Nat) (body : SM) : M (List D) := fun ss => match body (ss ++ List.replicate k .no) with
  | .ok (.ro d) ρ => .ok d (outs ss ρ)
  | .err x ρ => .err x (outs ss ρ)
  | _ => .stuck
def sRetO (f : M (List D)) : SM := sDo f fun d => sEnd (.ro d)
section
variable {P : Program} {w : World} {K : PySem.W.Frag} {mg : Mg} {base : Heap}
theorem fn_O {x qual : Str} {pms : Arguments} {body : List Stmt} {scope : Scope} {dvs : List V} {kws : List (Str × V)} {f : Addr} {fd : FuncData} {N ps : List Str} {k j : Nat} {s : SM} (F : FunD K x qual pms body scope dvs kws f fd) (S : FnScope N ps scope) (hj : N.length = ps.length + j)
    (hb : ∀ (cdv : Value) (A : Around) (outer : List Env) (sh : Shared) (H : Hp) (E : XK), Room k (A.deeper (envOfC qual scope sh.heap.objs.size f cdv)) →
      DSs (cxOf (L2.CX P w) P w K mg base N qual scope f cdv A outer sh H E) (fun c d _ H' => E c d H') body s) : FnO P w K mg base (k + 1) f fd ps (runDefO ps.length j s) := by
  refine F.ok S (fun vs H Q E h => h.1) fun cdv A outer sh H vs Q E hr h => ?_
  obtain ⟨hl, F0, L0, ss, er, p⟩ := h
  refine ⟨_, hb cdv A outer sh H E hr, F0, L0, ss ++ List.replicate j .no, ?_, ?_⟩
  · have e : L2.start N vs = vs.map some ++ List.replicate j none := by
      unfold L2.start
      rw [hl, hj, Nat.add_sub_cancel_left]
    rw [e]
    exact ⟨er.fh, er.rs.more j, er.nd⟩
  · have ssl : ss.length = vs.length := by
      have := er.rs.length
      simpa using this.symm
    have e : L2.start N vs = vs.map some ++ List.replicate j none := by
      unfold L2.start
      rw [hl, hj, Nat.add_sub_cancel_left]
    have pinAt : ∀ (i : Nat) (d : D), ss[i]? = some (Slot.pin d) → (ss ++ List.replicate j Slot.no)[i]? = some (Slot.pin d) ∧ (L2.start N vs)[i]? = (vs.map some)[i]? := fun i d hi => by
      have hlt := (List.getElem?_eq_some_iff.mp hi).1
      refine ⟨by rw [List.getElem?_append_left hlt]; exact hi, ?_⟩
      rw [e, List.getElem?_append_left (by simpa [← ssl] using hlt)]
    have fin : ∀ {F' H' L' σ' ρ'}, Exs F0 H L0 (L2.start N vs) (ss ++ List.replicate j Slot.no) F' H' L' σ' ρ' → ER K mg F' H' L' σ' ρ' → ∃ Lo, Lo.Sublist L' ∧ ER K mg F' H' Lo (vs.map some) (outs ss ρ') := by
      intro F' H' L' σ' ρ' x er'
      have hle : ss.length ≤ ρ'.length := by
        rw [← er'.rs.length, x.ln, e, List.length_append, List.length_map, ssl]
        omega
      obtain ⟨Lo, a, b⟩ := er'.rs.outs ssl hle fun i d hi => by
        obtain ⟨h1, h2⟩ := pinAt i d hi
        obtain ⟨h3, h4⟩ := x.pn i d h1
        exact ⟨h3.trans h2, h4⟩
      exact ⟨Lo, a, er'.fh, b, er'.nd.sublist a⟩
    unfold runDefO at p
    cases es : s (ss ++ List.replicate j Slot.no) with
    | stuck => rw [es] at p; exact p
    | err y ρ' =>
      rw [es] at p
      intro c dx F' H' L' σ' x er' xr
      obtain ⟨Lo, a, b⟩ := fin x er'
      exact p c dx F' H' Lo (x.ex.sub a) b xr
    | ok fl ρ' =>
      rw [es] at p
      intro F' H' L' σ' x er'
      obtain ⟨Lo, a, b⟩ := fin x er'
      cases fl with
      | nx => exact p.elim
      | rt d => exact p.elim
      | bk => exact p.elim
      | ct => exact p.elim
      | ro xs => exact fun q us r hq => p q us F' H' Lo (x.ex.sub a) b r hq
end
def callVO (n : Nat) (sem : M (List D)) (ds : List D) : M (List D) := fun ρ => if ds.length = n then match sem (ds.map .val) with
  | .ok d _ => .ok d ρ
  | .err x _ => .err x ρ
  | .stuck => .stuck else .stuck
def frCall (n : Nat) (sem : M (List D)) (fs : M (List D)) : M (List D) := bnd fs (callVO n sem)
section
variable {X : Cx} {W : WX} {m : Bool} {k j : Nat} {f : Addr} {fd : FuncData} {ps : List Str} {sem : M (List D)} {x y : Str} {p p2 pos : Pos} {a : Expr} {es : List Expr} {fs : M (List D)} {st : Stmt}
theorem ds_retO (ha : DFr X W a fs) : DS X W (.Return (some a) pos) (sRetO fs) :=
  PS.imp (ps_ret ha) fun D σ H ⟨F, L, ρ, er, p⟩ => by
    refine ⟨F, L, ρ, er, ?_⟩
    unfold sRetO sDo at p
    cases e : fs ρ with
    | stuck => rw [e] at p; exact p
    | err x ρ' => rw [e] at p; exact fun c dx F' H' L' x' er' r => p c dx F' H' L' σ (.of x') er' r
    | ok xs ρ1 =>
      rw [e] at p
      exact fun q vs F1 H1 L1 x1 er1 r hq => p F1 H1 L1 σ (.of x1) er1 q vs r hq
theorem dfr_call (G : FnO X.prog X.w X.K X.mg X.base k f fd ps sem) (tk : Takes X W) (hr : Room j X.A) (hk : k ≤ j) (hg : Gl X x) (hm : X.mg x = some (.ref f)) (kp : PySem.W.keepIn X.K (.ref f) = true) (hb : Binds X.K fd ps [])
    (ha : DAs X W false (a :: es) fs) (hdb : (x == ("__debug__" : Str)) = false := by decide) (he : starEach (a :: es) X.env = (false, eval a X.env) :: starEach es X.env := by rfl) (hpl : (backTo pos (starEach es X.env)).any (·.1) = false := by rfl) :
    DFr X W (.Call (.Name x p) (a :: es) [] pos) (frCall ps.length sem fs) :=
  PE.imp (pe_callS G (hr.mono hk) hg hm kp hb (fun σ => passAt tk σ) ha hdb he hpl) fun σ H Q ⟨F, L, ρ, er, q⟩ => tF_bnd er q fun vs ds F1 H1 L1 ρ1 x1 er1 r q1 => by
    unfold callVO at q1
    split at q1
    · rename_i hl
      refine ⟨by rw [r.length]; exact hl, F1, [], ds.map .val, ⟨er1.fh, ers_vals r, List.nodup_nil⟩, ?_⟩
      cases e : sem (ds.map .val) with
      | stuck => rw [e] at q1; exact q1
      | ok d ss' =>
        rw [e] at q1
        intro v us F' H' L' x' er' rv hp
        have g := x'.gw er'.fh
        exact q1 v us F' H' L1 (g.exm false L1 ρ1) (g.er er1) rv hp
      | err z ss' =>
        rw [e] at q1
        intro c dx F' H' L' x' er' xr
        have g := x'.gw er'.fh
        exact q1 c dx F' H' L1 (g.exm false L1 ρ1) (g.er er1) xr
    · exact q1.elim
end
end Wk
set_option Elab.async false
set_option linter.all false
set_option maxRecDepth 100000
namespace Wk
open PySem PySem.Spec PyProof.Rows L2

/-! ### x * k -/
theorem foldl_app {α : Type} (l : List α) : ∀ (m : Nat) (acc : List α), List.foldl (fun x1 x2 => x1 ++ x2) acc.toArray (List.replicate m l.toArray) = (acc ++ (List.replicate m l).flatten).toArray
  | 0, acc => by simp
  | m + 1, acc => by
    rw [List.replicate_succ, List.foldl_cons, List.append_toArray, foldl_app l m, List.replicate_succ, List.flatten_cons, List.append_assoc]
theorem mul_S (s : List Nat) (k : Int) : Txt.mul ⟨s.toArray⟩ k = ⟨(List.replicate k.toNat s).flatten.toArray⟩ := by
  unfold Txt.mul
  split
  · rename_i h
    have e : k.toNat = 0 := by omega
    rw [e]; rfl
  · split
    · rename_i h1 h
      simp only [Bool.or_eq_true, beq_iff_eq] at h
      rcases h with h | h
      · subst h
        simp
      · have e : s = [] := by
          have h' : s.toArray.size = 0 := h
          simpa using h'
        subst e
        have e2 : (List.replicate k.toNat ([] : List Nat)).flatten = [] := by
          induction k.toNat with
          | zero => rfl
          | succ n ih => rw [List.replicate_succ, List.flatten_cons, ih]; rfl
        rw [e2]
    · have := foldl_app s k.toNat []
      rw [List.nil_append] at this
      exact congrArg Str.mk this
theorem rep_len {α : Type} (l : List α) : ∀ m : Nat, (List.replicate m l).flatten.length = m * l.length
  | 0 => by simp
  | m + 1 => by rw [List.replicate_succ, List.flatten_cons, List.length_append, rep_len l m, Nat.succ_mul, Nat.add_comm]
theorem rep_mem {α : Type} {l : List α} {m : Nat} {x : α} (h : x ∈ (List.replicate m l).flatten) : x ∈ l := by
  obtain ⟨a, ha, hx⟩ := List.mem_flatten.mp h
  rw [List.eq_of_mem_replicate ha] at hx
  exact hx
theorem RpA.rep {K : PySem.W.Frag} {mg : Mg} {F : Hp} {vs : List V} {ds : List D} (r : RpA K mg F vs ds) : ∀ m : Nat, RpA K mg F (List.replicate m vs).flatten (List.replicate m ds).flatten
  | 0 => .nil
  | m + 1 => by
    rw [List.replicate_succ, List.replicate_succ, List.flatten_cons, List.flatten_cons]
    exact r.append (r.rep m)
section
variable {X : Cx}
theorem ok_mul : OpD X (binaryOp .Mult) mulD := by
  intro pins s σ H x y v u Q I rx ry h
  obtain ⟨F, dx, dy, d, e, hx, hy, ho, k⟩ := h
  cases dx <;> cases dy <;> simp only [mulD, reduceCtorEq] at ho
  · cases hx; cases hy
    split at ho
    · rename_i hc
      cases ho
      simp only [small, Bool.or_eq_true, Bool.and_eq_true, decide_eq_true_eq] at hc
      exact op_mul pins s σ H _ _ v u Q I rx ry ⟨_, _, rfl, rfl, hc, k _ _ _ (Gw.refl e) .int⟩
    · cases ho
  · rename_i z i
    cases hx with
    | str hs =>
      cases hy
      split at ho
      · rename_i hc
        cases ho
        simp only [Bool.and_eq_true, decide_eq_true_eq] at hc
        obtain ⟨t, rfl⟩ := rx
        obtain ⟨t2, rfl⟩ := ry
        have hl : (⟨z.toArray⟩ : Str).length ≤ 1000 := hc.1.1
        refine SB.mul (mulOk_of 1000 1000 hl (by omega) (by omega) (by decide) (by decide)) fun t' k' => ⟨.str _, H, I.tok k', ⟨t', rfl⟩, ?_⟩
        rw [mul_S]
        refine k _ _ _ (Gw.refl e) (.str ⟨fun c hc' => hs.1 c (rep_mem hc'), ?_⟩)
        rw [rep_len]
        have h1 : i.toNat ≤ 1000 := by omega
        have h2 : z.length ≤ 1000 := hc.1.1
        exact Nat.le_trans (Nat.mul_le_mul h1 h2) (by decide)
      · cases ho
  · rename_i zs i
    cases hx with
    | tup ha ra =>
      cases hy
      split at ho
      · rename_i hc
        cases ho
        simp only [Bool.and_eq_true, decide_eq_true_eq] at hc
        have hl := ra.length
        refine op_repT pins s σ H _ _ v u Q I rx ry ⟨_, _, _, rfl, rfl, SqT.same e ha, fun z => by rw [z] at hl; simp at hl; omega, hc.1.1.2, hc.1.2, by omega, fun p hp => ?_⟩
        obtain ⟨g, r⟩ := newT e hp (ra.rep i.toNat)
        exact k _ _ _ g r
      · cases ho
  · rename_i zs i
    cases hx with
    | lst ha ra =>
      cases hy
      split at ho
      · rename_i hc
        cases ho
        simp only [Bool.and_eq_true, decide_eq_true_eq] at hc
        refine op_rep pins s σ H _ _ v u Q I rx ry ⟨_, _, _, rfl, rfl, e _ _ ha, by omega, by omega, ?_, fun p hp => ?_⟩
        · rw [ra.length, line_eq]
          have h1 : i.toNat ≤ 1000 := by omega
          exact Nat.le_trans (Nat.mul_le_mul hc.1.1 h1) (by decide)
        · obtain ⟨g, r⟩ := newL e hp (ra.rep i.toNat)
          exact k _ _ _ g r
      · cases ho
end
def mulL : D → D → Option D
  | .lst xs, .int k => if decide (xs.length ≤ 1000) && decide (-1000 ≤ k) && decide (k ≤ 1000) then some (.lst (List.replicate k.toNat xs).flatten) else none
  | _, _ => none

/-! ### methods of texts -/
def isS : D → Bool
  | .str _ => true
  | _ => false
def eM0 (B : D → Option D) (f : M D) : M D := bnd f fun x => lift (if isS x then B x else none)
def eM1 (B : D → D → Option D) (f g : M D) : M D := bnd f fun x => if isS x then bnd g fun y => lift (B x y) else lift none
abbrev rM1 (K : PySem.W.Frag) (mg : Mg) (B : D → D → Option D) : V → List V → Hp → VK → Prop := fun x xs H Q => ∃ F dx y dy d, xs = [y] ∧ Same F H ∧ Rp K mg F x dx ∧ Rp K mg F y dy ∧ B dx dy = some d ∧ ∀ v F' H', Gw F H F' H' → Rp K mg F' v d → Q v H'
abbrev rM0 (K : PySem.W.Frag) (mg : Mg) (B : D → Option D) : V → List V → Hp → VK → Prop := fun x xs H Q => ∃ F dx d, xs = [] ∧ Same F H ∧ Rp K mg F x dx ∧ B dx = some d ∧ ∀ v F' H', Gw F H F' H' → Rp K mg F' v d → Q v H'
section
variable {X : Cx} {W : WX} {m : Bool} {o a b : Expr} {f g : M D} {apos pos : Pos} {id : String} {name : Str}
theorem d_m1 {B : D → D → Option D} (slot : PySem.Slot "str" name id) (ty : typeOf (.builtin id) = pure (.type "method_descriptor")) (rule : MtR X id (rM1 X.K X.mg B)) (ho : DE X W m o f) (he : DE X W m a g)
    (hs : starEach [a] X.env = [(false, eval a X.env)] := by rfl) (hbase : attributeBase o name X.env (eval o X.env) = eval o X.env := by rfl) (hline : (apos.endLine == pos.line) = true := by rfl) :
    DE X W m (.Call (.Attribute o name apos) [a] [] pos) (eM1 B f g) :=
  PE.imp (pe_m1 slot ty rule ho he hs hbase hline) fun σ H Q ⟨F, L, ρ, er, p⟩ => tG_bnd er p fun x dx F1 H1 L1 ρ1 x1 er1 rx p1 => by
    split at p1
    · rename_i hi
      refine ⟨by cases rx <;> simp [isS] at hi; exact ⟨_, rfl⟩, tG_bnd er1 p1 fun y dy F2 H2 L2 ρ2 x2 er2 ry p2 => ?_⟩
      obtain ⟨d, hd, k⟩ := lift_post er2 p2
      exact ⟨F2, dx, y, dy, d, rfl, er2.fh, rx.same x2.ex.ff, ry, hd, k⟩
    · exact p1.elim
theorem d_m0 {B : D → Option D} (slot : PySem.Slot "str" name id) (ty : typeOf (.builtin id) = pure (.type "method_descriptor")) (rule : MtR X id (rM0 X.K X.mg B)) (ho : DE X W m o f)
    (hbase : attributeBase o name X.env (eval o X.env) = eval o X.env := by rfl) (hline : (apos.endLine == pos.line) = true := by rfl) :
    DE X W m (.Call (.Attribute o name apos) [] [] pos) (eM0 B f) :=
  PE.imp (pe_m0 slot ty rule ho hbase hline) fun σ H Q ⟨F, L, ρ, er, p⟩ => tG_bnd er p fun x dx F1 H1 L1 ρ1 x1 er1 rx p1 => by
    obtain ⟨d, hd, k⟩ := lift_post er1 p1
    split at hd
    · rename_i hi
      exact ⟨by cases rx <;> simp [isS] at hi; exact ⟨_, rfl⟩, F1, dx, d, rfl, er1.fh, rx, hd, k⟩
    · cases hd
/-! join -/
def strsOf : List D → Option (List (List Nat))
  | [] => some []
  | .str s :: r => (strsOf r).map (s :: ·)
  | _ :: _ => none
def bJoin : D → D → Option D
  | .str a, .lst xs => (strsOf xs).bind fun ys => if (ys.map (·.length)).sum + ys.length * a.length ≤ lim then some (.str (TL.joinL a ys)) else none
  | .str a, .tup xs => (strsOf xs).bind fun ys => if (ys.map (·.length)).sum + ys.length * a.length ≤ lim then some (.str (TL.joinL a ys)) else none
  | _, _ => none
theorem strsOf_vals {K : PySem.W.Frag} {mg : Mg} {F : Hp} : ∀ {xs : List D} {vs : List V} {ys : List (List Nat)}, RpA K mg F vs xs → strsOf xs = some ys → vs = (ys.map SX.S).map V.str ∧ ∀ y ∈ ys, SOk y
  | _, _, _, .nil, h => by cases h; exact ⟨rfl, fun _ h => by cases h⟩
  | _, _, ys, .cons h t, e => by
    cases h with
    | str hs =>
      simp only [strsOf] at e
      rename_i s
      cases e2 : strsOf _ with
      | none => rw [e2] at e; cases e
      | some zs =>
        rw [e2] at e
        cases e
        obtain ⟨a, b⟩ := strsOf_vals t e2
        subst a
        exact ⟨rfl, fun y hy => by
          rcases List.mem_cons.mp hy with rfl | hy
          · exact hs
          · exact b y hy⟩
    | _ => simp [strsOf] at e
theorem join_mem {a : List Nat} : ∀ {ys : List (List Nat)} {c : Nat}, c ∈ TL.joinL a ys → c ∈ a ∨ ∃ y ∈ ys, c ∈ y
  | [], c, h => by simp [TL.joinL] at h
  | [p], c, h => by simp [TL.joinL] at h; exact .inr ⟨p, by simp, h⟩
  | p :: q :: r, c, h => by
    simp only [TL.joinL, List.mem_append] at h
    rcases h with h | h | h
    · exact .inr ⟨p, by simp, h⟩
    · exact .inl h
    · rcases join_mem h with h | ⟨y, hy, h⟩
      · exact .inl h
      · exact .inr ⟨y, List.mem_cons_of_mem _ hy, h⟩
theorem join_len {a : List Nat} : ∀ {ys : List (List Nat)}, (TL.joinL a ys).length ≤ (ys.map (·.length)).sum + ys.length * a.length
  | [] => by simp [TL.joinL]
  | [p] => by simp [TL.joinL]
  | p :: q :: r => by
    have := join_len (a := a) (ys := q :: r)
    simp only [TL.joinL, List.length_append, List.map_cons, List.sum_cons, List.length_cons, Nat.succ_mul] at this ⊢
    omega
theorem join_rp {K : PySem.W.Frag} {mg : Mg} {F : Hp} {a : List Nat} {ys : List (List Nat)} (ha : SOk a) (hy : ∀ y ∈ ys, SOk y) (hl : (ys.map (·.length)).sum + ys.length * a.length ≤ lim) : Rp K mg F (.str (Txt.join ⟨a.toArray⟩ (ys.map SX.S))) (.str (TL.joinL a ys)) := by
  have e : Txt.join ⟨a.toArray⟩ (ys.map SX.S) = SX.S (TL.joinL a ys) := SX.join_S a ys
  rw [e]
  refine .str ⟨fun c hc => ?_, Nat.le_trans join_len hl⟩
  rcases join_mem hc with h | ⟨y, hy', h⟩
  · exact ha.1 c h
  · exact (hy y hy').1 c h
theorem sum_S (ys : List (List Nat)) : ((ys.map SX.S).map (·.length)).sum = (ys.map (·.length)).sum := by
  rw [List.map_map]
  rfl
theorem ok_join : MtR X "str.join" (rM1 X.K X.mg bJoin) := by
  intro pins s σ H x xs v us Q I rx rs h
  obtain ⟨F, dx, y, dy, d, rfl, e, hx, hy, ho, k⟩ := h
  cases hx with
  | str ha =>
    cases hy with
    | lst hh hr =>
      simp only [bJoin] at ho
      cases e2 : strsOf _ with
      | none => rw [e2] at ho; cases ho
      | some ys =>
        rw [e2, Option.bind_some] at ho
        split at ho
        · rename_i hl
          cases ho
          obtain ⟨rfl, b⟩ := strsOf_vals hr e2
          exact mt_join pins s σ H _ _ v us Q I rx rs ⟨_, _, ys.map SX.S, rfl, rfl, .inl (SqL.of (e _ _ hh)), by rw [sum_S, List.length_map]; exact hl, k _ _ _ (Gw.refl e) (join_rp ha b hl)⟩
        · cases ho
    | tup hh hr =>
      simp only [bJoin] at ho
      cases e2 : strsOf _ with
      | none => rw [e2] at ho; cases ho
      | some ys =>
        rw [e2, Option.bind_some] at ho
        split at ho
        · rename_i hl
          cases ho
          obtain ⟨rfl, b⟩ := strsOf_vals hr e2
          exact mt_join pins s σ H _ _ v us Q I rx rs ⟨_, _, ys.map SX.S, rfl, rfl, .inr (SqT.same e hh), by rw [sum_S, List.length_map]; exact hl, k _ _ _ (Gw.refl e) (join_rp ha b hl)⟩
        · cases ho
    | _ => simp [bJoin] at ho
  | _ => simp [bJoin] at ho
theorem d_join (ho : DE X W m o f) (he : DE X W m a g) (hs : starEach [a] X.env = [(false, eval a X.env)] := by rfl) (hbase : attributeBase o "join" X.env (eval o X.env) = eval o X.env := by rfl) (hline : (apos.endLine == pos.line) = true := by rfl) :
    DE X W m (.Call (.Attribute o "join" apos) [a] [] pos) (eM1 bJoin f g) := d_m1 F.slot_str_join F.type_str_join ok_join ho he hs hbase hline
/-! count of one sign -/
def bCount : D → D → Option D
  | .str a, .str [c] => some (.int (a.count c))
  | _, _ => none
theorem cnt_is (c : Nat) : ∀ l : List Nat, cnt c l = ((l.count c : Nat) : Int)
  | [] => by rw [cnt_nil]; rfl
  | n :: r => by
    rw [cnt_cons, cnt_is c r, List.count_cons]
    by_cases h : n = c <;> simp [h] <;> omega
theorem ok_count : MtR X "str.count" (rM1 X.K X.mg bCount) := by
  intro pins s σ H x xs v us Q I rx rs h
  obtain ⟨F, dx, y, dy, d, rfl, e, hx, hy, ho, k⟩ := h
  unfold bCount at ho
  split at ho
  · cases ho
    cases hx
    cases hy
    refine mt_count pins s σ H _ _ v us Q I rx rs ⟨_, _, rfl, rfl, ?_⟩
    rw [show (⟨[_].toArray⟩ : Str) = ⟨#[_]⟩ from rfl, count_cnt, cnt_is]
    exact k _ _ _ (Gw.refl e) .int
  · cases ho
theorem d_count (ho : DE X W m o f) (he : DE X W m a g) (hs : starEach [a] X.env = [(false, eval a X.env)] := by rfl) (hbase : attributeBase o "count" X.env (eval o X.env) = eval o X.env := by rfl) (hline : (apos.endLine == pos.line) = true := by rfl) :
    DE X W m (.Call (.Attribute o "count" apos) [a] [] pos) (eM1 bCount f g) := d_m1 F.slot_str_count F.type_str_count ok_count ho he hs hbase hline
/-! upper, of ASCII -/
def bUpper : D → Option D
  | .str a => if a.all (· < 128) && decide (a.length ≤ 100000) then some (.str (a.map up1)) else none
  | _ => none
theorem up1_lt {c : Nat} (h : c < 128) : up1 c < 1114112 := by
  unfold up1
  split <;> omega
theorem ok_upper : MtR X "str.upper" (rM0 X.K X.mg bUpper) := by
  intro pins s σ H x xs v us Q I rx rs h
  obtain ⟨F, dx, d, rfl, e, hx, ho, k⟩ := h
  cases hx with
  | str ha =>
    simp only [bUpper] at ho
    split at ho
    · rename_i hc
      cases ho
      simp only [Bool.and_eq_true, decide_eq_true_eq] at hc
      refine mt_upper pins s σ H _ _ v us Q I rx rs ⟨_, rfl, rfl, Nat.le_trans hc.2 (by decide), ?_⟩
      have e1 : Txt.upper (SX.S _) = _ := SX.upper_S hc.1
      rw [e1]
      refine k _ _ _ (Gw.refl e) (.str ⟨fun c h => ?_, by rw [List.length_map]; exact ha.2⟩)
      obtain ⟨c0, h0, rfl⟩ := List.mem_map.mp h
      exact up1_lt (by simpa using List.all_eq_true.mp hc.1 c0 h0)
    · cases ho
  | _ => simp [bUpper] at ho
theorem d_upper (ho : DE X W m o f) (hbase : attributeBase o "upper" X.env (eval o X.env) = eval o X.env := by rfl) (hline : (apos.endLine == pos.line) = true := by rfl) :
    DE X W m (.Call (.Attribute o "upper" apos) [] [] pos) (eM0 bUpper f) := d_m0 F.slot_str_upper F.type_str_upper ok_upper ho hbase hline
end
end Wk
set_option Elab.async false
set_option linter.all false
set_option maxRecDepth 100000
namespace Wk
open PySem PySem.Spec PyProof.Rows L2

/-! ### sources: a list, a tuple, a text -/
inductive Src where
  | lst (a : Addr) | tup (a : Addr) | txt (s : List Nat) (t : Tok)
def Src.val : Src → Value
  | .lst a => .ref a
  | .tup a => .ref a
  | .txt s t => .str ⟨s.toArray⟩ t
def Src.cur (K : PySem.W.Frag) (xs : List V) (H : Hp) : Src → Prop
  | .lst a => SqL K H a xs
  | .tup a => SqT K H a xs
  | .txt s _ => xs = s.map fun c => V.str ⟨#[c]⟩
def Src.at_ (it : Addr) (i : Nat) (h : Heap) : Src → Prop
  | .lst a => h.IsListIter it a i
  | .tup a => h.IsTupleIter it a i
  | .txt s t => h.IsStrIter it (strIterType ⟨s.toArray⟩) ⟨s.toArray⟩ t i
def Src.far : Src → List Addr
  | .lst a => [a]
  | .tup a => [a]
  | .txt _ _ => []
theorem vals_back {xs : List V} {us : List Value} (r : Vals xs us) {i : Nat} {u : Value} (h : us[i]? = some u) : ∃ x, xs[i]? = some x ∧ RelV x u := by
  have hl := r.length
  have hi : i < xs.length := by rw [hl]; exact (List.getElem?_eq_some_iff.mp h).1
  obtain ⟨u', h', ru⟩ := Vals.get r (List.getElem?_eq_getElem hi)
  rw [h] at h'
  cases h'
  exact ⟨_, List.getElem?_eq_getElem hi, ru⟩
section
variable {X : Cx} {pins : List (Addr × Obj)} {σ : L2.St} {H : Hp} {s : Shared} {S : Src} {xs : List V} {it : Addr}
theorem Src.draws (I : Inv X pins σ H s) (hc : X.calm = true) (h : S.cur X.K xs H) (hn : it ∉ S.far) :
    ∃ (fp : List Addr) (Pr : Nat → Value → Prop) (St : Nat → Heap → Prop), Draws X.prog X.w X.A.in1 it fp xs.length Pr St ∧ it ∈ fp ∧ (∀ b ∈ fp, b = it ∨ b ∈ S.far) ∧ (∀ i, S.at_ it i s.heap → St i s.heap) ∧ (∀ i g, St i g → S.at_ it i g) ∧
      ∀ i u, Pr i u → ∃ x, xs[i]? = some x ∧ RelV x u := by
  have hh : X.A.in1.handled = none := I.ok.hd hc
  cases S with
  | lst a =>
    obtain ⟨its, rv, p, _⟩ := I.list h
    have hl := rv.length
    have Dr := Draws.list (prog := X.prog) (w := X.w) hh it a (fun z => hn (by simp [Src.far, z])) its.toArray
    rw [List.size_toArray, ← hl] at Dr
    exact ⟨_, _, _, Dr, by simp, fun b hb => by simpa [Src.far] using hb, fun i st => ⟨st, p.isList⟩, fun i g st => st.1, fun i u hu => vals_back rv (by simpa using hu)⟩
  | tup a =>
    obtain ⟨its, rv, p, _⟩ := I.tuple h
    have hl := rv.length
    have Dr := Draws.tuple (prog := X.prog) (w := X.w) hh it a (fun z => hn (by simp [Src.far, z])) its.toArray
    rw [List.size_toArray, ← hl] at Dr
    exact ⟨_, _, _, Dr, by simp, fun b hb => by simpa [Src.far] using hb, fun i st => ⟨st, p⟩, fun i g st => st.1, fun i u hu => vals_back rv (by simpa using hu)⟩
  | txt z t =>
    have h : xs = _ := h
    subst h
    have Dr := Draws.text (prog := X.prog) (w := X.w) hh it ⟨z.toArray⟩ t
    rw [show (⟨z.toArray⟩ : Str).cps.size = (z.map fun c => V.str ⟨#[c]⟩).length by simp] at Dr
    refine ⟨_, _, _, Dr, by simp, fun b hb => by simpa [Src.far] using hb, fun i st => st, fun i g st => st, fun i u hu => ?_⟩
    obtain ⟨c, t', hc', rfl⟩ := hu
    have hc2 : z[i]? = some c := by simpa using hc'
    exact ⟨.str ⟨#[c]⟩, by rw [List.getElem?_map, hc2]; rfl, ⟨t', rfl⟩⟩
theorem Src.begins (I : Inv X pins σ H s) (h : S.cur X.K xs H) :
    ∃ (o : Obj) (Hh : Heap → Prop), Begins S.val o Hh ∧ Hh s.heap ∧ (∀ g it, g.get? it = some o → S.at_ it 0 g) ∧ ∀ b ∈ S.far, b < s.heap.objs.size := by
  cases S with
  | lst a =>
    obtain ⟨its, rv, p, _⟩ := I.list h
    exact ⟨_, _, begins_list a its.toArray, p.isList, fun g it e => ⟨_, e, rfl, rfl⟩, fun b hb => by simp [Src.far] at hb; subst hb; exact p.lt⟩
  | tup a =>
    obtain ⟨its, rv, p, _⟩ := I.tuple h
    obtain ⟨o, ho, _⟩ := id p
    exact ⟨_, _, begins_tuple a its.toArray, p, fun g it e => ⟨_, e, rfl, rfl⟩, fun b hb => by simp [Src.far] at hb; subst hb; exact Heap.lt_size ho⟩
  | txt z t => exact ⟨_, _, begins_text ⟨z.toArray⟩ t, trivial, fun g it e => ⟨_, e, rfl, rfl⟩, fun b hb => by simp [Src.far] at hb⟩
theorem Src.keep {i : Nat} {h h' : Heap} (st : S.at_ it i h) (k : ∀ o, h.get? it = some o → h'.get? it = some o) : S.at_ it i h' := by
  cases S with
  | lst a => exact Heap.IsListIter.at st fun o e => k o e
  | tup a => exact Heap.IsTupleIter.at st fun o e => k o e
  | txt z t => exact let ⟨o, ho, r⟩ := st; ⟨o, k o ho, r⟩
theorem Src.obj {i : Nat} {h : Heap} (st : S.at_ it i h) : ∃ o, h.get? it = some o ∧ ∀ v, o.data ≠ .cell v := by
  cases S with
  | lst a => obtain ⟨o, ho, _, hd⟩ := st; exact ⟨o, ho, fun v q => by rw [hd] at q; cases q⟩
  | tup a => obtain ⟨o, ho, _, hd⟩ := st; exact ⟨o, ho, fun v q => by rw [hd] at q; cases q⟩
  | txt z t => obtain ⟨o, ho, _, hd⟩ := st; exact ⟨o, ho, fun v q => by rw [hd] at q; cases q⟩
end

/-! ### enumerate of any of them -/
def Itn (cur : Hp → Prop) (xs : List V) : It :=
  ⟨fun i H => cur H ∧ i < xs.length, fun i H v H' => ∃ T x, v = .ref T ∧ H T = none ∧ H' = upd H T (.tup [.int (i : Nat), x]) ∧ xs[i]? = some x, fun i H => cur H ∧ i = xs.length⟩
theorem turn_enumA {P : Program} {w : World} {K : PySem.W.Frag} {elts : List Expr} {kk : Nat} {tpos : Pos} {cur : Hp → Prop} {S : Src} {xs : List V} (hcur : ∀ H, cur H → S.cur K xs H) (e it : Addr) :
    Turn P w K (.Tuple elts kk tpos) (Itn cur xs) [e, it] e (fun i h => (∃ old, IsEnum h e it ((i : Nat) : Int) old) ∧ S.at_ it i h ∧ e ≠ it ∧ e ∉ S.far ∧ it ∉ S.far) where
  mem := by simp
  obj := fun i h st b hb => by
    obtain ⟨⟨old, he⟩, hi, _⟩ := st
    rcases (by simpa using hb : b = e ∨ b = it) with z | z
    · rw [z]; exact ⟨_, he, fun v q => nomatch q⟩
    · rw [z]; exact Src.obj hi
  keep := fun i h h' st k => let ⟨⟨old, he⟩, hi, r⟩ := st; ⟨⟨old, k e (by simp) _ he⟩, Src.keep hi fun o q => k it (by simp) o q, r⟩
  item := by
    intro X hP hw hK hc i pins s σ H E I hf st hg
    subst hP hw hK
    obtain ⟨⟨old, he⟩, hit, hne, hef, hif⟩ := st
    obtain ⟨fp, Pr, St, Dr, _, hfp, up, dn, val⟩ := Src.draws I hc (hcur _ hg.1) hif
    have hel : e < s.heap.objs.size := Heap.lt_size he
    have hil : it < s.heap.objs.size := let ⟨_, q, _⟩ := Src.obj hit; Heap.lt_size q
    refine wpAny_pyNext_enum_itemD Dr he (up i hit) hg.2 hne (fun z => by rcases hfp e z with z | z; exact hne z; exact hef z) fun u h' tk hu ho hs' hT hsz hk => ?_
    obtain ⟨x, hx, ru⟩ := val i u hu
    refine ⟨_, rfl, wpAny_letOwnedTupleGo_enum (s := { s with heap := h', toks := tk + 1 }) ho fun h'' he' sb => ?_⟩
    have hT2 : h''.get? s.heap.objs.size = some { cls := .type "tuple", data := .seq #[.int i tk, u] } := (sb.2 _ (Nat.ne_of_gt hel)).trans hT
    have I1 : Inv X pins σ (upd H s.heap.objs.size (.tup [.int (i : Nat), x])) { s with heap := h'', toks := tk + 1 } :=
      I.turnedNew (ch := [e, it]) (fun b o hb q => (sb.2 b (fun z => hb (by simp [z]))).trans (hk b o (fun z => hb (by simp [z])) (fun z => hb (by simp [z])) q)) hf (Nat.le_refl _)
        ⟨by show 2 ≤ sizeLine; decide, [.int i tk, u], .cons ⟨_, rfl⟩ (.cons ru .nil), ⟨_, hT2, rfl, _, rfl⟩⟩
    refine ⟨.ref s.heap.objs.size, _, I1, rfl, ⟨_, x, rfl, I.hok.fresh (Nat.le_refl _), rfl, hx⟩, ⟨⟨u, ?_⟩, Src.keep (dn _ _ hs') fun o q => (sb.2 it (Ne.symm hne)).trans q, hne, hef, hif⟩, fun b hb => ?_⟩
    · have e1 : ((i + 1 : Nat) : Int) = (i : Int) + 1 := by omega
      rw [e1]; exact he'
    · have hb' : b < s.heap.objs.size := by
        rcases (by simpa using hb : b = e ∨ b = it) with z | z
        · rw [z]; exact hel
        · rw [z]; exact hil
      rw [upd_ne (Nat.ne_of_lt hb')]
      exact (hf b hb).1
  done := by
    intro X hP hw hK hc i pins s σ H E I hf st hg
    subst hP hw hK
    obtain ⟨⟨old, he⟩, hit, hne, hef, hif⟩ := st
    obtain ⟨hcu, rfl⟩ := hg
    obtain ⟨fp, Pr, St, Dr, _, hfp, up, dn, val⟩ := Src.draws I hc (hcur _ hcu) hif
    obtain ⟨f0, f1, f2, f3, f4, f5⟩ := hf it (by simp)
    exact wpAny_pyNext_enum_endD Dr he (up _ hit) fun h' eb => ⟨rfl, I.turned (t' := s.toks) (fun b o hb q => eb b o hb q) f0 f1 f3 f4 f5⟩
  self := fun A i s Q E st h => let ⟨⟨_, he⟩, _⟩ := st; wpAny_pyIter_enum he h
set_option maxHeartbeats 1000000 in
theorem enum_new {v : Value} {o : Obj} {H : Heap → Prop} (B : Begins v o H) : Meets (Builtin.«enumerate.__new__» ⟨[.type "enumerate", v], []⟩) (fun _ R s => H s.heap ∧
    R (.ok (.ret (.ref (s.heap.push o).objs.size))) { s with heap := (s.heap.push o).push { cls := .type "enumerate", data := .fields #[.none, .bool false, .ref s.heap.objs.size, rawInt 0, .none, .none] } }) :=
  .of_wp fun prog w A R s h => by
    obtain ⟨hp, g, d, tk, os⟩ := s; obtain ⟨h1, h⟩ := h
    have hsub := sub_enumerate
    have q1 : ∀ {A' : Around} {E : Value → Shared → Prop} {Q : Value → Shared → Prop}, Q (.ref hp.objs.size) ⟨hp.push o, g, d, tk, os⟩ → wpAny (model prog w) A' (pyIter v) Q E ⟨hp, g, d, tk, os⟩ :=
      fun q => B.iter prog w _ _ ⟨hp, g, d, tk, os⟩ _ h1 q
    wp_walk using q1
    refine wpAny_stack_any fun st => wpAny_pure ?_
    split
    · rename_i c _ _ _ _ _
      cases (c == Value.type "enumerate") <;> (wp_walk using q1; exact ⟨_, rfl, h⟩)
    · wp_walk using q1
      exact ⟨_, rfl, h⟩
theorem call_enum {prog : Program} {w : World} {A : Around} {E : Value → Shared → Prop} {s : Shared} {v : Value} {o : Obj} {H : Heap → Prop} {Q : Value → Shared → Prop} (B : Begins v o H) (h1 : H s.heap)
    (h : ∀ h', IsEnum h' (s.heap.objs.size + 1) s.heap.objs.size 0 .none → h'.get? s.heap.objs.size = some o → (∀ b o, s.heap.get? b = some o → h'.get? b = some o) → Q (.ref (s.heap.objs.size + 1)) { s with heap := h' }) :
    wpAny (model prog w) A (call (.type "enumerate") [v]) Q E s := by
  refine callType_new F.called_enumerate (by decide) (F.typeCall_enumerate_1 _) (F.newCall_enumerate_1 _) (fun obj => F.args_object_init_2 obj _) F.entry_enumerate_new (enum_new B) ⟨h1, ?_⟩
  have hz : (s.heap.push o).objs.size = s.heap.objs.size + 1 := Heap.size_push ..
  show _ ∧ _
  rw [hz]
  have he : IsEnum ((s.heap.push o).push { cls := .type "enumerate", data := .fields #[.none, .bool false, .ref s.heap.objs.size, rawInt 0, .none, .none] }) (s.heap.objs.size + 1) s.heap.objs.size 0 .none := by
    have := Heap.get?_push_size (s.heap.push o) (o := { cls := .type "enumerate", data := .fields #[.none, .bool false, .ref s.heap.objs.size, rawInt 0, .none, .none] }) rfl
    rw [hz] at this; exact this
  exact ⟨⟨_, he, rfl⟩, h _ he (Heap.get?_push_of_some _ (Heap.get?_push_size _ B.free)) fun b o x => Heap.get?_push_of_some _ (Heap.get?_push_of_some _ x)⟩
/-- the data of a source -/
def SrcI (K : PySem.W.Frag) (cur : Hp → Prop) (x : V) (xs : List V) : Prop := (∃ a, x = .ref a ∧ ∀ H, cur H → SqL K H a xs) ∨ (∃ a, x = .ref a ∧ ∀ H, cur H → SqT K H a xs) ∨ ∃ z : List Nat, x = .str ⟨z.toArray⟩ ∧ xs = z.map fun c => V.str ⟨#[c]⟩
theorem SrcI.src {K : PySem.W.Frag} {cur : Hp → Prop} {x : V} {xs : List V} {u : Value} (h : SrcI K cur x xs) (r : RelV x u) : ∃ S : Src, S.val = u ∧ ∀ H, cur H → S.cur K xs H := by
  rcases h with ⟨a, rfl, h⟩ | ⟨a, rfl, h⟩ | ⟨z, rfl, h⟩
  · cases r
    exact ⟨.lst a, rfl, h⟩
  · cases r
    exact ⟨.tup a, rfl, h⟩
  · obtain ⟨t, rfl⟩ := r
    exact ⟨.txt z t, rfl, fun _ _ => h⟩
def iEnumA (K : PySem.W.Frag) (ta : TA) : TI := fun σ H R => ta σ H fun vs H1 => ∃ x xs cur, vs = [x] ∧ SrcI K cur x xs ∧ cur H1 ∧ R (Itn cur xs) H1
theorem pi_enumA {X : Cx} {e : Expr} {ta : TA} {p pos tpos : Pos} {elts : List Expr} {kk : Nat} (hg : Gl X "enumerate") (hm : X.mg "enumerate" = none) (ha : PA X [e] ta) (hs : starEach [e] X.env = [(false, eval e X.env)] := by rfl) :
    PI X (.Tuple elts kk tpos) (.Call (.Name "enumerate" p) [e] [] pos) (iEnumA X.K ta) := by
  refine ⟨fun pins s σ H R I h => Call_ (ld_blt I hg hm boot_enumerate (PyProof.Rows.callWith_type1 (thn (ha.run pos pins s σ H _ I h) fun us s1 ⟨vs, H1, I1, r1, x, xs, cur, ex, hsrc, hcu, q⟩ => ?_) hs rfl))⟩
  subst ex
  obtain ⟨u, rfl, ru⟩ := vals1 r1
  obtain ⟨S, rfl, hS⟩ := hsrc.src ru
  obtain ⟨o, Hh, B, hh, h0, hfar⟩ := Src.begins I1 (hS _ hcu)
  refine call_enum B hh fun h' he hit hk => wpAny_pyIter_enum he ?_
  have I2 : Inv X pins σ H1 { s1 with heap := h' } := I1.kept (t' := s1.toks) hk
  refine ⟨s1.heap.objs.size + 1, [s1.heap.objs.size + 1, s1.heap.objs.size], _, _, H1, rfl, I2, turn_enumA hS (s1.heap.objs.size + 1) s1.heap.objs.size, ⟨⟨.none, he⟩, h0 _ _ hit, Nat.succ_ne_self _, fun z => ?_, fun z => ?_⟩, fun b hb => ?_, q⟩
  · exact absurd (hfar _ z) (by show ¬ (s1.heap.objs.size + 1 < s1.heap.objs.size); omega)
  · exact absurd (hfar _ z) (Nat.lt_irrefl _)
  · have hle : s1.heap.objs.size ≤ b := by
      rcases (by simpa using hb : b = s1.heap.objs.size + 1 ∨ b = s1.heap.objs.size) with z | z
      · rw [z]; exact Nat.le_add_right _ _
      · rw [z]; exact Nat.le_refl _
    exact I1.fpOk hle (I1.hok.fresh hle)
/-- any source itself -/
def iAnyV (K : PySem.W.Frag) (te : TE) : TI := fun σ H R => te σ H fun x H1 => (∃ a, x = .ref a ∧ (∃ xs, SqL K H1 a xs) ∧ R (Itl K a) H1) ∨ (∃ a, x = .ref a ∧ (∃ xs, SqT K H1 a xs) ∧ R (Itt K a) H1) ∨ ∃ z, x = .str z ∧ R (Its z) H1
theorem pi_any {X : Cx} {tg e : Expr} {te : TE} (he : PE X e te) : PI X tg e (iAnyV X.K te) := by
  refine ⟨fun pins s σ H R I h => thn (he.run pins s σ H _ I h) fun v s1 ⟨x, H1, I1, r1, q1⟩ => ?_⟩
  have fp : ∀ b ∈ [s1.heap.objs.size], FpOk X pins H1 b := fun b hb => by
    rw [show b = s1.heap.objs.size by simpa using hb]
    exact I1.fpOk (Nat.le_refl _) (I1.hok.fresh (Nat.le_refl _))
  rcases q1 with ⟨a, rfl, ⟨xs, hq⟩, q⟩ | ⟨a, rfl, ⟨xs, hq⟩, q⟩ | ⟨z, rfl, q⟩
  · cases r1
    obtain ⟨its, rv, p, _⟩ := I1.list hq
    exact wpAny_pyIter_list p.isList ⟨s1.heap.objs.size, [s1.heap.objs.size], _, _, H1, rfl, I1.kept (t' := s1.toks) fun b o e => Heap.get?_push_of_some _ e, turn_list a _, ⟨_, Heap.get?_push_size _ rfl, rfl, rfl⟩, fp, q⟩
  · cases r1
    obtain ⟨its, rv, p, _⟩ := I1.tuple hq
    exact wpAny_pyIter_tuple (show s1.heap.IsTuple a its.toArray from p) ⟨s1.heap.objs.size, [s1.heap.objs.size], _, _, H1, rfl, I1.kept (t' := s1.toks) fun b o e => Heap.get?_push_of_some _ e, turn_tuple a _, ⟨_, Heap.get?_push_size _ rfl, rfl, rfl⟩, fp, q⟩
  · obtain ⟨t, rfl⟩ := r1
    cases ha : z.cps.all (· < 128)
    · exact wpAny_pyIter_wide ha (pi_one (tk := s1.toks) I1 _ (turn_str _ z t "str_iterator" (.inr rfl)) ⟨_, Heap.get?_push_size _ rfl, rfl, rfl⟩ q)
    · exact wpAny_pyIter_ascii ha (pi_one (tk := s1.toks) I1 _ (turn_str _ z t "str_ascii_iterator" (.inl rfl)) ⟨_, Heap.get?_push_size _ rfl, rfl, rfl⟩ q)
/-! ### the same over data -/
def anyOf : D → Option (List D)
  | .tup xs => some xs
  | .lst xs => some xs
  | .str s => some (s.map fun c => .str [c])
  | _ => none
def pairsD (i : Nat) : List D → List D
  | [] => []
  | d :: r => .tup [.int i, d] :: pairsD (i + 1) r
theorem pairsD_len : ∀ (ds : List D) (i : Nat), (pairsD i ds).length = ds.length
  | [], _ => rfl
  | _ :: r, i => congrArg Nat.succ (pairsD_len r (i + 1))
theorem pairsD_get : ∀ {ds : List D} {i j : Nat} {d : D}, ds[j]? = some d → (pairsD i ds)[j]? = some (.tup [.int ((i + j : Nat) : Int), d])
  | [], _, _, _, h => by simp at h
  | d :: r, i, 0, _, h => by simp at h; subst h; rfl
  | d :: r, i, j + 1, _, h => by
    have := pairsD_get (i := i + 1) (j := j) (ds := r) (by simpa using h)
    rw [show i + (j + 1) = i + 1 + j by omega]
    simpa [pairsD] using this
def enD : List D → Option (List D)
  | [d] => (anyOf d).map (pairsD 0)
  | _ => none
section
variable {K : PySem.W.Frag} {mg : Mg} {F : Hp}
/-- what an iterable value is, in a heap that is known -/
theorem src_of {x : V} {d : D} {ds : List D} (r : Rp K mg F x d) (h : anyOf d = some ds) : ∃ xs, RpA K mg F xs ds ∧ SrcI K (Same F) x xs := by
  cases r with
  | tup ha ra => cases h; exact ⟨_, ra, .inr (.inl ⟨_, rfl, fun H e => SqT.same e ha⟩)⟩
  | lst ha ra => cases h; exact ⟨_, ra, .inl ⟨_, rfl, fun H e => SqL.of (e _ _ ha)⟩⟩
  | str hs => cases h; exact ⟨_, strs_rp hs fun _ h => h, .inr (.inr ⟨_, rfl, rfl⟩)⟩
  | _ => simp [anyOf] at h
theorem wlk_en {xs : List V} {ds : List D} (r : RpA K mg F xs ds) : Wlk K mg (Itn (Same F) xs) F (pairsD 0 ds) := by
  have hl := r.length
  refine ⟨fun i F2 H hi e e2 => ⟨e.trans e2, by rw [pairsD_len] at hi; omega⟩, fun F2 H e e2 => ⟨e.trans e2, by rw [pairsD_len]; omega⟩, fun i F2 H x H' hi e e2 y => ?_⟩
  obtain ⟨T, z, rfl, hT, rfl, hz⟩ := y
  obtain ⟨d, hd, rd⟩ := r.getV hz
  obtain ⟨g, rt⟩ := newT (mg := mg) (K := K) e2 hT (.cons .int (.cons (rd.same e) .nil))
  exact ⟨_, _, by have := pairsD_get (i := 0) hd; simpa using this, g, rt⟩
end
section
variable {X : Cx} {W : WX} {m : Bool} {tg a b c e : Expr} {f g h : M D} {fs : M (List D)} {pos p tpos : Pos} {elts : List Expr} {kk : Nat}
theorem di_any (ha : DE X W m a f) : DI X W m tg a (iOf anyOf f) :=
  PI.imp (pi_any ha) fun σ H R ⟨F, L, ρ, er, p⟩ => tI_bnd er p fun x dx F1 H1 L1 ρ1 x1 er1 rx p1 => by
    obtain ⟨ds, hd, k⟩ := liftI er1 p1
    cases rx with
    | tup ha ra => cases hd; exact .inr (.inl ⟨_, rfl, ⟨_, SqT.same er1.fh ha⟩, k _ _ _ (Gw.refl er1.fh) (wlk_tup ha ra)⟩)
    | lst ha ra => cases hd; exact .inl ⟨_, rfl, ⟨_, SqL.of (er1.fh _ _ ha)⟩, k _ _ _ (Gw.refl er1.fh) (wlk_lst ha ra)⟩
    | str hs => cases hd; exact .inr (.inr ⟨_, rfl, k _ _ _ (Gw.refl er1.fh) (wlk_str hs)⟩)
    | _ => cases hd
theorem di_enum (hg : Gl X "enumerate") (hm : X.mg "enumerate" = none) (ha : DAs X W m [a] fs) (hs : starEach [a] X.env = [(false, eval a X.env)] := by rfl) : DI X W m (.Tuple elts kk tpos) (.Call (.Name "enumerate" p) [a] [] pos) (iArgs enD fs) :=
  PI.imp (pi_enumA hg hm ha hs) fun σ H R ⟨F, L, ρ, er, p⟩ => tI_bnd er p fun vs ds F1 H1 L1 ρ1 x1 er1 rx p1 => by
    obtain ⟨xs, hd, k⟩ := liftI er1 p1
    unfold enD at hd
    split at hd
    · cases rx with
      | cons r t =>
        cases t
        cases e2 : anyOf _ with
        | none => rw [e2] at hd; cases hd
        | some zs =>
          rw [e2] at hd
          cases hd
          obtain ⟨us, ru, hsrc⟩ := src_of r e2
          exact ⟨_, us, Same F1, rfl, hsrc, er1.fh, k _ _ _ (Gw.refl er1.fh) (wlk_en ru)⟩
    · cases hd
end
end Wk
set_option Elab.async false
set_option linter.all false
set_option maxRecDepth 100000
namespace Wk
open PySem PySem.Spec PyProof.Rows L2

/-! ### dicts with keys that are ints and texts -/
def isKey : D → Bool
  | .int _ => true
  | .str _ => true
  | _ => false
def sameK : D → D → Bool
  | .int i, .int j => i == j
  | .str s, .str t => s == t
  | _, _ => false
def valD : List (D × D) → D → Option D
  | [], _ => none
  | kv :: r, k => if sameK kv.1 k then some kv.2 else valD r k
def putD (ds : List (D × D)) (k d : D) : List (D × D) := if ds.any fun kv => sameK kv.1 k then ds.map fun kv => if sameK kv.1 k then (kv.1, d) else kv else ds ++ [(k, d)]
def keysOk (ds : List (D × D)) : Bool := ds.all fun kv => isKey kv.1
section
variable {K : PySem.W.Frag} {mg : Mg} {F : Hp}
theorem key_of_rp {v : V} {d : D} (r : Rp K mg F v d) (h : isKey d = true) : ∃ k : Key, v = kV k ∧ ((∃ i, k = .inl i ∧ d = .int i) ∨ ∃ s : List Nat, k = .inr ⟨s.toArray⟩ ∧ d = .str s) := by
  cases r with
  | int => exact ⟨.inl _, rfl, .inl ⟨_, rfl, rfl⟩⟩
  | str hs => exact ⟨.inr _, rfl, .inr ⟨_, rfl, rfl⟩⟩
  | _ => simp [isKey] at h
theorem sameK_iff {k k' : Key} {d d' : D} (r : Rp K mg F (kV k) d) (h : isKey d = true) (r' : Rp K mg F (kV k') d') (h' : isKey d' = true) : sameK d d' = decide (k = k') := by
  obtain ⟨k1, e, hd⟩ := key_of_rp r h
  obtain ⟨k2, e', hd'⟩ := key_of_rp r' h'
  have e1 := kV_inj e
  have e2 := kV_inj e'
  subst e1 e2
  rcases hd with ⟨i, rfl, rfl⟩ | ⟨s, rfl, rfl⟩ <;> rcases hd' with ⟨j, rfl, rfl⟩ | ⟨t, rfl, rfl⟩
  · rw [Bool.eq_iff_iff]
    simp [sameK]
  · simp [sameK]
  · simp [sameK]
  · rw [Bool.eq_iff_iff]
    simp [sameK]
theorem valD_rp : ∀ {kvs : List (Key × V)} {ds : List (D × D)} {k : Key} {dk d : D}, RpK K mg F kvs ds → keysOk ds = true → Rp K mg F (kV k) dk → isKey dk = true → valD ds dk = some d → ∃ v, valV kvs k = some v ∧ Rp K mg F v d
  | _, _, _, _, _, .nil, _, _, _, h => by cases h
  | _, _, k, dk, d, .cons (k := k0) (v := v0) (dk := dk0) (d := d0) hk hv t, ho, r, hi, h => by
    simp only [keysOk, List.all_cons, Bool.and_eq_true] at ho
    have e := sameK_iff hk ho.1 r hi
    unfold valD at h
    by_cases hkk : k0 = k
    · rw [if_pos (by rw [e]; simpa using hkk)] at h
      cases h
      exact ⟨v0, valV_pos hkk, hv⟩
    · rw [if_neg (by rw [e]; simpa using hkk)] at h
      obtain ⟨v, hv', rv⟩ := valD_rp t ho.2 r hi h
      exact ⟨v, by rw [valV_neg hkk]; exact hv', rv⟩
theorem valD_none : ∀ {kvs : List (Key × V)} {ds : List (D × D)} {k : Key} {dk : D}, RpK K mg F kvs ds → keysOk ds = true → Rp K mg F (kV k) dk → isKey dk = true → valD ds dk = none → valV kvs k = none
  | _, _, _, _, .nil, _, _, _, _ => rfl
  | _, _, k, dk, .cons (k := k0) (v := v0) (dk := dk0) (d := d0) hk hv t, ho, r, hi, h => by
    simp only [keysOk, List.all_cons, Bool.and_eq_true] at ho
    have e := sameK_iff hk ho.1 r hi
    unfold valD at h
    by_cases hkk : k0 = k
    · rw [if_pos (by rw [e]; simpa using hkk)] at h
      cases h
    · rw [if_neg (by rw [e]; simpa using hkk)] at h
      rw [valV_neg hkk]
      exact valD_none t ho.2 r hi h
theorem RpK.map {k : Key} {dk : D} {v : V} {d : D} : ∀ {kvs : List (Key × V)} {ds : List (D × D)}, RpK K mg F kvs ds → keysOk ds = true → Rp K mg F (kV k) dk → isKey dk = true → Rp K mg F v d →
    RpK K mg F (kvs.map fun kv => if kv.1 = k then (kv.1, v) else kv) (ds.map fun kv => if sameK kv.1 dk then (kv.1, d) else kv) ∧ (ds.any fun kv => sameK kv.1 dk) = kvs.any fun kv => decide (kv.1 = k)
  | _, _, .nil, _, _, _, _ => ⟨.nil, rfl⟩
  | _, _, .cons (k := k0) (v := v0) (dk := dk0) (d := d0) hk hv t, ho, r, hi, rv => by
    simp only [keysOk, List.all_cons, Bool.and_eq_true] at ho
    have e := sameK_iff hk ho.1 r hi
    obtain ⟨a, b⟩ := RpK.map t ho.2 r hi rv
    refine ⟨?_, by simp only [List.any_cons, b, e]⟩
    simp only [List.map_cons]
    by_cases hkk : k0 = k
    · rw [if_pos hkk, if_pos (by rw [e]; simpa using hkk)]
      exact .cons hk rv a
    · rw [if_neg hkk, if_neg (by rw [e]; simpa using hkk)]
      exact .cons hk hv a
theorem RpK.append : ∀ {kvs : List (Key × V)} {ds : List (D × D)} {kvs' : List (Key × V)} {ds' : List (D × D)}, RpK K mg F kvs ds → RpK K mg F kvs' ds' → RpK K mg F (kvs ++ kvs') (ds ++ ds')
  | _, _, _, _, .nil, r => r
  | _, _, _, _, .cons hk hv t, r => .cons hk hv (t.append r)
theorem RpK.put {kvs : List (Key × V)} {ds : List (D × D)} {k : Key} {dk : D} {v : V} {d : D} (t : RpK K mg F kvs ds) (ho : keysOk ds = true) (r : Rp K mg F (kV k) dk) (hi : isKey dk = true) (rv : Rp K mg F v d) :
    RpK K mg F (putK kvs k v) (putD ds dk d) := by
  obtain ⟨a, b⟩ := t.map ho r hi rv
  unfold putK putD
  rw [b]
  split
  · exact a
  · exact t.append (.cons r rv .nil)
theorem keysOk_put {ds : List (D × D)} {dk d : D} (ho : keysOk ds = true) (hi : isKey dk = true) : keysOk (putD ds dk d) = true := by
  unfold putD
  split
  · unfold keysOk at *
    rw [List.all_map]
    rw [List.all_eq_true] at *
    intro x hx
    have := ho x hx
    simp only [Function.comp]
    split <;> exact this
  · unfold keysOk at *
    simp [ho, hi]
theorem RpK.length : ∀ {kvs : List (Key × V)} {ds : List (D × D)}, RpK K mg F kvs ds → kvs.length = ds.length
  | _, _, .nil => rfl
  | _, _, .cons _ _ t => congrArg Nat.succ t.length
end
def mergeD (ds more : List (D × D)) : List (D × D) := more.foldl (fun acc kv => putD acc kv.1 kv.2) ds
inductive RpPs (K : PySem.W.Frag) (mg : Mg) (F : Hp) : List (V × V) → List (D × D) → Prop
  | nil : RpPs K mg F [] []
  | cons {x y : V} {dx dy : D} {ps : List (V × V)} {ds : List (D × D)} (hx : Rp K mg F x dx) (hy : Rp K mg F y dy) (t : RpPs K mg F ps ds) : RpPs K mg F ((x, y) :: ps) ((dx, dy) :: ds)
abbrev RP (K : PySem.W.Frag) (mg : Mg) : Hp → List (V × V) → List (D × D) → Prop := fun F ps ds => RpPs K mg F ps ds
theorem RpPs.merge {K : PySem.W.Frag} {mg : Mg} {F : Hp} : ∀ {ps : List (V × V)} {more ds : List (D × D)} {kvs : List (Key × V)}, RpPs K mg F ps more → keysOk more = true → RpK K mg F kvs ds → keysOk ds = true →
    ∃ kps : List (Key × V), ps = kps.map (fun kv => (kV kv.1, kv.2)) ∧ kps.length = more.length ∧ RpK K mg F (mergeK kvs kps) (mergeD ds more) ∧ keysOk (mergeD ds more) = true
  | _, _, _, _, .nil, _, t, ho => ⟨[], rfl, rfl, t, ho⟩
  | _, _, _, _, .cons (dx := dx) (dy := dy) hx hy tt, hm, t, ho => by
    simp only [keysOk, List.all_cons, Bool.and_eq_true] at hm
    obtain ⟨k, rfl, _⟩ := key_of_rp hx hm.1
    obtain ⟨kps, e1, e2, a, b⟩ := RpPs.merge tt hm.2 (t.put ho hx hm.1 hy) (keysOk_put ho hm.1)
    exact ⟨(k, _) :: kps, by rw [e1]; rfl, by rw [List.length_cons, List.length_cons, e2], a, b⟩
def ePr : List (M D × M D) → M (List (D × D))
  | [] => ret []
  | (k, v) :: r => bnd k fun a => bnd v fun b => bnd (ePr r) fun t => ret ((a, b) :: t)
abbrev DPs (X : Cx) (W : WX) (m : Bool) (pos : Pos) (keys : List (Option Expr)) (values : List Expr) (prs : List (M D × M D)) : Prop :=
  PPs X pos keys values (prs.map fun p => (tG (Rp X.K X.mg) X.K X.mg W m p.1, tG (Rp X.K X.mg) X.K X.mg W m p.2))
/-- {k: v, ..} -/
def eDic (prs : List (M D × M D)) : M D := bnd (ePr prs) fun ds => lift (if keysOk ds && decide (ds.length ≤ 15) then some (.dic (mergeD [] ds)) else none)
def dixD : D → D → Option D
  | .dic ds, k => if keysOk ds && isKey k then valD ds k else none
  | _, _ => none
/-- a table of the module -/
def tabD (T : List (List Nat × D)) : D → Option D
  | .str z => (T.find? fun p => p.1 == z).map (·.2)
  | _ => none
def eTab (T : List (List Nat × D)) (g : M D) : M D := bnd g fun k => lift (tabD T k)
section
variable {X : Cx} {W : WX} {m : Bool} {a b c e : Expr} {f g h : M D} {pos p : Pos} {kx vx : Expr} {ks : List (Option Expr)} {vs : List Expr} {prs : List (M D × M D)}
theorem dps_nil : DPs X W m pos [] [] [] := pps_nil
theorem dps_cons (hk : DE X W m kx f) (hv : DE X W m vx g) (hr : DPs X W m pos ks vs prs) : DPs X W m pos (some kx :: ks) (vx :: vs) ((f, g) :: prs) := pps_cons hk hv hr
theorem prs_walk {K : PySem.W.Frag} {mg : Mg} {σ : L2.St} : ∀ {prs : List (M D × M D)} {H : Hp} {Q : List (V × V) → Hp → Prop}, tG (RP K mg) K mg W m (ePr prs) σ H Q →
    tPairs (prs.map fun p => (tG (Rp K mg) K mg W m p.1, tG (Rp K mg) K mg W m p.2)) σ H Q
  | [], H, Q, ⟨F, L, ρ, er, p⟩ => ret_post er p _ _ _ (Gw.refl er.fh) .nil
  | (k, v) :: r, H, Q, ⟨F, L, ρ, er, p⟩ => tG_bnd er p fun x dx F1 H1 L1 ρ1 x1 er1 rx p1 => tG_bnd er1 p1 fun y dy F2 H2 L2 ρ2 x2 er2 ry p2 =>
      prs_walk (tG_bnd er2 p2 fun ps ds F3 H3 L3 ρ3 x3 er3 rs p3 => ret_post er3 p3 _ _ _ (Gw.refl er3.fh) (.cons ((rx.same x2.ex.ff).same x3.ex.ff) (ry.same x3.ex.ff) rs))
theorem d_dic (h : DPs X W m pos ks vs prs) (hall : ks.all (·.isSome) = true) (hl : ks.length = vs.length) (h0 : ks ≠ []) (h15 : ks.length ≤ 15) : DE X W m (.Dict ks vs pos) (eDic prs) :=
  PE.imp (pe_disp h hall hl h0 h15) fun σ H Q ⟨F, L, ρ, er, q⟩ => fun p hp => by
    have hpF : F p = none := er.fh.free hp
    have hpL : p ∉ L := fun z => by
      obtain ⟨_, o, ho⟩ := er.rs.out _ z
      rw [hp] at ho; cases ho
    have er0 := er.other (o := .dK []) hpF hpL
    have back : ∀ {m' F' H' L' ρ'}, Exm m' F (upd H p (.dK [])) L ρ F' H' L' ρ' → Exm m' F H L ρ F' H' L' ρ' := fun {m' F' H' L' ρ'} x => by
      have old : ∀ a o, H a = some o → (upd H p (.dK [])) a = some o := fun a o h => by rw [upd_ne (ne_of_none h hp)]; exact h
      have free : ∀ a, (upd H p (.dK [])) a = none → H a = none := fun a h => by
        cases q : H a with
        | none => rfl
        | some o => rw [old a o q] at h; cases h
      exact ⟨⟨x.ex.ff, fun a o h n => x.ex.keep a o (old a o h) n, fun a o h => (x.ex.fdom a o h).imp id (Or.imp id (free a)), fun a h => (x.ex.ldom a h).imp id (free a)⟩, x.pk, fun hm => by
        obtain ⟨a1, a2, a3⟩ := x.pure hm
        exact ⟨a1, a2, fun a o h => a3 a o (old a o h)⟩⟩
    refine prs_walk ⟨F, L, ρ, er0, ?_⟩
    unfold eDic bnd at q
    cases es : ePr prs ρ with
    | stuck => rw [es] at q; exact q
    | err x ρ' => rw [es] at q; exact fun c dx F' H' L' x' er' xr => q c dx F' H' L' (back x') er' xr
    | ok ds ρ' =>
      rw [es] at q
      intro ps F' H' L' x' er' rs
      have q : Post (Rp X.K X.mg) X.K X.mg W m F H L σ ρ Q (lift (if keysOk ds && decide (ds.length ≤ 15) then some (.dic (mergeD [] ds)) else none) ρ') := q
      have h2 : H' p = some (.dK []) := x'.ex.keep p _ upd_same hpL
      split at q
      · rename_i hc
        simp only [Bool.and_eq_true, decide_eq_true_eq] at hc
        obtain ⟨kps, e1, e2, r, _⟩ := rs.merge hc.1 (kvs := []) (ds := []) .nil rfl
        refine ⟨h2, kps, e1, by rw [e2]; exact hc.2, ?_⟩
        have hpF' : F' p = none := by
          cases qf : F' p with
          | none => rfl
          | some o =>
            rcases x'.ex.fdom p o qf with z | z | z
            · rw [hpF] at z; cases z
            · exact absurd z hpL
            · rw [upd_same] at z; cases z
        have hpL' : p ∉ L' := fun z => by
          rcases x'.ex.ldom p z with z | z
          · exact hpL z
          · rw [upd_same] at z; cases z
        have ff : Same F' (upd F' p (.dK (mergeK [] kps))) := fun c u h => by rw [upd_ne (ne_of_none h hpF')]; exact h
        have er2 : ER X.K X.mg (upd F' p (.dK (mergeK [] kps))) (upd H' p (.dK (mergeK [] kps))) L' σ ρ' := by
          refine ⟨fun c u h => ?_, er'.rs.frame ff (fun c hc o h => ?_) (fun c hc => ?_), er'.nd⟩
          · by_cases hcp : c = p
            · subst hcp; rw [upd_same] at h ⊢; exact h
            · rw [upd_ne hcp] at h ⊢; exact er'.fh c u h
          · rw [upd_ne (fun z => hpL' (by rw [← z]; exact hc))]; exact h
          · rw [upd_ne (fun z => hpL' (by rw [← z]; exact hc))]; exact (er'.rs.out c hc).1
        have xb := back x'
        refine q _ (upd F' p (.dK (mergeK [] kps))) _ L' ⟨⟨xb.ex.ff.trans ff, fun c o h n => ?_, fun c o h => ?_, xb.ex.ldom⟩, xb.pk, fun hm => ?_⟩ er2 (.dK (.inl upd_same) (r.same ff))
        · rw [upd_ne (ne_of_none h hp)]; exact xb.ex.keep c o h n
        · by_cases hcp : c = p
          · subst hcp; exact .inr (.inr hp)
          · rw [upd_ne hcp] at h; exact xb.ex.fdom c o h
        · obtain ⟨a1, a2, a3⟩ := xb.pure hm
          exact ⟨a1, a2, fun c o h => by rw [upd_ne (ne_of_none h hp)]; exact a3 c o h⟩
      · exact q.elim
theorem d_dix (hu : X.A.units + 1 < cLine) (ha : DE X W m a f) (hb : DE X W m b g) (hs : NoSl b) : DE X W m (.Subscript a b pos) (eOp dixD f g) :=
  PE.imp (pe_dget hu ha hb hs) fun σ H Q ⟨F, L, ρ, er, p⟩ => tG_bnd er p fun x dx F1 H1 L1 ρ1 x1 er1 rx p1 => tG_bnd er1 p1 fun y dy F2 H2 L2 ρ2 x2 er2 ry p2 => by
    obtain ⟨d, hd, k⟩ := lift_post er2 p2
    have rx := rx.same x2.ex.ff
    cases rx with
    | dK ha ra =>
      simp only [dixD] at hd
      split at hd
      · rename_i hc
        simp only [Bool.and_eq_true] at hc
        obtain ⟨kk, rfl, _⟩ := key_of_rp ry hc.2
        obtain ⟨v, hv, rv⟩ := valD_rp ra hc.1 ry hc.2 hd
        exact ⟨_, v, rfl, .inl ⟨_, kk, Rd.same er2.fh ha, rfl, hv.symm⟩, k _ _ _ (Gw.refl er2.fh) rv⟩
      · cases hd
    | dT ha ra =>
      simp only [dixD] at hd
      split at hd
      · rename_i hc
        simp only [Bool.and_eq_true] at hc
        cases ra with
        | nil => cases hd
        | cons _ _ _ => simp [keysOk, isKey] at hc
      · cases hd
    | _ => simp [dixD] at hd
theorem d_tab {x : Str} {T : List (List Nat × D)} {t : Addr} (hg : Gl X x) (hm : X.mg x = some (.ref t)) (hT : ∀ z d, (z, d) ∈ T → ∃ v, KDct X.K X.w t ⟨z.toArray⟩ v ∧ ∀ F, Rp X.K X.mg F v d) (hb : DE X W m b g) (hs : PlainIx b) (hd : (x == ("__debug__" : Str)) = false := by decide) :
    DE X W m (.Subscript (.Name x p) b pos) (eTab T g) :=
  PE.imp (pe_ix ix_kdict (pe_glob hg hm (v := .ref t) rfl hd) hb hs) fun σ H Q ⟨F, L, ρ, er, p⟩ => tG_bnd er p fun y dy F2 H2 L2 ρ2 x2 er2 ry p2 => by
    obtain ⟨d, hd, k⟩ := lift_post er2 p2
    unfold tabD at hd
    split at hd
    · rename_i z
      cases ry with
      | str hz =>
        cases e : T.find? _ with
        | none => rw [e] at hd; cases hd
        | some q =>
          rw [e] at hd
          cases hd
          have h1 := List.mem_of_find?_eq_some e
          have h2 := List.find?_some e
          have h3 : q.1 = z := by simpa using h2
          obtain ⟨v, kd, rv⟩ := hT q.1 q.2 h1
          rw [h3] at kd
          exact ⟨_, _, v, rfl, rfl, kd, k _ _ _ (Gw.refl er2.fh) (rv _)⟩
    · cases hd
end
end Wk
set_option Elab.async false
set_option linter.all false
set_option maxRecDepth 100000
namespace Wk
open PySem PySem.Spec PyProof.Rows L2

/-! ### looks at a scope -/
def visB : Option NameKind → Bool
  | some .local => true
  | some .cell => true
  | some .free => true
  | _ => false
def locB : Option NameKind → Bool
  | some .local => true
  | some .cell => true
  | _ => false
def fnB (b : Bool) : Option NameKind → Bool
  | some .local => true
  | _ => b
theorem visOf {sc : Scope} {x : Str} (h : visB (sc.names.lookup x) = true) : Vis sc x := by
  unfold Vis
  cases e : sc.names.lookup x with
  | none => rw [e] at h; cases h
  | some k => rw [e] at h; cases k <;> simp_all [visB]
theorem locOf {sc : Scope} {x : Str} (h : locB (sc.names.lookup x) = true) : L2.Loc sc x := by
  unfold L2.Loc
  cases e : sc.names.lookup x with
  | none => rw [e] at h; cases h
  | some k => rw [e] at h; cases k <;> simp_all [locB]
theorem fnOf' {X : Cx} {x : Str} (h : fnB (X.fn x) (X.env.scope.names.lookup x) = true) : X.fn x = true ∨ X.env.scope.names.lookup x = some .local := by
  cases e : X.env.scope.names.lookup x with
  | none => rw [e] at h; exact .inl h
  | some k => rw [e] at h; cases k <;> first | exact .inr rfl | exact .inl h
/-! ### constants of the module -/
section
variable {X : Cx} {W : WX} {m : Bool} {x : Str} {pos p p2 : Pos} {a b : Expr} {f g : M D} {es : List Expr} {fs : M (List D)}
theorem d_gint {i : Int} (hm : ∃ t, X.mg x = some (.int i t)) (hg : Gl X x) (hd : (x == ("__debug__" : Str)) = false := by decide) : DE X W m (.Name x pos) (eC (.int i)) := by
  obtain ⟨t, hm⟩ := hm
  exact d_glob hg hm (v := .int i) ⟨t, rfl⟩ (fun _ => .int) hd
theorem d_gstr {z : Str} {s : List Nat} (hm : ∃ t, X.mg x = some (.str z t)) (hz : z = ⟨s.toArray⟩) (hs : ((s.all fun c => decide (c < 1114112)) && decide (s.length ≤ 16777216)) = true) (hg : Gl X x) (hd : (x == ("__debug__" : Str)) = false := by decide) : DE X W m (.Name x pos) (eC (.str s)) := by
  obtain ⟨t, hm⟩ := hm
  subst hz
  have q := (Bool.and_eq_true _ _).mp hs
  exact d_glob hg hm (v := .str ⟨s.toArray⟩) ⟨t, rfl⟩ (fun _ => .str (SOk.of q.1 q.2)) hd
/-- a table of the module, with text keys -/
def TabOk (K : PySem.W.Frag) (w : World) (mg : Mg) (x : Str) (T : List (List Nat × D)) : Prop := ∃ t, mg x = some (.ref t) ∧ ∀ z d, (z, d) ∈ T → ∃ v, KDct K w t ⟨z.toArray⟩ v ∧ ∀ F, Rp K mg F v d
theorem d_tabC {T : List (List Nat × D)} (h : TabOk X.K X.w X.mg x T) (hg : Gl X x) (hb : DE X W m b g) (hs : PlainIx b) (hd : (x == ("__debug__" : Str)) = false := by decide) : DE X W m (.Subscript (.Name x p) b pos) (eTab T g) := by
  obtain ⟨t, hm, hT⟩ := h
  exact d_tab hg hm hT hb hs hd
end
/-! ### defs of the module -/
def CalD (P : Program) (w : World) (K : PySem.W.Frag) (mg : Mg) (base : Heap) (k : Nat) (x : Str) (ps : List Str) (sem : M D) : Prop :=
  ∃ f fd, FnD P w K mg base k f fd ps sem ∧ mg x = some (.ref f) ∧ PySem.W.keepIn K (.ref f) = true ∧ Binds K fd ps []
def CalO (P : Program) (w : World) (K : PySem.W.Frag) (mg : Mg) (base : Heap) (k : Nat) (x : Str) (ps : List Str) (sem : M (List D)) : Prop :=
  ∃ f fd, FnO P w K mg base k f fd ps sem ∧ mg x = some (.ref f) ∧ PySem.W.keepIn K (.ref f) = true ∧ Binds K fd ps []
/-- the text of a def, behind the top -/
def HasD (K : PySem.W.Frag) (mg : Mg) (x : Str) (pms : Arguments) (body : List Stmt) (scope : Scope) (ps : List Str) : Prop := ∃ f fd, FunD K x x pms body scope [] [] f fd ∧ mg x = some (.ref f) ∧ Binds K fd ps []
section
variable {P : Program} {w : World} {K : PySem.W.Frag} {mg : Mg} {base : Heap}
theorem CalD.mk {x : Str} {pms : Arguments} {body : List Stmt} {scope : Scope} {N ps : List Str} {k j n : Nat} {s : SM} (F : HasD K mg x pms body scope ps) (S : FnScope N ps scope) (hj : N.length = ps.length + j) (hn : ps.length = n)
    (hb : ∀ (f : Addr) (cdv : Value) (A : Around) (outer : List Env) (sh : Shared) (H : Hp) (E : XK), Room k (A.deeper (envOfC x scope sh.heap.objs.size f cdv)) →
      DSs (cxOf (L2.CX P w) P w K mg base N x scope f cdv A outer sh H E) (fun c d _ H' => E c d H') body s) : CalD P w K mg base (k + 1) x ps (runDef n j s) := by
  obtain ⟨f, fd, F, hm, b⟩ := F
  subst hn
  exact ⟨f, fd, fn_D F S hj fun cdv A outer sh H E hr => hb f cdv A outer sh H E hr, hm, F.kp, b⟩
theorem CalO.mk {x : Str} {pms : Arguments} {body : List Stmt} {scope : Scope} {N ps : List Str} {k j n : Nat} {s : SM} (F : HasD K mg x pms body scope ps) (S : FnScope N ps scope) (hj : N.length = ps.length + j) (hn : ps.length = n)
    (hb : ∀ (f : Addr) (cdv : Value) (A : Around) (outer : List Env) (sh : Shared) (H : Hp) (E : XK), Room k (A.deeper (envOfC x scope sh.heap.objs.size f cdv)) →
      DSs (cxOf (L2.CX P w) P w K mg base N x scope f cdv A outer sh H E) (fun c d _ H' => E c d H') body s) : CalO P w K mg base (k + 1) x ps (runDefO n j s) := by
  obtain ⟨f, fd, F, hm, b⟩ := F
  subst hn
  exact ⟨f, fd, fn_O F S hj fun cdv A outer sh H E hr => hb f cdv A outer sh H E hr, hm, F.kp, b⟩
/-- no promise at all -/
def noSem : M D := fun _ => .stuck
theorem CalD.none {x : Str} {pms : Arguments} {body : List Stmt} {scope : Scope} {ps : List Str} {k : Nat} (F : HasD K mg x pms body scope ps) : CalD P w K mg base k x ps noSem := by
  obtain ⟨f, fd, F, hm, b⟩ := F
  exact ⟨f, fd, ⟨fun vs H Q E h => h.1, fun A outer s H args us vs Q E _ _ _ _ ⟨_, _, _, _, _, z⟩ => z.elim⟩, hm, F.kp, b⟩
theorem room_in {k : Nat} {A : Around} (r : Room k A) : A.units + 65 < cLine := by have := r.un; omega
theorem tidy_no : Tidy noSem := ⟨fun _ _ _ _ h => (by cases h), fun _ _ _ _ h => (by cases h)⟩
end
section
variable {X : Cx} {W : WX} {m : Bool} {k j n : Nat} {ps : List Str} {sem : M D} {semO : M (List D)} {x y : Str} {p p2 pos : Pos} {a : Expr} {es : List Expr} {fs : M (List D)}
theorem d_callC (C : CalD X.prog X.w X.K X.mg X.base k x ps sem) (tk : Takes X W) (hr : Room j X.A) (hk : k ≤ j) (hn : ps.length = n) (hg : Gl X x) (ha : DAs X W m (a :: es) fs) (hdb : (x == ("__debug__" : Str)) = false := by decide)
    (he : starEach (a :: es) X.env = (false, eval a X.env) :: starEach es X.env := by rfl) (hpl : (backTo pos (starEach es X.env)).any (·.1) = false := by rfl) : DE X W m (.Call (.Name x p) (a :: es) [] pos) (eCall n sem fs) := by
  obtain ⟨f, fd, G, hm, kp, b⟩ := C
  subst hn
  exact d_call G tk hr hk hg hm kp b ha hdb he hpl
theorem d_callOC {i : Nat} (C : CalD X.prog X.w X.K X.mg X.base k x ps sem) (tk : Takes X W) (hr : Room j X.A) (hk : k ≤ j) (hn : ps.length = n) (hg : Gl X x) (hN : X.N[i]? = some y) (hv : Vis X.env.scope y) (ha : DAs X W false es fs) (ht : Tidy sem)
    (hdb : (x == ("__debug__" : Str)) = false := by decide) (hdy : (y == ("__debug__" : Str)) = false := by decide) (hcy : (y == ("__classdict__" : Str)) = false := by decide)
    (he : starEach (.Name y p2 :: es) X.env = (false, eval (.Name y p2) X.env) :: starEach es X.env := by rfl) (hpl : (backTo pos (starEach es X.env)).any (·.1) = false := by rfl) : DE X W false (.Call (.Name x p) (.Name y p2 :: es) [] pos) (eCallO n sem i fs) := by
  obtain ⟨f, fd, G, hm, kp, b⟩ := C
  subst hn
  exact d_callO G tk hr hk hg hm kp b hN hv ha ht hdb hdy hcy he hpl
theorem dfr_callC (C : CalO X.prog X.w X.K X.mg X.base k x ps semO) (tk : Takes X W) (hr : Room j X.A) (hk : k ≤ j) (hn : ps.length = n) (hg : Gl X x) (ha : DAs X W false (a :: es) fs) (hdb : (x == ("__debug__" : Str)) = false := by decide)
    (he : starEach (a :: es) X.env = (false, eval a X.env) :: starEach es X.env := by rfl) (hpl : (backTo pos (starEach es X.env)).any (·.1) = false := by rfl) : DFr X W (.Call (.Name x p) (a :: es) [] pos) (frCall n semO fs) := by
  obtain ⟨f, fd, G, hm, kp, b⟩ := C
  subst hn
  exact dfr_call G tk hr hk hg hm kp b ha hdb he hpl
theorem dfr_mul {b : Expr} {f g : M D} (ha : DE X W false a f) (hb : DE X W false b g) : DFr X W (.BinOp a .Mult b pos) (frOp mulL f g) :=
  PE.imp (pe_op op_rep ha hb) fun σ H Q ⟨F, L, ρ, er, p⟩ => tF_bnd er p fun x dx F1 H1 L1 ρ1 x1 er1 rx p1 => tF_bnd er1 p1 fun y dy F2 H2 L2 ρ2 x2 er2 ry p2 => by
    unfold lift at p2
    split at p2
    · rename_i xs hd
      cases e : mulL dx dy with
      | none => rw [e] at hd; cases hd
      | some d =>
        rw [e] at hd
        have rx2 := rx.same x2.ex.ff
        cases rx2 with
        | lst hh hr =>
          cases ry with
          | int =>
            simp only [mulL] at e
            split at e
            · rename_i hc
              cases e
              simp only [Bool.and_eq_true, decide_eq_true_eq] at hc
              simp only [Option.bind_some, lstOf, Option.some.injEq] at hd
              subst hd
              refine ⟨_, _, _, rfl, rfl, er2.fh _ _ hh, by omega, by omega, ?_, fun q hq => p2 q _ F2 H2 L2 (Exm.refl _ _ _ _ _) er2 (hr.rep _) hq⟩
              rw [hr.length, line_eq]
              exact Nat.le_trans (Nat.mul_le_mul hc.1.1 (Int.toNat_le.mpr hc.2)) (by decide)
            · cases e
          | _ => simp [mulL] at e
        | _ => simp [mulL] at e
    · exact p2.elim
end
end Wk
namespace Wk
open PySem PySem.Spec L2
theorem glOf {X : Cx} {x : Str} (h : X.env.kindOf x = some .globalImplicit) : Gl X x := h
end Wk
set_option Elab.async false
set_option linter.all false
set_option maxRecDepth 100000
namespace Wk
open PySem PySem.Spec PyProof.Rows L2

/-! ### the end: from what the top has made to the law -/
def defD (x : Str) (st : Stmt) : He.DefD := ⟨(x, none), x, x, defArgs st, defBody st, defScope st, [], []⟩
section
variable {fa : List He.Fa} {fn : List He.DefD} {ts : List He.Tab} {w : World} {K : PySem.W.Frag} {h : Heap} {mg : Str → Option Value}
theorem hasD_of {x : Str} {st : Stmt} {ps : List Str} (X : K.In h) (G : h.Ns mainGlobals mg) (c : He.SaysD fa fn K) (i j : Nat) (hd : fn[i]? = some (defD x st)) (hf : fa[j]? = some (.glo x))
    (hb : ∀ (kV doc pm : Value) (an : Option Addr) (cdv ct : Value) (us : List Value), us.length = ps.length → bindArgs (PySem.W.fnOf x x (defArgs st) (defBody st) (defScope st) .none kV doc pm an cdv ct) ⟨us, []⟩ = pure (ps.zip us)) :
    HasD K mg x (defArgs st) (defBody st) (defScope st) ps := by
  obtain ⟨fd, F⟩ := c.def_ i hd
  exact ⟨_, fd, F, He.glo_ok X G (c.fact j hf), FunD.bindsN F hb⟩
theorem excF_of {x : Str} (X : K.In h) (G : h.Ns mainGlobals mg) (c : He.SaysD fa fn K) (i j : Nat) (hg : fa[i]? = some (.glo x)) (he : fa[j]? = some (.exc x)) : ∃ C, ExcF K mg x C := by
  obtain ⟨c1, c2, c3, c4⟩ := He.exc_ok (c.fact j he)
  exact ⟨_, He.glo_ok X G (c.fact i hg), c1, c2, c3, c4⟩
/-- a table: its values as data -/
inductive DvD (K : PySem.W.Frag) (mg : Mg) : He.Dv → D → Prop
  | int {i : Int} : DvD K mg (.int i) (.int i)
  | str {z : Str} {s : List Nat} (hz : z = ⟨s.toArray⟩) (hs : ((s.all fun c => decide (c < 1114112)) && decide (s.length ≤ 16777216)) = true) : DvD K mg (.str z) (.str s)
theorem DvD.rp {v : He.Dv} {d : D} (r : DvD K mg v d) (F : Hp) : Rp K mg F (v.v K) d := by
  cases r with
  | int => exact .int
  | str hz hs =>
    subst hz
    have q := (Bool.and_eq_true _ _).mp hs
    exact .str (SOk.of q.1 q.2)
theorem tabOk_of {x : Str} {ks : List Str} {kvs : List (Str × He.Dv)} {T : List (List Nat × D)} (X : K.In h) (G : h.Ns mainGlobals mg) (c : He.SaysT fa fn ts w K) (i j : Nat) (ht : ts[i]? = some (fun K => He.ga K x, ks)) (hg : fa[j]? = some (.glo x))
    (hv : He.valsB K (He.ga K x) kvs = true) (hT : ∀ z d, (z, d) ∈ T → ∃ v, ((⟨z.toArray⟩ : Str), v) ∈ kvs ∧ DvD K mg v d) : TabOk K w mg x T := by
  obtain ⟨es, n, kd⟩ := c.tab i ht
  refine ⟨_, He.glo_ok X G (c.d.fact j hg), fun z d hz => ?_⟩
  obtain ⟨v, hm, r⟩ := hT z d hz
  obtain ⟨u, hu, ru⟩ := He.valsB_ok hv hm
  exact ⟨_, ⟨es, n, u, kd.at_, kd.lit, hu, ru⟩, r.rp⟩
end
/-- what never raises raises nothing -/
theorem FnOk.calm {P : Program} {w : World} {K : PySem.W.Frag} {mg : Mg} {base : Heap} {k : Nat} {f : Addr} {fd : FuncData} {ps : List Str} {sp : Sp} (F : FnOk P w K mg base (L2.CX P w) k f fd ps sp) :
    FnOk P w K mg base CX0 k f fd ps (fun vs H Q _ => sp vs H Q fun _ _ _ => False) :=
  ⟨fun vs H Q E q => F.len vs H Q _ q, fun A outer s H args us vs Q E hr he hb hv hs => codeAny_mono (F.run A outer s H args us vs Q (fun _ _ _ => False) hr he hb hv hs) fun r s' z => by
    cases r with
    | ok fin => cases fin <;> exact z
    | error e =>
      obtain ⟨_, _, _, _, _, _, _, _, _, _, _, _, z⟩ := z
      exact z.elim⟩
theorem rpA_ints {K : PySem.W.Frag} {mg : Mg} {F : Hp} : ∀ ns : List Int, RpA K mg F (ns.map V.int) (ns.map D.int)
  | [] => .nil
  | n :: ns => .cons .int (rpA_ints ns)
/-- the law's promise from what it computes -/
theorem law_sp {K : PySem.W.Frag} {mg : Mg} {sem : M D} {H : Hp} {a : Addr} {ns : List Int} (hS : SqL K H a (ns.map V.int)) (h : ∃ ss, sem [.val (.scr (ns.map D.int))] = .ok (.bl true) ss) :
    spD K mg 1 sem [.ref a] H (fun v _ => v = .bl true) fun _ _ _ => False := by
  obtain ⟨ss, e⟩ := h
  refine ⟨rfl, H, [], [.val (.scr (ns.map D.int))], ⟨Same.refl _, .val (.scr hS (rpA_ints ns)) .nil, List.nodup_nil⟩, ?_⟩
  rw [e]
  intro v F' H' L' _ _ r
  cases r
  rfl
end Wk
set_option Elab.async false
set_option linter.all false
set_option maxRecDepth 100000
namespace Wk
open PySem PySem.Spec PyProof.Rows L2

/-! ### plain: each function at an environment -/
def canSet : Option Slot → Bool
  | some (.pin _) => false
  | some _ => true
  | none => false
@[simp] theorem canSet_no : canSet (some .no) = true := rfl
@[simp] theorem canSet_val (d : D) : canSet (some (.val d)) = true := rfl
@[simp] theorem canSet_own (d : D) : canSet (some (.own d)) = true := rfl
@[simp] theorem canSet_pin (d : D) : canSet (some (.pin d)) = false := rfl
theorem canSet_light {s : Slot} (h : s.light = true) : canSet (some s) = true := by cases s <;> first | rfl | cases h
@[simp] theorem light_no : Slot.light .no = true := rfl
@[simp] theorem light_val (d : D) : Slot.light (.val d) = true := rfl
section
variable {α β : Type} {f g h : M D} {fs : M (List D)} {c k l : M Bool} {s t : SM} {ρ ρ' : EnvD} {T : D → EnvD → Option EnvD}
@[simp] theorem ret_ap (a : α) : ret a ρ = .ok a ρ := rfl
@[simp] theorem bnd_ap (f : M α) (g : α → M β) : bnd f g ρ = match f ρ with
  | .ok a ρ' => g a ρ'
  | .err x ρ' => .err x ρ'
  | .stuck => .stuck := rfl
@[simp] theorem lift_some (a : α) : lift (some a) ρ = .ok a ρ := rfl
@[simp] theorem lift_none : (lift none : M α) ρ = .stuck := rfl
@[simp] theorem eC_ap (d : D) : eC d ρ = .ok d ρ := rfl
@[simp] theorem eVar_ap (i : Nat) : eVar i ρ = match ρ[i]? with
  | some (.val d) => .ok d ρ
  | _ => .stuck := rfl
@[simp] theorem eOp_ap (o : D → D → Option D) : eOp o f h ρ = bnd f (fun x => bnd h fun y => lift (o x y)) ρ := rfl
@[simp] theorem eUn_ap (o : D → Option D) : eUn o f ρ = bnd f (fun x => lift (o x)) ρ := rfl
@[simp] theorem eIf_ap : eIf c f g ρ = bnd c (fun b => if b then f else g) ρ := rfl
@[simp] theorem eAnd_ap : eAnd f g ρ = bnd f (fun x => match x with
  | .bl true => g
  | .bl false => ret (.bl false)
  | _ => lift none) ρ := rfl
@[simp] theorem eOr_ap : eOr f g ρ = bnd f (fun x => match x with
  | .bl false => g
  | .bl true => ret (.bl true)
  | _ => lift none) ρ := rfl
@[simp] theorem cT_ap : cT f ρ = bnd f (fun x => lift (asB x)) ρ := rfl
@[simp] theorem cAnd_ap : cAnd k l ρ = bnd k (fun b => if b then l else ret false) ρ := rfl
@[simp] theorem cOr_ap : cOr k l ρ = bnd k (fun b => if b then ret true else l) ρ := rfl
@[simp] theorem cNot_ap : cNot k ρ = bnd k (fun b => ret (!b)) ρ := rfl
@[simp] theorem cYes_ap : cYes ρ = .ok true ρ := rfl
@[simp] theorem eCmp_ap (o : D → D → Option Bool) : eCmp o f h ρ = bnd f (fun x => bnd h fun y => lift ((o x y).map .bl)) ρ := rfl
@[simp] theorem eChain_ap (o o' : D → D → Option Bool) : eChain o o' f g h ρ = bnd f (fun x => bnd g fun y => bnd (lift (o x y)) fun b => if b then bnd h fun z => lift ((o' y z).map .bl) else ret (.bl false)) ρ := rfl
@[simp] theorem eNil_ap : eNil ρ = .ok [] ρ := rfl
@[simp] theorem eCons_ap : eCons f fs ρ = bnd f (fun x => bnd fs fun xs => ret (x :: xs)) ρ := rfl
@[simp] theorem eTup_ap : eTup fs ρ = bnd fs (fun xs => lift (if xs.length ≤ lim then some (.tup xs) else none)) ρ := rfl
@[simp] theorem eLst_ap : eLst fs ρ = bnd fs (fun xs => lift (if xs.length ≤ lim then some (.lst xs) else none)) ρ := rfl
@[simp] theorem eB_ap (B : List D → Option D) : eB B fs ρ = bnd fs (fun ds => lift (B ds)) ρ := rfl
@[simp] theorem eM0_ap (B : D → Option D) : eM0 B f ρ = bnd f (fun x => lift (if isS x then B x else none)) ρ := rfl
@[simp] theorem eM1_ap (B : D → D → Option D) : eM1 B f g ρ = bnd f (fun x => if isS x then bnd g fun y => lift (B x y) else lift none) ρ := rfl
@[simp] theorem eTab_ap (t : List (List Nat × D)) : eTab t g ρ = bnd g (fun k => lift (tabD t k)) ρ := rfl
@[simp] theorem pNo_ap : pNo ρ = .ok none ρ := rfl
@[simp] theorem pAt_ap : pAt f ρ = bnd f (fun x => lift ((asI x).map some)) ρ := rfl
@[simp] theorem eCut_ap (l u : M (Option Int)) : eCut f l u ρ = bnd f (fun x => bnd l fun lo => bnd u fun hi => lift (cutD x lo hi)) ρ := rfl
@[simp] theorem iOf_ap (o : D → Option (List D)) : iOf o f ρ = bnd f (fun x => lift (o x)) ρ := rfl
@[simp] theorem iArgs_ap (o : List D → Option (List D)) : iArgs o fs ρ = bnd fs (fun x => lift (o x)) ρ := rfl
@[simp] theorem eCall_ap (n : Nat) (sem : M D) : eCall n sem fs ρ = bnd fs (callV n sem) ρ := rfl
@[simp] theorem callV_ap (n : Nat) (sem : M D) (ds : List D) : callV n sem ds ρ = if ds.length = n then match sem (ds.map .val) with
  | .ok d _ => .ok d ρ
  | .err x _ => .err x ρ
  | .stuck => .stuck else .stuck := rfl
@[simp] theorem eCallO_ap (n i : Nat) (sem : M D) : eCallO n sem i fs ρ = if isMine ρ[i]? then bnd fs (callO n sem i) ρ else .stuck := rfl
@[simp] theorem callO_ap (n i : Nat) (sem : M D) (ds : List D) : callO n sem i ds ρ = if ds.length + 1 = n then match ρ[i]? with
  | some (.own d) => (match sem (.pin d :: ds.map .val) with
    | .ok r (.pin d' :: _) => .ok r (ρ.set i (.own d'))
    | .err x (.pin d' :: _) => .err x (ρ.set i (.own d'))
    | _ => .stuck)
  | some (.pin d) => (match sem (.pin d :: ds.map .val) with
    | .ok r (.pin d' :: _) => .ok r (ρ.set i (.pin d'))
    | .err x (.pin d' :: _) => .err x (ρ.set i (.pin d'))
    | _ => .stuck)
  | _ => .stuck else .stuck := rfl
@[simp] theorem isMine_own (d : D) : isMine (some (.own d)) = true := rfl
@[simp] theorem isMine_pin (d : D) : isMine (some (.pin d)) = true := rfl
@[simp] theorem sNil_ap : sNil ρ = .ok .nx ρ := rfl
@[simp] theorem sSeq_ap : sSeq s t ρ = match s ρ with
  | .ok .nx ρ' => t ρ'
  | r => r := rfl
@[simp] theorem sDo_ap (f : M α) (g : α → SM) : sDo f g ρ = match f ρ with
  | .ok a ρ' => g a ρ'
  | .err x ρ' => .err x ρ'
  | .stuck => .stuck := rfl
@[simp] theorem sEnd_ap (x : Fl) : sEnd x ρ = .ok x ρ := rfl
@[simp] theorem sRet_ap : sRet f ρ = sDo f (fun d => sEnd (.rt d)) ρ := rfl
@[simp] theorem sRetO_ap : sRetO fs ρ = sDo fs (fun d => sEnd (.ro d)) ρ := rfl
@[simp] theorem sExpr_ap : sExpr f ρ = sDo f (fun _ => sEnd .nx) ρ := rfl
@[simp] theorem sIf_ap : sIf c s t ρ = sDo c (fun b => if b then s else t) ρ := rfl
@[simp] theorem sTg_ap (d : D) : sTg T d ρ = match T d ρ with
  | some ρ' => .ok .nx ρ'
  | none => .stuck := rfl
@[simp] theorem sAsg_ap : sAsg T f ρ = sDo f (sTg T) ρ := rfl
@[simp] theorem sRaise_ap (x : Str) : sRaise x ρ = .err ⟨x, []⟩ ρ := rfl
@[simp] theorem tgName_ap (i : Nat) (d : D) : tgName i d ρ = if canSet ρ[i]? then some (ρ.set i (.val d)) else none := by
  unfold tgName
  cases e : ρ[i]? with
  | none => rfl
  | some s => cases s <;> rfl
@[simp] theorem tgTup_ap (ts : List D → EnvD → Option EnvD) (ds : List D) : tgTup ts (.tup ds) ρ = ts ds ρ := rfl
@[simp] theorem tgCons_ap (u : List D → EnvD → Option EnvD) (d : D) (ds : List D) : tgCons T u (d :: ds) ρ = (T d ρ).bind (u ds) := rfl
@[simp] theorem tgNil_ap : tgNil [] ρ = some ρ := rfl
@[simp] theorem sPar_ap (i j : Nat) : sPar i j fs ρ = sDo fs (fun ds ρ => match ds with
  | [d, e] => (match tgName i d ρ with
    | some ρ1 => sTg (tgName j) e ρ1
    | none => .stuck)
  | _ => .stuck) ρ := rfl
@[simp] theorem frLst_ap : frLst fs ρ = bnd fs (fun xs => lift (if xs.length ≤ lim then some xs else none)) ρ := rfl
@[simp] theorem frOp_ap (o : D → D → Option D) : frOp o f h ρ = bnd f (fun x => bnd h fun y => lift ((o x y).bind lstOf)) ρ := rfl
@[simp] theorem frCall_ap (n : Nat) (sem : M (List D)) : frCall n sem fs ρ = bnd fs (callVO n sem) ρ := rfl
@[simp] theorem callVO_ap (n : Nat) (sem : M (List D)) (ds : List D) : callVO n sem ds ρ = if ds.length = n then match sem (ds.map .val) with
  | .ok d _ => .ok d ρ
  | .err x _ => .err x ρ
  | .stuck => .stuck else .stuck := rfl
@[simp] theorem ownL_ap (i : Nat) (xs : List D) : ownL i xs ρ = match ρ[i]? with
  | some (.pin _) => .stuck
  | some _ => .ok .nx (ρ.set i (.own (.lst xs)))
  | none => .stuck := rfl
@[simp] theorem sOwn_ap (i : Nat) : sOwn i fs ρ = sDo fs (ownL i) ρ := rfl
@[simp] theorem frz_ap (i : Nat) : frz i ρ = match ρ[i]? with
  | some (.own (.lst xs)) => .ok .nx (ρ.set i (.val (.lst xs)))
  | _ => .stuck := rfl
@[simp] theorem sFor_ap (src : M (List D)) : sFor T src s ρ = sDo src (forGo T s) ρ := rfl
@[simp] theorem asB_bl (b : Bool) : asB (.bl b) = some b := rfl
@[simp] theorem asI_int (i : Int) : asI (.int i) = some i := rfl
@[simp] theorem isS_str (z : List Nat) : isS (.str z) = true := rfl
@[simp] theorem anyOf_tup (xs : List D) : anyOf (.tup xs) = some xs := rfl
@[simp] theorem anyOf_lst (xs : List D) : anyOf (.lst xs) = some xs := rfl
@[simp] theorem anyOf_str (z : List Nat) : anyOf (.str z) = some (z.map fun c => .str [c]) := rfl
@[simp] theorem notD_bl (b : Bool) : notD (.bl b) = some (.bl (!b)) := rfl
theorem eBor_ap (i : Nat) : eBor i f ρ = match ρ[i]? with
  | some (.own (.lst xs)) => (match f (ρ.set i (.val (.lst xs))) with
    | .ok r _ => if flat r then .ok r ρ else .stuck
    | _ => .stuck)
  | some (.pin (.lst xs)) => (match f (ρ.set i (.val (.lst xs))) with
    | .ok r _ => if flat r then .ok r ρ else .stuck
    | _ => .stuck)
  | _ => .stuck := rfl
@[simp] theorem runDef_ap (n k : Nat) (body : SM) (ss : EnvD) : runDef n k body ss = match body (ss ++ List.replicate k .no) with
  | .ok (.rt d) ρ => .ok d (outs ss ρ)
  | .ok .nx ρ => .ok .non (outs ss ρ)
  | .err x ρ => .err x (outs ss ρ)
  | _ => .stuck := rfl
@[simp] theorem runDefO_ap (n k : Nat) (body : SM) (ss : EnvD) : runDefO n k body ss = match body (ss ++ List.replicate k .no) with
  | .ok (.ro d) ρ => .ok d (outs ss ρ)
  | .err x ρ => .err x (outs ss ρ)
  | _ => .stuck := rfl
end
/-! ### loops and comprehensions over data -/
section
variable {T : D → EnvD → Option EnvD} {c : M Bool} {e : M D} {s : SM} {vs : List Nat} {src : M (List D)}
/-- a comprehension whose turns leave nothing behind -/
theorem lc_pure {ρ : EnvD} {B : D → EnvD} {p : D → Bool} {g : D → D} (hl : lightAt vs 0 ρ = true) : ∀ {ds : List D}, (∀ d ∈ ds, T d (wipeD vs 0 ρ) = some (B d) ∧ c (B d) = .ok (p d) (B d) ∧ (p d = true → e (B d) = .ok (g d) (B d)) ∧ lightAt vs 0 (B d) = true ∧ mixD vs 0 ρ (B d) = ρ) →
    lcGo T c e vs ds ρ = .ok ((ds.filter p).map g) ρ
  | [], _ => rfl
  | d :: ds, h => by
    obtain ⟨h1, h2, h3, h4, h5⟩ := h d (by simp)
    have ih := lc_pure hl (ds := ds) fun x hx => h x (by simp [hx])
    unfold lcGo
    rw [hl, h1]
    simp only [if_true, h2]
    cases hp : p d with
    | false => simp only [h4, if_true, h5, ih, List.filter_cons, hp, Bool.false_eq_true, if_false]
    | true => simp only [h3 hp, h4, if_true, h5, ih, List.filter_cons, hp, List.map_cons]
/-- a comprehension with a state: the cup -/
theorem lc_inv {I : EnvD → Prop} {R : D → D → Prop} : ∀ {ds : List D} {ρ : EnvD}, I ρ →
    (∀ d ∈ ds, ∀ ρ, I ρ → ∃ ρ1 y ρ3, lightAt vs 0 ρ = true ∧ T d (wipeD vs 0 ρ) = some ρ1 ∧ c ρ1 = .ok true ρ1 ∧ e ρ1 = .ok y ρ3 ∧ R d y ∧ lightAt vs 0 ρ3 = true ∧ I (mixD vs 0 ρ ρ3)) →
    ∃ ys ρ', lcGo T c e vs ds ρ = .ok ys ρ' ∧ I ρ' ∧ ys.length = ds.length ∧ ∀ (i : Nat) (d y : D), ds[i]? = some d → ys[i]? = some y → R d y
  | [], ρ, hI, _ => ⟨[], ρ, rfl, hI, rfl, fun i d y h => by simp at h⟩
  | d :: ds, ρ, hI, h => by
    obtain ⟨ρ1, y, ρ3, h1, h2, h3, h4, h5, h6, h7⟩ := h d (by simp) ρ hI
    obtain ⟨ys, ρ', e1, e2, e3, e4⟩ := lc_inv (ds := ds) h7 fun x hx => h x (by simp [hx])
    refine ⟨y :: ys, ρ', ?_, e2, by simp [e3], fun i d' y' hd hy => ?_⟩
    · unfold lcGo
      simp only [h1, if_true, h2, h3, h4, h6, e1]
    · cases i with
      | zero => simp at hd hy; subst hd hy; exact h5
      | succ i => exact e4 i d' y' (by simpa using hd) (by simpa using hy)
/-- a loop that runs through -/
theorem for_inv {I : List D → EnvD → Prop} : ∀ {ds : List D} {ρ : EnvD}, I ds ρ → (∀ d ds ρ, I (d :: ds) ρ → ∃ ρ1 ρ2, T d ρ = some ρ1 ∧ s ρ1 = .ok .nx ρ2 ∧ I ds ρ2) → ∃ ρ', forGo T s ds ρ = .ok .nx ρ' ∧ I [] ρ'
  | [], ρ, hI, _ => ⟨ρ, rfl, hI⟩
  | d :: ds, ρ, hI, h => by
    obtain ⟨ρ1, ρ2, h1, h2, h3⟩ := h d ds ρ hI
    obtain ⟨ρ', e1, e2⟩ := for_inv h3 h
    refine ⟨ρ', ?_, e2⟩
    unfold forGo
    simp only [h1, h2, e1]
/-- a loop that runs through, by what it computes -/
theorem for_fold {β : Type} {E : β → EnvD} {st : β → D → β} : ∀ {ds : List D} {b : β}, (∀ b, ∀ d ∈ ds, ∃ ρ1, T d (E b) = some ρ1 ∧ s ρ1 = .ok .nx (E (st b d))) → forGo T s ds (E b) = .ok .nx (E (ds.foldl st b))
  | [], b, _ => rfl
  | d :: ds, b, h => by
    obtain ⟨ρ1, h1, h2⟩ := h b d (by simp)
    unfold forGo
    simp only [h1, h2]
    exact for_fold fun b x hx => h b x (by simp [hx])
theorem eLc_ok {ρ ρ1 ρ2 : EnvD} {ds ys : List D} (h1 : src ρ = .ok ds ρ1) (hl : ds.length ≤ lim) (h2 : lcGo T c e vs ds ρ1 = .ok ys ρ2) : eLc T src c e vs ρ = .ok (.lst ys) ρ2 := by
  unfold eLc
  simp only [bnd_ap, h1, if_pos hl, h2, ret_ap]
end
/-! ### the cup -/
abbrev cupD (a b : Int) : D := .lst [.int a, .int b]
theorem at0 {α : Type} (x y : α) : atI [x, y] 0 = some x := rfl
theorem at1 {α : Type} (x y : α) : atI [x, y] 1 = some y := rfl
def rollS (A B C E G J : Int) : SM :=
  (sSeq (sIf (cT (eCmp gtD (eBor 0 (eOp ixD (eVar 0) (eC (.int 0)))) (eC (.int 0)))) (sSeq (sAsg (tgName 2) (eOp modD (eB bInt (eCons (eBor 0 (eOp ixD (eVar 0) (eC (.int 0)))) eNil)) (eVar 1))) (sSeq (sPut 0 (eOp fdivD (eBor 0 (eOp ixD (eVar 0) (eC (.int 0)))) (eVar 1)) (eC (.int 0))) (sRet (eVar 2)))) sNil) (sSeq (sPut 0 (eOp modD (eB bInt (eCons (eOp addD (eOp mulD (eBor 0 (eOp ixD (eVar 0) (eC (.int 1)))) (eC (.int A))) (eC (.int B))) eNil)) (eC (.int C))) (eC (.int 1))) (sSeq (sAsg (tgName 3) (eOp modD (eB bInt (eCons (eOp mulD (eBor 0 (eOp ixD (eVar 0) (eC (.int 1)))) (eOp addD (eBor 0 (eOp ixD (eVar 0) (eC (.int 1)))) (eC (.int E)))) eNil)) (eC (.int G)))) (sRet (eOp modD (eB bInt (eCons (eOp fdivD (eVar 3) (eC (.int J))) eNil)) (eVar 1))))))
/-- what a roll gives -/
def Rolls (roll : M D) : Prop := ∀ a b many : Int, 0 < many → many < 1073741824 → ∃ r a' b', 0 ≤ r ∧ r < many ∧ roll [.pin (cupD a b), .val (.int many)] = .ok (.int r) [.pin (cupD a' b'), .no]
theorem roll_ok {A B C E G J : Int} (hA : small A = true) (hC : 0 < C ∧ C < 1099511627776) (hG : 0 < G) (hJ : 0 < J ∧ J < 1073741824) : Rolls (runDef 2 2 (rollS A B C E G J)) := by
  intro a b many h0 h1
  by_cases h : 0 < a
  · refine ⟨a % many, a / many, b, Int.emod_nonneg _ (by omega), Int.emod_lt_of_pos _ h0, ?_⟩
    simp [rollS, eBor_ap, gtD, ixD, at0, at1, bInt, modD, fdivD, h, h0, h1, sPut, mineL, putL, setAt, ixN, outs, flat]
  · have hb : 0 ≤ (b * A + B) % C := Int.emod_nonneg _ (by omega)
    have hb2 : (b * A + B) % C < C := Int.emod_lt_of_pos _ hC.1
    have hs : small ((b * A + B) % C) = true := by simp only [small, Bool.and_eq_true, decide_eq_true_eq]; omega
    refine ⟨((b * A + B) % C * ((b * A + B) % C + E)) % G / J % many, a, (b * A + B) % C, Int.emod_nonneg _ (by omega), Int.emod_lt_of_pos _ h0, ?_⟩
    simp [rollS, eBor_ap, gtD, ixD, at0, at1, bInt, modD, fdivD, mulD, addD, h, h0, h1, hA, hC, hG, hJ, hs, sPut, mineL, putL, setAt, ixN, outs, flat]
def someS (roll : M D) : SM := sRet (eOp ixD (eVar 1) (eCallO 2 roll 0 (eCons (eB bLen (eCons (eVar 1) eNil)) eNil)))
theorem atI_lt {α : Type} {xs : List α} {r : Int} (h0 : 0 ≤ r) (h1 : r < xs.length) : ∃ x, atI xs r = some x ∧ x ∈ xs := by
  have hlt : r.toNat < xs.length := by omega
  refine ⟨xs[r.toNat], ?_, List.getElem_mem hlt⟩
  unfold atI ixN
  have e1 : ¬ r < 0 := by omega
  simp [e1, h0, h1, hlt]
theorem some_str {roll : M D} (R : Rolls roll) (a b : Int) {z : List Nat} (h0 : z ≠ []) (h1 : z.length < 1000000) : ∃ c a' b', c ∈ z ∧ runDef 2 0 (someS roll) [.pin (cupD a b), .val (.str z)] = .ok (.str [c]) [.pin (cupD a' b'), .no] := by
  have hl : 0 < z.length := List.length_pos_iff.mpr h0
  obtain ⟨r, a', b', g0, g1, e⟩ := R a b z.length (by omega) (by omega)
  obtain ⟨c, hc, hm⟩ := atI_lt g0 g1
  exact ⟨c, a', b', hm, by simp [someS, bLen, e, ixD, hc, outs]⟩
theorem some_lst {roll : M D} (R : Rolls roll) (a b : Int) {xs : List D} (h0 : xs ≠ []) (h1 : xs.length < 1000000) : ∃ d a' b', d ∈ xs ∧ runDef 2 0 (someS roll) [.pin (cupD a b), .val (.lst xs)] = .ok d [.pin (cupD a' b'), .no] := by
  have hl : 0 < xs.length := List.length_pos_iff.mpr h0
  obtain ⟨r, a', b', g0, g1, e⟩ := R a b xs.length (by omega) (by omega)
  obtain ⟨c, hc, hm⟩ := atI_lt g0 g1
  exact ⟨c, a', b', hm, by simp [someS, bLen, e, ixD, hc, outs]⟩
theorem some_tup {roll : M D} (R : Rolls roll) (a b : Int) {xs : List D} (h0 : xs ≠ []) (h1 : xs.length < 1000000) : ∃ d a' b', d ∈ xs ∧ runDef 2 0 (someS roll) [.pin (cupD a b), .val (.tup xs)] = .ok d [.pin (cupD a' b'), .no] := by
  have hl : 0 < xs.length := List.length_pos_iff.mpr h0
  obtain ⟨r, a', b', g0, g1, e⟩ := R a b xs.length (by omega) (by omega)
  obtain ⟨c, hc, hm⟩ := atI_lt g0 g1
  exact ⟨c, a', b', hm, by simp [someS, bLen, e, ixD, hc, outs]⟩
end Wk
set_option Elab.async false
set_option linter.all false
set_option maxRecDepth 100000
namespace Wk
open PySem PySem.Spec PyProof.Rows L2

/-! ### the law's cup and its comparison -/
def cupS (N B C E G : Int) : SM :=
  (sSeq (sAsg (tgName 1) (eB bAbs (eCons (eOp ixD (eOp addD (eB bList (eCons (eVar 0) eNil)) (eLst (eCons (eC (.int 0)) eNil))) (eC (.int 0))) eNil))) (sRetO (frLst (eCons (eIf (cT (eCmp geD (eVar 1) (eOp powD (eC (.int 10)) (eC (.int 18))))) (eOp fdivD (eVar 1) (eC (.int N))) (eC (.int 0))) (eCons (eOp addD (eOp modD (eB bInt (eCons (eOp addD (eOp mulD (eVar 1) (eC (.int B))) (eC (.int C))) eNil)) (eC (.int E))) (eC (.int G))) eNil)))))
theorem mul_r {a b : Int} (h : small b = true) : mulD (.int a) (.int b) = some (.int (a * b)) := by simp [mulD, h]
theorem mul_l {a b : Int} (h : small a = true) : mulD (.int a) (.int b) = some (.int (a * b)) := by simp [mulD, h]
theorem fdiv_ok {a b : Int} (h : 0 < b ∧ b < 1073741824) : fdivD (.int a) (.int b) = some (.int (a / b)) := by simp [fdivD, h]
theorem mod_ok {a b : Int} (h : 0 < b) : modD (.int a) (.int b) = some (.int (a % b)) := by simp [modD, h]
theorem pow18 : powD (.int 10) (.int 18) = some (.int 1000000000000000000) := by
  simp [powD, small]
theorem cup_ok {N B C E G : Int} (hN : 0 < N ∧ N < 1073741824) (hB : small B = true) (hE : 0 < E) (ns : List Int) (hl : ns.length ≤ 63) : ∃ a b, runDefO 1 1 (cupS N B C E G) [.val (.scr (ns.map D.int))] = .ok [.int a, .int b] [.no] := by
  have hl2 : ns.length + 1 ≤ lim := by unfold lim; omega
  have hx : ∃ z, atI (ns.map D.int ++ [D.int 0]) 0 = some (.int z) := by
    cases ns with
    | nil => exact ⟨0, rfl⟩
    | cons n r =>
      refine ⟨n, ?_⟩
      have e : (0 : Int) < (r.length : Int) + 1 + 1 := by omega
      simp [atI, ixN, e]
  obtain ⟨z, hz⟩ := hx
  have ha : bAbs [.int z] = some (.int (if z < 0 then -z else z)) := rfl
  generalize (if z < 0 then -z else z) = A at ha
  have h1 : (1 : Nat) ≤ lim := by decide
  have h2 : (2 : Nat) ≤ lim := by decide
  by_cases hc : 1000000000000000000 ≤ A
  · exact ⟨A / N, (A * B + C) % E + G, by simp [cupS, bList, addD, hl2, h1, h2, ixD, hz, ha, geD, pow18, hc, fdiv_ok hN, mul_r hB, bInt, mod_ok hE, outs]⟩
  · exact ⟨0, (A * B + C) % E + G, by simp [cupS, bList, addD, hl2, h1, h2, ixD, hz, ha, geD, pow18, hc, mul_r hB, bInt, mod_ok hE, outs]⟩
def sameS (g : M D) : SM :=
  (sSeq (sIf (cT (eUn (isiD "tuple") (eVar 1))) (sSeq (sIf (cOr (cNot (cT (eUn (isiD "tuple") (eVar 0)))) (cT (eCmp neD (eB bLen (eCons (eVar 0) eNil)) (eB bLen (eCons (eVar 1) eNil))))) (sRet (eC (.bl false))) sNil) (sRet (eB bAll (eCons (eLc (tgName 2) (iArgs rng1 (eCons (eB bLen (eCons (eVar 1) eNil)) eNil)) cYes (eCall 2 g (eCons (eOp ixD (eVar 0) (eVar 2)) (eCons (eOp ixD (eVar 1) (eVar 2)) eNil))) [2]) eNil)))) sNil) (sSeq (sIf (cT (eCmp isND (eVar 1) (eC .non))) (sRet (eCmp isND (eVar 0) (eC .non))) sNil) (sSeq (sIf (cT (eUn (isiD "bool") (eVar 1))) (sRet (eIf (cT (eVar 1)) (eCmp isND (eVar 0) (eC (.bl true))) (eCmp isND (eVar 0) (eC (.bl false))))) sNil) (sSeq (sIf (cT (eUn (isiD "int") (eVar 1))) (sRet (eAnd (eUn (isiD "int") (eVar 0)) (eAnd (eUn notD (eUn (isiD "bool") (eVar 0))) (eCmp eqD (eB bInt (eCons (eVar 0) eNil)) (eVar 1))))) sNil) (sRet (eAnd (eUn (isiD "str") (eVar 0)) (eCmp eqD (eB bStr (eCons (eVar 0) eNil)) (eVar 1))))))))
def sameF : Nat → M D
  | 0 => noSem
  | m + 1 => runDef 2 1 (sameS (sameF m))
mutual
/-- what the law compares: texts, ints, bools, None, tuples of them -/
def cmpOk : Nat → D → Bool
  | 0, _ => false
  | _ + 1, .non => true
  | _ + 1, .bl _ => true
  | _ + 1, .int _ => true
  | _ + 1, .str _ => true
  | n + 1, .tup ds => decide (ds.length ≤ 1000000) && cmpOks n ds
  | _ + 1, _ => false
def cmpOks : Nat → List D → Bool
  | _, [] => true
  | n, d :: ds => cmpOk n d && cmpOks n ds
end
theorem cmpOks_mem {n : Nat} : ∀ {ds : List D} {d : D}, cmpOks n ds = true → d ∈ ds → cmpOk n d = true
  | [], _, _, h => by simp at h
  | x :: ds, d, h, hm => by
    simp only [cmpOks, Bool.and_eq_true] at h
    rcases List.mem_cons.mp hm with rfl | hm
    · exact h.1
    · exact cmpOks_mem h.2 hm
theorem blsOf_true : ∀ n : Nat, blsOf (List.replicate n (.bl true)) = some (List.replicate n true)
  | 0 => rfl
  | n + 1 => by simp [List.replicate_succ, blsOf, blsOf_true n]
theorem all_true (n : Nat) : (List.replicate n true).all id = true := by simp
theorem eq_int (i j : Int) : eqD (.int i) (.int j) = some (i == j) := by simp [eqD, sh, eqv]
theorem eq_str (a b : List Nat) : eqD (.str a) (.str b) = some (a == b) := by simp [eqD, sh, eqv]
theorem ne_int (i j : Int) : neD (.int i) (.int j) = some (!(i == j)) := by simp [neD, sh, eqv]
theorem ne_str (a b : List Nat) : neD (.str a) (.str b) = some (!(a == b)) := by simp [neD, sh, eqv]
theorem rng1_nat (n : Nat) (h : n ≤ 16777216) : rng1 [.int (n : Int)] = some (rangeD 0 n) := by
  have e : (n : Int) ≤ 16777216 ∧ -16777216 ≤ (n : Int) := by omega
  simp [rng1, e]
theorem mem_range0 {n : Nat} {d : D} (h : d ∈ rangeD 0 n) : ∃ i : Nat, i < n ∧ d = .int (i : Int) := by
  unfold rangeD at h
  obtain ⟨i, h1, h2⟩ := List.mem_map.mp h
  refine ⟨i, List.mem_range.mp h1, ?_⟩
  rw [← h2]
  simp
theorem same_refl : ∀ (n : Nat) (d : D), cmpOk n d = true → sameF n [.val d, .val d] = .ok (.bl true) [.no, .no]
  | 0, _, h => by simp [cmpOk] at h
  | n + 1, d, h => by
    cases d with
    | non => simp [sameF, sameS, isiD, tyN, isT, isND, outs]
    | bl b => cases b <;> simp [sameF, sameS, isiD, tyN, isT, isND, outs]
    | int i => simp [sameF, sameS, isiD, tyN, isT, isND, outs, bInt, eq_int]
    | str z => simp [sameF, sameS, isiD, tyN, isT, isND, outs, bStr, eq_str]
    | tup ds =>
      simp only [cmpOk, Bool.and_eq_true, decide_eq_true_eq] at h
      have lc := lc_pure (T := tgName 2) (c := cYes) (e := eCall 2 (sameF n) (eCons (eOp ixD (eVar 0) (eVar 2)) (eCons (eOp ixD (eVar 1) (eVar 2)) eNil))) (vs := [2]) (ρ := [.val (.tup ds), .val (.tup ds), .no]) (B := fun d => [.val (.tup ds), .val (.tup ds), .val d]) (p := fun _ => true) (g := fun _ => .bl true) rfl
        (ds := rangeD 0 ds.length) fun d hd => by
          obtain ⟨i, hi, rfl⟩ := mem_range0 hd
          obtain ⟨x, hx, hm⟩ := atI_lt (xs := ds) (r := (i : Int)) (by omega) (by omega)
          refine ⟨by simp [wipeD], rfl, fun _ => ?_, by simp [lightAt, Slot.light], by simp [mixD]⟩
          simp [ixD, hx, same_refl n x (cmpOks_mem h.2 hm)]
      have hr := rng1_nat ds.length (by omega)
      have hl : ds.length ≤ lim := by unfold lim; omega
      have e := eLc_ok (T := tgName 2) (src := iArgs rng1 (eCons (eB bLen (eCons (eVar 1) eNil)) eNil)) (ρ := [.val (.tup ds), .val (.tup ds), .no]) (by simp [bLen, hr]) (by rw [rangeD_len]; exact hl) lc
      have hf : (List.map (fun _ : D => D.bl true) (List.filter (fun _ : D => true) (rangeD 0 ds.length))) = List.replicate ds.length (.bl true) := by
        rw [List.filter_eq_self.mpr (fun _ _ => rfl), List.map_const', rangeD_len]
      rw [hf] at e
      have hq : neD (.int (ds.length : Int)) (.int (ds.length : Int)) = some false := by simp [ne_int]
      simp [sameF, sameS, isiD, tyN, isT, bLen, hq, e, bAll, blsOf_true, outs]
    | _ => simp [cmpOk] at h
end Wk
set_option Elab.async false
set_option linter.all false
set_option maxRecDepth 100000
namespace Wk
open PySem PySem.Spec PyProof.Rows L2

/-! ### zip of two sources, to a target of several names -/
def Itq (cur : Hp → Prop) (xs ys : List V) : It :=
  ⟨fun i H => cur H ∧ i < xs.length ∧ i < ys.length, fun i H v H' => ∃ T x y, v = .ref T ∧ H T = none ∧ H' = upd H T (.tup [x, y]) ∧ xs[i]? = some x ∧ ys[i]? = some y, fun i H => cur H ∧ i ≤ xs.length ∧ i ≤ ys.length ∧ (i = xs.length ∨ i = ys.length)⟩
theorem turn_zipQ {P : Program} {w : World} {K : PySem.W.Frag} {elts : List Expr} {kk : Nat} {tpos : Pos} {cur : Hp → Prop} {S1 S2 : Src} {xs ys : List V} (h1 : ∀ H, cur H → S1.cur K xs H) (h2 : ∀ H, cur H → S2.cur K ys H) {z TI TO i1 i2 : Addr}
    (D : ZipSep2 z TI TO i1 i2 (i1 :: S1.far) (i2 :: S2.far)) (n12 : i1 ≠ i2) (g1 : i1 ∉ S1.far) (g2 : i2 ∉ S2.far) :
    Turn P w K (.Tuple elts kk tpos) (Itq cur xs ys) [z, TI, TO, i1, i2] z (fun i h => IsZip h z TI TO .none ∧ IsTupOf2 h TI (.ref i1) (.ref i2) ∧ (∃ x y, IsTupOf2 h TO x y) ∧ S1.at_ i1 i h ∧ S2.at_ i2 i h) where
  mem := by simp
  obj := fun i h st c hc => by
    obtain ⟨hz, hTI, ⟨x, y, hTO⟩, s1, s2⟩ := st
    rcases (by simpa using hc : c = z ∨ c = TI ∨ c = TO ∨ c = i1 ∨ c = i2) with q | q | q | q | q
    · rw [q]; exact ⟨_, hz, fun v q => nomatch q⟩
    · rw [q]; exact ⟨_, hTI, fun v q => nomatch q⟩
    · rw [q]; exact ⟨_, hTO, fun v q => nomatch q⟩
    · rw [q]; exact Src.obj s1
    · rw [q]; exact Src.obj s2
  keep := fun i h h' st k => by
    obtain ⟨hz, hTI, ⟨x, y, hTO⟩, s1, s2⟩ := st
    exact ⟨k z (by simp) _ hz, k TI (by simp) _ hTI, ⟨x, y, k TO (by simp) _ hTO⟩, Src.keep s1 fun o q => k i1 (by simp) o q, Src.keep s2 fun o q => k i2 (by simp) o q⟩
  item := by
    intro X hP hw hK hc i pins s σ H E I hf st hg
    subst hP hw hK
    obtain ⟨hz, hTI, ⟨x0, y0, hTO⟩, s1, s2⟩ := st
    obtain ⟨hcu, l1, l2⟩ := hg
    obtain ⟨fp1, P1, St1, D1, m1, f1, up1, dn1, v1⟩ := Src.draws I hc (h1 _ hcu) g1
    obtain ⟨fp2, P2, St2, D2, m2, f2, up2, dn2, v2⟩ := Src.draws I hc (h2 _ hcu) g2
    have sub1 : ∀ b ∈ fp1, b ∈ i1 :: S1.far := fun b hb => by rcases f1 b hb with e | e; exact e ▸ List.mem_cons_self; exact List.mem_cons_of_mem _ e
    have sub2 : ∀ b ∈ fp2, b ∈ i2 :: S2.far := fun b hb => by rcases f2 b hb with e | e; exact e ▸ List.mem_cons_self; exact List.mem_cons_of_mem _ e
    have D' : ZipSep2 z TI TO i1 i2 fp1 fp2 := { TIz := D.TIz, TOz := D.TOz, TITO := D.TITO, TIi1 := D.TIi1, mem1 := m1, zf1 := fun q => D.zf1 (sub1 _ q), Tf1 := fun q => D.Tf1 (sub1 _ q), TIi2 := D.TIi2, mem2 := m2, zf2 := fun q => D.zf2 (sub2 _ q), Tf2 := fun q => D.Tf2 (sub2 _ q), sep1_2 := fun q => D.sep1_2 (sub2 _ q), sep2_1 := fun q => D.sep2_1 (sub1 _ q) }
    have hzl : z < s.heap.objs.size := Heap.lt_size hz
    refine wpAny_pyNext_zipD2_item D' D1 D2 hz hTI hTO (up1 i s1) (up2 i s2) l1 l2 fun u1 u2 h' tk q1 q2 z' TO' e1 e2 hT hsz hk => ?_
    obtain ⟨x, hx, rx⟩ := v1 i u1 q1
    obtain ⟨y, hy, ry⟩ := v2 i u2 q2
    refine ⟨_, rfl, wpAny_letOwnedTupleGo_zip (s := { s with heap := h', toks := tk }) z' fun h'' z'' sb => ?_⟩
    have hT2 : h''.get? s.heap.objs.size = some { cls := .type "tuple", data := .seq #[u1, u2] } := (sb.2 _ (Nat.ne_of_gt hzl)).trans hT
    have I1 : Inv X pins σ (upd H s.heap.objs.size (.tup [x, y])) { s with heap := h'', toks := tk } :=
      I.turnedNew (ch := [z, TI, TO, i1, i2]) (fun c o hb q => (sb.2 c (fun q' => hb (by simp [q']))).trans (hk c o (fun q' => hb (by simp [q'])) (fun q' => hb (by simp [q'])) (fun q' => hb (by simp [q'])) (fun q' => hb (by simp [q'])) q)) hf (Nat.le_refl _)
        ⟨by show 2 ≤ sizeLine; decide, [u1, u2], .cons rx (.cons ry .nil), ⟨_, hT2, rfl, _, rfl⟩⟩
    have zi1 : i1 ≠ z := fun q => D.zf1 (q ▸ List.mem_cons_self)
    have zi2 : i2 ≠ z := fun q => D.zf2 (q ▸ List.mem_cons_self)
    refine ⟨.ref s.heap.objs.size, _, I1, rfl, ⟨_, x, y, rfl, I.hok.fresh (Nat.le_refl _), rfl, hx, hy⟩, ⟨z'', ?_, ⟨u1, u2, ?_⟩, ?_, ?_⟩, fun c hcm => ?_⟩
    · exact (sb.2 _ D.TIz).trans (hk _ _ D.TIz D.TITO D.TIi1 D.TIi2 hTI)
    · exact (sb.2 _ D.TOz).trans TO'
    · exact Src.keep (dn1 _ _ e1) fun o q => (sb.2 _ zi1).trans q
    · exact Src.keep (dn2 _ _ e2) fun o q => (sb.2 _ zi2).trans q
    · have hlt : c < s.heap.objs.size := by
        rcases (by simpa using hcm : c = z ∨ c = TI ∨ c = TO ∨ c = i1 ∨ c = i2) with q | q | q | q | q
        · rw [q]; exact hzl
        · rw [q]; exact Heap.lt_size hTI
        · rw [q]; exact Heap.lt_size hTO
        · rw [q]; obtain ⟨_, e, _⟩ := Src.obj s1; exact Heap.lt_size e
        · rw [q]; obtain ⟨_, e, _⟩ := Src.obj s2; exact Heap.lt_size e
      rw [upd_ne (Nat.ne_of_lt hlt)]
      exact (hf c hcm).1
  done := by
    intro X hP hw hK hc i pins s σ H E I hf st hg
    subst hP hw hK
    obtain ⟨hz, hTI, ⟨x0, y0, hTO⟩, s1, s2⟩ := st
    obtain ⟨hcu, l1, l2, hend⟩ := hg
    obtain ⟨fp1, P1, St1, D1, m1, f1, up1, dn1, v1⟩ := Src.draws I hc (h1 _ hcu) g1
    obtain ⟨fp2, P2, St2, D2, m2, f2, up2, dn2, v2⟩ := Src.draws I hc (h2 _ hcu) g2
    have sub1 : ∀ b ∈ fp1, b ∈ i1 :: S1.far := fun b hb => by rcases f1 b hb with e | e; exact e ▸ List.mem_cons_self; exact List.mem_cons_of_mem _ e
    have sub2 : ∀ b ∈ fp2, b ∈ i2 :: S2.far := fun b hb => by rcases f2 b hb with e | e; exact e ▸ List.mem_cons_self; exact List.mem_cons_of_mem _ e
    have D' : ZipSep2 z TI TO i1 i2 fp1 fp2 := { TIz := D.TIz, TOz := D.TOz, TITO := D.TITO, TIi1 := D.TIi1, mem1 := m1, zf1 := fun q => D.zf1 (sub1 _ q), Tf1 := fun q => D.Tf1 (sub1 _ q), TIi2 := D.TIi2, mem2 := m2, zf2 := fun q => D.zf2 (sub2 _ q), Tf2 := fun q => D.Tf2 (sub2 _ q), sep1_2 := fun q => D.sep1_2 (sub2 _ q), sep2_1 := fun q => D.sep2_1 (sub1 _ q) }
    exact wpAny_pyNext_zipD2_end D' D1 D2 hz hTI hTO (up1 i s1) (up2 i s2) l1 l2 hend fun h' tk hk => ⟨rfl, I.turnedL (t' := tk) (ch := [z, TI, TO, i1, i2]) (fun c o hb q =>
      hk c o (fun q' => hb (by simp [q'])) (fun q' => hb (by simp [q'])) (fun q' => hb (by simp [q'])) (fun q' => hb (by simp [q'])) q) hf⟩
  self := fun A i s Q E st h => wpAny_pyIter_zip st.1 h
def iZipQ (K : PySem.W.Frag) (ta : TA) : TI := fun σ H R => ta σ H fun vs H1 => ∃ x y xs ys cur, vs = [x, y] ∧ SrcI K cur x xs ∧ SrcI K cur y ys ∧ cur H1 ∧ R (Itq cur xs ys) H1
theorem pi_zipQ {X : Cx} {e e2 : Expr} {ta : TA} {p pos tpos : Pos} {elts : List Expr} {kk : Nat} (hg : Gl X "zip") (hm : X.mg "zip" = none) (ha : PA X [e, e2] ta)
    (hs : starEach [e, e2] X.env = (false, eval e X.env) :: starEach [e2] X.env := by rfl) (hpl : (backTo pos (starEach [e2] X.env)).any (·.1) = false := by rfl) :
    PI X (.Tuple elts kk tpos) (.Call (.Name "zip" p) [e, e2] [] pos) (iZipQ X.K ta) := by
  refine ⟨fun pins s σ H R I h => Call_ (ld_blt I hg hm PyProof.Rows.boot_zip (PyProof.Rows.callWith_type1 (thn (ha.run pos pins s σ H _ I h) fun us s1 ⟨vs, H1, I1, r1, x, y, xs, ys, cur, ex, hs1, hs2, hcu, q⟩ => ?_) hs hpl))⟩
  subst ex
  cases r1 with
  | cons r rr =>
    cases rr with
    | cons r' rr =>
      cases rr
      obtain ⟨S1, rfl, k1⟩ := hs1.src r
      obtain ⟨S2, rfl, k2⟩ := hs2.src r'
      obtain ⟨o1, A1, B1, a1, b1, far1⟩ := Src.begins I1 (k1 _ hcu)
      obtain ⟨o2, A2, B2, a2, b2, far2⟩ := Src.begins I1 (k2 _ hcu)
      refine zip_begins2 B1 B2 a1 a2 fun h' hz hTI hTO e1 e2 hsz hk => wpAny_pyIter_zip hz ?_
      have I2 : Inv X pins σ H1 { s1 with heap := h' } := I1.kept (t' := s1.toks) hk
      refine ⟨s1.heap.objs.size + 4, [s1.heap.objs.size + 4, s1.heap.objs.size + 2, s1.heap.objs.size + 3, s1.heap.objs.size, s1.heap.objs.size + 1], _, _, H1, rfl, I2,
        turn_zipQ k1 k2 (zip_sep2 far1 far2) (Nat.ne_of_lt (Nat.lt_succ_self _)) (fun z => absurd (far1 _ z) (Nat.lt_irrefl _)) (fun z => absurd (far2 _ z) (by show ¬ (s1.heap.objs.size + 1 < s1.heap.objs.size); omega)), ⟨hz, hTI, ⟨_, _, hTO⟩, b1 _ _ e1, b2 _ _ e2⟩, fun c hcm => ?_, q⟩
      have hle : s1.heap.objs.size ≤ c := by
        rcases (by simpa using hcm : c = s1.heap.objs.size + 4 ∨ c = s1.heap.objs.size + 2 ∨ c = s1.heap.objs.size + 3 ∨ c = s1.heap.objs.size ∨ c = s1.heap.objs.size + 1) with z | z | z | z | z <;> rw [z]
        · exact Nat.le_add_right _ _
        · exact Nat.le_add_right _ _
        · exact Nat.le_add_right _ _
        · exact Nat.le_refl _
        · exact Nat.le_add_right _ _
      exact I1.fpOk hle (I1.hok.fresh hle)
def zipD : List D → Option (List D)
  | [a, b] => (anyOf a).bind fun xs => (anyOf b).map fun ys => List.zipWith (fun x y => .tup [x, y]) xs ys
  | _ => none
section
variable {K : PySem.W.Frag} {mg : Mg} {F : Hp}
theorem wlk_zip {xs ys : List V} {ds es : List D} (r : RpA K mg F xs ds) (r2 : RpA K mg F ys es) : Wlk K mg (Itq (Same F) xs ys) F (List.zipWith (fun x y => D.tup [x, y]) ds es) := by
  have h1 := r.length
  have h2 := r2.length
  refine ⟨fun i F2 H hi e e2 => ⟨e.trans e2, ?_, ?_⟩, fun F2 H e e2 => ⟨e.trans e2, ?_, ?_, ?_⟩, fun i F2 H x H' hi e e2 y => ?_⟩
  · rw [List.length_zipWith] at hi; omega
  · rw [List.length_zipWith] at hi; omega
  · rw [List.length_zipWith]; omega
  · rw [List.length_zipWith]; omega
  · rw [List.length_zipWith]; omega
  · obtain ⟨T, a, b, rfl, hT, rfl, ha, hb⟩ := y
    obtain ⟨d, hd, rd⟩ := r.getV ha
    obtain ⟨d2, hd2, rd2⟩ := r2.getV hb
    obtain ⟨g, rt⟩ := newT (mg := mg) (K := K) e2 hT (.cons (rd.same e) (.cons (rd2.same e) .nil))
    exact ⟨_, _, by rw [List.getElem?_zipWith, hd, hd2], g, rt⟩
end
section
variable {X : Cx} {W : WX} {m : Bool} {a b : Expr} {fs : M (List D)} {pos p p2 q tpos : Pos} {elts : List Expr} {kk : Nat} {f g : M D}
theorem di_zip (hg : Gl X "zip") (hm : X.mg "zip" = none) (ha : DAs X W m [a, b] fs) (hs : starEach [a, b] X.env = (false, eval a X.env) :: starEach [b] X.env := by rfl) (hpl : (backTo pos (starEach [b] X.env)).any (·.1) = false := by rfl) :
    DI X W m (.Tuple elts kk tpos) (.Call (.Name "zip" p) [a, b] [] pos) (iArgs zipD fs) :=
  PI.imp (pi_zipQ hg hm ha hs hpl) fun σ H R ⟨F, L, ρ, er, p⟩ => tI_bnd er p fun vs ds F1 H1 L1 ρ1 x1 er1 rx p1 => by
    obtain ⟨xs, hd, k⟩ := liftI er1 p1
    unfold zipD at hd
    split at hd
    · cases rx with
      | cons r t =>
        cases t with
        | cons r2 t =>
          cases t
          cases e1 : anyOf _ with
          | none => rw [e1] at hd; cases hd
          | some zs =>
            rw [e1, Option.bind_some] at hd
            cases e2 : anyOf _ with
            | none => rw [e2] at hd; cases hd
            | some us =>
              rw [e2] at hd
              cases hd
              obtain ⟨as, ra, h1⟩ := src_of r e1
              obtain ⟨bs, rb, h2⟩ := src_of r2 e2
              exact ⟨_, _, as, bs, Same F1, rfl, h1, h2, er1.fh, k _ _ _ (Gw.refl er1.fh) (wlk_zip ra rb)⟩
    · cases hd
/-! ### list(range(..)) -/
theorem rgV_rp {K : PySem.W.Frag} {mg : Mg} {F : Hp} (lo hi : Int) : RpA K mg F (rgV lo hi) (rangeD lo (hi - lo).toNat) := by
  unfold rgV rangeD
  generalize List.range (hi - lo).toNat = l
  induction l with
  | nil => exact .nil
  | cons i l ih => exact .cons .int ih
theorem d_lrg1 (hc : X.calm = true) (hg2 : Gl X "list") (hm2 : X.mg "list" = none) (hg : Gl X "range") (hm : X.mg "range" = none) (ha : DE X W m a f) (na : starEach [a] X.env = (false, eval a X.env) :: starEach [] X.env := by rfl)
    (na2 : starEach [.Call (.Name "range" p) [a] [] pos] X.env = (false, eval (.Call (.Name "range" p) [a] [] pos) X.env) :: starEach [] X.env := by rfl) :
    DE X W m (.Call (.Name "list" p2) [.Call (.Name "range" p) [a] [] pos] [] q) (bnd (iArgs rng1 (eCons f eNil)) fun ds => ret (.lst ds)) :=
  PE.imp (pe_listRg hc hg2 hm2 (prg_1 hg hm ha na) na2) fun σ H Q ⟨F, L, ρ, er, p⟩ => by
    have p' : Post (Rp X.K X.mg) X.K X.mg W m F H L σ ρ Q (bnd f (fun x => lift ((rng1 [x]).map D.lst)) ρ) := by
      have e : bnd (iArgs rng1 (eCons f eNil)) (fun ds => ret (.lst ds)) ρ = bnd f (fun x => lift ((rng1 [x]).map D.lst)) ρ := by
        unfold iArgs eCons bnd eNil ret
        cases f ρ with
        | ok d ρ' => cases h : rng1 [d] <;> simp [h, lift]
        | err _ _ => rfl
        | stuck => rfl
      rw [← e]
      exact p
    exact tG_bnd er p' fun x dx F1 H1 L1 ρ1 x1 er1 rx p1 => by
      obtain ⟨d, hd, k⟩ := lift_post er1 p1
      cases rx with
      | int =>
        simp only [rng1] at hd
        split at hd
        · rename_i hj
          cases hd
          refine ⟨_, rfl, ⟨by omega, by omega, by omega, by omega, by omega⟩, fun q hq => ?_⟩
          obtain ⟨g, r⟩ := newL (mg := X.mg) (K := X.K) er1.fh hq (rgV_rp 0 _)
          rw [Int.sub_zero] at r
          exact k _ _ _ g r
        · cases hd
      | _ => cases hd
theorem d_lrg2 (hc : X.calm = true) (hg2 : Gl X "list") (hm2 : X.mg "list" = none) (hg : Gl X "range") (hm : X.mg "range" = none) (ha : DE X W m a f) (hb : DE X W m b g) (na : starEach [a, b] X.env = (false, eval a X.env) :: starEach [b] X.env := by rfl)
    (nb : starEach [b] X.env = (false, eval b X.env) :: starEach [] X.env := by rfl) (hp : (backTo pos (starEach [b] X.env)).any (·.1) = false := by rfl)
    (na2 : starEach [.Call (.Name "range" p) [a, b] [] pos] X.env = (false, eval (.Call (.Name "range" p) [a, b] [] pos) X.env) :: starEach [] X.env := by rfl) :
    DE X W m (.Call (.Name "list" p2) [.Call (.Name "range" p) [a, b] [] pos] [] q) (bnd (iArgs rng2 (eCons f (eCons g eNil))) fun ds => ret (.lst ds)) :=
  PE.imp (pe_listRg hc hg2 hm2 (prg_2 hg hm ha hb na nb hp) na2) fun σ H Q ⟨F, L, ρ, er, p⟩ => by
    have p' : Post (Rp X.K X.mg) X.K X.mg W m F H L σ ρ Q (bnd f (fun x => bnd g fun y => lift ((rng2 [x, y]).map D.lst)) ρ) := by
      have e : bnd (iArgs rng2 (eCons f (eCons g eNil))) (fun ds => ret (.lst ds)) ρ = bnd f (fun x => bnd g fun y => lift ((rng2 [x, y]).map D.lst)) ρ := by
        unfold iArgs eCons bnd eNil ret
        cases f ρ with
        | ok d ρ' =>
          cases hg' : g ρ' with
          | ok d2 ρ2 => cases h : rng2 [d, d2] <;> simp [h, hg', lift]
          | err _ _ => simp [hg']
          | stuck => simp [hg']
        | err _ _ => rfl
        | stuck => rfl
      rw [← e]
      exact p
    exact tG_bnd er p' fun x dx F1 H1 L1 ρ1 x1 er1 rx p1 => tG_bnd er1 p1 fun y dy F2 H2 L2 ρ2 x2 er2 ry p2 => by
      obtain ⟨d, hd, k⟩ := lift_post er2 p2
      cases rx with
      | int =>
        cases ry with
        | int =>
          simp only [rng2] at hd
          split at hd
          · rename_i hj
            cases hd
            refine ⟨_, _, rfl, rfl, ⟨by omega, by omega, by omega, by omega, by omega⟩, fun q hq => ?_⟩
            obtain ⟨g', r⟩ := newL (mg := X.mg) (K := X.K) er2.fh hq (rgV_rp _ _)
            exact k _ _ _ g' r
          · cases hd
        | _ => cases hd
      | _ => simp [rng2] at hd
end
end Wk
set_option Elab.async false
set_option linter.all false
set_option maxRecDepth 100000
namespace Wk
open PySem PySem.Spec PyProof.Rows L2

/-! ### comprehensions with two sources -/
theorem wipeD_light (vs : List Nat) : ∀ (ρ : EnvD) (k : Nat), lightAt vs k (wipeD vs k ρ) = true := fun ρ => by
  induction ρ with
  | nil => intro k; rfl
  | cons s ρ ih =>
    intro k
    simp only [wipeD, lightAt, ih (k + 1), Bool.and_true]
    split
    · simp [Slot.light]
    · rename_i q; simp only [Bool.not_eq_true] at q; rw [q]; rfl
theorem wipeD_idem (vs : List Nat) : ∀ (ρ : EnvD) (k : Nat), wipeD vs k (wipeD vs k ρ) = wipeD vs k ρ := fun ρ => by
  induction ρ with
  | nil => intro k; rfl
  | cons s ρ ih =>
    intro k
    simp only [wipeD, ih (k + 1)]
    split <;> rfl
section
variable {K : PySem.W.Frag} {mg : Mg} {W : WX} {m : Bool}
/-- in a comprehension: base F1 H1 L1 ahead of the new list, env ρs at the loop's start -/
structure LcJ (K : PySem.W.Frag) (mg : Mg) (m : Bool) (σ : L2.St) (F1 H1 : Hp) (L1 Ls : List Addr) (ρs : EnvD) (Da : Addr) (H Fi : Hp) (Li : List Addr) (ρi : EnvD) (acc : List V) (ys : List D) : Prop where
  er : ER K mg Fi H Li σ ρi
  ex : Ex F1 H1 L1 Fi H Li
  pk : Pk ρs ρi
  pu : m = true → ρi = ρs ∧ Li = Ls ∧ Same H1 H
  hd : H Da = some (.lst acc)
  nl : Da ∉ Li
  nf : Fi Da = none
  ra : RpA K mg Fi acc ys
/-- what a block has done, told at its outside -/
theorem lcj_back {σ σ2 : L2.St} {F1 H1 Fi H F3 H' F5 H5 : Hp} {L1 Ls Li L5 : List Addr} {ρs ρi ρt ρ5 : EnvD} {Da : Addr} {acc acc5 : List V} {ys ys5 : List D} {vs : List Nat}
    (I : LcJ K mg m σ F1 H1 L1 Ls ρs Da H Fi Li ρi acc ys) (g3 : Gw Fi H F3 H') (hl : lightAt vs 0 ρi = true) (hwt : wipeD vs 0 ρt = wipeD vs 0 (wipeD vs 0 ρi)) (off : Off vs (wipe σ vs) σ2) (pkt : Pk (wipeD vs 0 ρi) ρt)
    (J : LcJ K mg m σ2 F1 H1 L1 Li ρt Da H5 F5 L5 ρ5 acc5 ys5) (ff : Same F3 F5) (l5 : lightAt vs 0 ρ5 = true) : LcJ K mg m σ F1 H1 L1 Ls ρs Da H5 F5 L5 (mixD vs 0 ρi ρ5) acc5 ys5 := by
  have er3 := g3.er I.er
  have len5 : ρi.length = ρ5.length := by rw [← er3.rs.length, ← J.er.rs.length, off.1, wipe_length]
  refine ⟨ER.mixed er3 ff J.er (blk_wipe off) hl l5, J.ex, I.pk.trans (pk_block len5 hl (pkt.trans J.pk)), fun hm => ?_, J.hd, J.nl, J.nf, J.ra⟩
  obtain ⟨a1, a2, a3⟩ := I.pu hm
  obtain ⟨b1, b2, b3⟩ := J.pu hm
  exact ⟨by rw [b1, wipeD_same (by rw [hwt, wipeD_idem]), a1], b2.trans a2, b3⟩
theorem LcJ.step {σ : L2.St} {F1 H1 Fi H F' H' : Hp} {L1 Ls Li L' : List Addr} {ρs ρi ρ' : EnvD} {Da : Addr} {acc : List V} {ys : List D} (I : LcJ K mg m σ F1 H1 L1 Ls ρs Da H Fi Li ρi acc ys) (x : Exm m Fi H Li ρi F' H' L' ρ') (er : ER K mg F' H' L' σ ρ') : LcJ K mg m σ F1 H1 L1 Ls ρs Da H' F' L' ρ' acc ys := by
  obtain ⟨h1, h2, h3⟩ := keepD x.ex I.hd I.nl I.nf
  refine ⟨er, I.ex.trans x.ex, I.pk.trans x.pk, fun hm => ?_, h1, h2, h3, I.ra.same x.ex.ff⟩
  obtain ⟨a1, a2, a3⟩ := I.pu hm
  obtain ⟨b1, b2, b3⟩ := x.pure hm
  exact ⟨b1.trans a1, b2.trans a2, a3.trans b3⟩
theorem LcJ.app {σ : L2.St} {F1 H1 Fi H : Hp} {L1 Ls Li : List Addr} {ρs ρi : EnvD} {Da : Addr} {acc : List V} {ys : List D} {v : V} {d : D} (I : LcJ K mg m σ F1 H1 L1 Ls ρs Da H Fi Li ρi acc ys) (hDa : H1 Da = none) (r : Rp K mg Fi v d) :
    LcJ K mg m σ F1 H1 L1 Ls ρs Da (upd H Da (.lst (acc ++ [v]))) Fi Li ρi (acc ++ [v]) (ys ++ [d]) :=
  ⟨I.er.other I.nf I.nl, I.ex.atD hDa, I.pk, fun hm => by
    obtain ⟨a1, a2, a3⟩ := I.pu hm
    exact ⟨a1, a2, fun b u h => by rw [upd_ne (ne_of_none h hDa)]; exact a3 b u h⟩, upd_same, I.nl, I.nf, I.ra.append (.cons r .nil)⟩
/-- the loop of one source, from within -/
theorem lc_loop {vs : List Nat} {T : D → EnvD → Option EnvD} {c : M Bool} {e : M D} {σ : L2.St} {J : It} {ds ys ys0 : List D} {F1 H1 Fs Hs : Hp} {L1 Ls Lq : List Addr} {ρq ρs ρn : EnvD} {Da : Addr} {acc0 : List V} {Qd : Hp → Prop} (hT : TOk vs T)
    (S : LcJ K mg m σ F1 H1 L1 Lq ρq Da Hs Fs Ls ρs acc0 ys0) (hDa : H1 Da = none) (wl : Wlk K mg J Fs ds) (ok : lcGo T c e vs ds ρs = .ok ys ρn) (hlim : (ys0 ++ ys).length ≤ 16777216)
    (fin : ∀ Fn Hn Ln acc, LcJ K mg m σ F1 H1 L1 Lq ρq Da Hn Fn Ln ρn acc (ys0 ++ ys) → Same Fs Fn → Qd Hn) :
    ∃ W : Nat → Nat → Hp → Prop, (∃ k, W 0 k Hs) ∧ ∀ i k H, W i k H → (J.stop i H ∧ Qd H) ∨ (J.go i H ∧ ∃ Nx : Hp → Prop, (∀ H', Nx H' → ∃ k', k' < k ∧ W (i + 1) k' H') ∧ ∀ x H', J.yld i H x H' →
      tgR K mg vs T x (wipe σ vs) H' fun σ2 H2 => wipe σ2 vs = wipe σ vs ∧ tG REq K mg W0 m c σ2 H2 fun b H3 => if b = true then tG (Rp K mg) K mg W0 m e σ2 H3 fun y H4 => ∃ acc, H4 Da = some (.lst acc) ∧ acc.length < sizeLine ∧ Nx (upd H4 Da (.lst (acc ++ [y]))) else Nx H3) := by
  let Pv : Nat → Hp → Prop := fun i H => i ≤ ds.length ∧ ∃ Fi Li ρi acc zs rest, LcJ K mg m σ F1 H1 L1 Lq ρq Da H Fi Li ρi acc (ys0 ++ zs) ∧ Same Fs Fi ∧ ys = zs ++ rest ∧ lcGo T c e vs (ds.drop i) ρi = .ok rest ρn
  refine ⟨fun i k H => k = ds.length - i ∧ Pv i H, ⟨ds.length, by simp, Nat.zero_le _, Fs, Ls, ρs, acc0, [], ys, by rw [List.append_nil]; exact S, Same.refl _, rfl, ok⟩, ?_⟩
  rintro i k H ⟨rfl, hi, Fi, Li, ρi, acc, zs, rest, I, fs, ez, eq⟩
  by_cases hlt : i < ds.length
  rotate_left
  · have ei : i = ds.length := by omega
    subst ei
    rw [List.drop_eq_nil_of_le (Nat.le_refl _)] at eq
    unfold lcGo at eq
    cases eq
    rw [List.append_nil] at ez
    subst ez
    exact .inl ⟨wl.stops Fi H fs I.er.fh, fin Fi H Li acc I fs⟩
  refine .inr ⟨wl.goes i Fi H hlt fs I.er.fh, Pv (i + 1), fun H' p' => ⟨ds.length - (i + 1), by omega, rfl, p'⟩, fun x H' y => ?_⟩
  obtain ⟨d, F3, hd, g3, rx⟩ := wl.yields i Fi H x H' hlt fs I.er.fh y
  have er3 := g3.er I.er
  have hdrop : ds.drop i = d :: ds.drop (i + 1) := by
    obtain ⟨hlt, he⟩ := List.getElem?_eq_some_iff.mp hd
    rw [← he, List.getElem_cons_drop]
  rw [hdrop] at eq
  unfold lcGo at eq
  by_cases hl : lightAt vs 0 ρi = true
  rotate_left
  · rw [if_neg hl] at eq; cases eq
  rw [if_pos hl] at eq
  cases eT : T d (wipeD vs 0 ρi) with
  | none => rw [eT] at eq; cases eq
  | some ρt =>
  rw [eT] at eq
  simp only at eq
  refine ⟨F3, Li, wipeD vs 0 ρi, d, ρt, er3.wiped hl, rx, eT, fun σ2 L2 er2 lt2 off2 pn2 => ⟨blk_wipe off2, ?_⟩⟩
  obtain ⟨eL2, _⟩ := lt2.2 (wipeD_light vs ρi 0)
  rw [eL2] at er2
  have hwt : wipeD vs 0 ρt = wipeD vs 0 (wipeD vs 0 ρi) := hT _ _ _ eT
  have pkt : Pk (wipeD vs 0 ρi) ρt := fun i d h => (pn2 i d h).2
  have S2 : LcJ K mg m σ2 F1 H1 L1 Li ρt Da H' F3 Li ρt acc (ys0 ++ zs) := by
    obtain ⟨h1, h2, h3⟩ := keepD (g3.exm m Li ρi).ex I.hd I.nl I.nf
    exact ⟨er2, I.ex.trans (g3.exm m Li ρi).ex, Pk.refl _, fun hm => ⟨rfl, rfl, (I.pu hm).2.2.trans g3.hh⟩, h1, h2, h3, I.ra.same g3.ff⟩
  refine ⟨F3, Li, ρt, er2, ?_⟩
  cases ec : c ρt with
  | stuck => rw [ec] at eq; cases eq
  | err x ρ' => rw [ec] at eq; cases eq
  | ok b ρ4 =>
  intro b' F4 H4 L4 x4 er4 rb
  have rb : b' = b := rb
  subst rb
  have S4 := S2.step x4 er4
  cases b' with
  | false =>
    rw [if_neg Bool.false_ne_true]
    rw [ec] at eq
    simp only at eq
    by_cases l4 : lightAt vs 0 ρ4 = true
    rotate_left
    · rw [if_neg l4] at eq; cases eq
    rw [if_pos l4] at eq
    exact ⟨hlt, F4, L4, _, acc, zs, rest, lcj_back I g3 hl hwt off2 pkt S4 x4.ex.ff l4, (fs.trans g3.ff).trans x4.ex.ff, ez, eq⟩
  | true =>
    rw [if_pos rfl]
    rw [ec] at eq
    simp only at eq
    refine ⟨F4, L4, ρ4, er4, ?_⟩
    cases ee : e ρ4 with
    | stuck => rw [ee] at eq; cases eq
    | err x ρ' => rw [ee] at eq; cases eq
    | ok yd ρ5 =>
    rw [ee] at eq
    simp only at eq
    intro v F5 H5 L5 x5 er5 rv
    by_cases l5 : lightAt vs 0 ρ5 = true
    rotate_left
    · rw [if_neg l5] at eq; cases eq
    rw [if_pos l5] at eq
    have S5 := S4.step x5 er5
    have B5 := lcj_back I g3 hl hwt off2 pkt S5 (x4.ex.ff.trans x5.ex.ff) l5
    cases el : lcGo T c e vs (ds.drop (i + 1)) (mixD vs 0 ρi ρ5) with
    | stuck => rw [el] at eq; cases eq
    | err x ρ' => rw [el] at eq; cases eq
    | ok rest' ρ6 =>
    rw [el] at eq
    cases eq
    refine ⟨acc, S5.hd, ?_, hlt, F5, L5, _, acc ++ [v], zs ++ [yd], rest', ?_, ((fs.trans g3.ff).trans x4.ex.ff).trans x5.ex.ff, by rw [ez]; simp, el⟩
    · rw [S5.ra.length, line_eq]
      rw [ez] at hlim
      simp only [List.length_append, List.length_cons] at hlim ⊢
      omega
    · have := B5.app hDa rv
      rw [List.append_assoc] at this
      exact this
end
def lcGo2 (T : D → EnvD → Option EnvD) (c : M Bool) (T1 : D → EnvD → Option EnvD) (src1 : M (List D)) (c1 : M Bool) (e : M D) (vs vs1 : List Nat) : List D → EnvD → Rs (List D)
  | [], ρ => .ok [] ρ
  | d :: ds, ρ => if lightAt vs 0 ρ then match T d (wipeD vs 0 ρ) with
    | none => .stuck
    | some ρ1 => match c ρ1 with
      | .ok true ρ2 => match src1 ρ2 with
        | .ok ds1 ρ3 => match lcGo T1 c1 e vs1 ds1 ρ3 with
          | .ok ys ρ4 => if lightAt vs 0 ρ4 then match lcGo2 T c T1 src1 c1 e vs vs1 ds (mixD vs 0 ρ ρ4) with
              | .ok zs ρ5 => .ok (ys ++ zs) ρ5
              | .err x ρ5 => .err x ρ5
              | .stuck => .stuck
            else .stuck
          | _ => .stuck
        | _ => .stuck
      | .ok false ρ2 => if lightAt vs 0 ρ2 then lcGo2 T c T1 src1 c1 e vs vs1 ds (mixD vs 0 ρ ρ2) else .stuck
      | _ => .stuck
    else .stuck
def eLc2 (T : D → EnvD → Option EnvD) (src : M (List D)) (c : M Bool) (T1 : D → EnvD → Option EnvD) (src1 : M (List D)) (c1 : M Bool) (e : M D) (vs vs1 : List Nat) : M D := bnd src fun ds => bnd (lcGo2 T c T1 src1 c1 e vs vs1 ds) fun ys => lift (if ys.length ≤ lim then some (.lst ys) else none)
theorem lc2_read {K : PySem.W.Frag} {mg : Mg} {W : WX} {m : Bool} {vs vs1 : List Nat} {T T1 : D → EnvD → Option EnvD} {src src1 : M (List D)} {c c1 : M Bool} {e : M D} {σ : L2.St} {H : Hp} {Q : VK} (hT : TOk vs T) (hT1 : TOk vs1 T1) (z : tG (Rp K mg) K mg W m (eLc2 T src c T1 src1 c1 e vs vs1) σ H Q) :
    tLc2 (tI K mg W m src) (tgR K mg vs T) (tG REq K mg W0 m c) (tI K mg W0 m src1) (tgR K mg vs1 T1) (tG REq K mg W0 m c1) (tG (Rp K mg) K mg W0 m e) vs vs1 σ H Q := by
  obtain ⟨F, L, ρ, er, p⟩ := z
  refine ⟨F, L, ρ, er, ?_⟩
  unfold eLc2 bnd at p
  cases es : src ρ with
  | stuck => rw [es] at p; exact p
  | err x ρ' => rw [es] at p; exact p
  | ok ds ρ1 =>
  rw [es] at p
  intro J F1 H1 L1 x1 er1 wl
  have p1 := Post.mono p x1
  clear p
  simp only at p1
  cases eg : lcGo2 T c T1 src1 c1 e vs vs1 ds ρ1 with
  | stuck => rw [eg] at p1; exact p1.elim
  | err x ρ' =>
    have noerr : ∀ (ds : List D) (ρ : EnvD) x ρ', lcGo2 T c T1 src1 c1 e vs vs1 ds ρ ≠ .err x ρ' := by
      intro ds
      induction ds with
      | nil => intro ρ x ρ' h; cases h
      | cons d ds ih =>
        intro ρ x ρ' h
        unfold lcGo2 at h
        repeat' (first | (split at h) | cases h)
        all_goals first
          | exact ih _ _ _ (by assumption)
          | exact ih _ _ _ h
          | (rename_i q; exact ih _ _ _ q)
    exact absurd eg (noerr _ _ _ _)
  | ok all ρn =>
  rw [eg] at p1
  simp only at p1
  unfold lift at p1
  split at p1
  rotate_left
  · exact p1.elim
  rename_i d hd
  split at hd
  rotate_left
  · cases hd
  rename_i hlim
  cases hd
  have hlim : all.length ≤ 16777216 := hlim
  intro Da hDa
  have hD1L : Da ∉ L1 := fun z => by
    obtain ⟨_, o, ho⟩ := er1.rs.out _ z
    rw [hDa] at ho; cases ho
  have hD1F : F1 Da = none := er1.fh.free hDa
  let Pv : Nat → Hp → Prop := fun i H => i ≤ ds.length ∧ ∃ Fi Li ρi acc zs rest, LcJ K mg m σ F1 H1 L1 L1 ρ1 Da H Fi Li ρi acc zs ∧ all = zs ++ rest ∧ lcGo2 T c T1 src1 c1 e vs vs1 (ds.drop i) ρi = .ok rest ρn
  refine ⟨fun i k H => k = ds.length - i ∧ Pv i H, ⟨ds.length, by simp, Nat.zero_le _, F1, L1, ρ1, [], [], all, ⟨er1.other hD1F hD1L, (Ex.refl F1 H1 L1).atD hDa, Pk.refl _, fun _ => ⟨rfl, rfl, fun b u h => by rw [upd_ne (ne_of_none h hDa)]; exact h⟩, upd_same, hD1L, hD1F, .nil⟩, rfl, eg⟩, ?_⟩
  rintro i k H ⟨rfl, hi, Fi, Li, ρi, acc, zs, rest, I, ez, eq⟩
  by_cases hlt : i < ds.length
  rotate_left
  · have ei : i = ds.length := by omega
    subst ei
    rw [List.drop_eq_nil_of_le (Nat.le_refl _)] at eq
    unfold lcGo2 at eq
    cases eq
    rw [List.append_nil] at ez
    subst ez
    have ff : Same Fi (upd Fi Da (.lst acc)) := fun b u h => by rw [upd_ne (ne_of_none h I.nf)]; exact h
    refine .inl ⟨wl.stops Fi H I.ex.ff I.er.fh, p1 (.ref Da) (upd Fi Da (.lst acc)) H Li ⟨⟨I.ex.ff.trans ff, I.ex.keep, fun b u h => ?_, I.ex.ldom⟩, I.pk, I.pu⟩ (I.er.known I.nf I.hd I.nl) (.lst upd_same (I.ra.same ff))⟩
    by_cases hb : b = Da
    · subst hb; exact .inr (.inr hDa)
    · rw [upd_ne hb] at h; exact I.ex.fdom b u h
  refine .inr ⟨wl.goes i Fi H hlt I.ex.ff I.er.fh, Pv (i + 1), fun H' p' => ⟨ds.length - (i + 1), by omega, rfl, p'⟩, fun x H' y => ?_⟩
  obtain ⟨d, F3, hd, g3, rx⟩ := wl.yields i Fi H x H' hlt I.ex.ff I.er.fh y
  have er3 := g3.er I.er
  have hdrop : ds.drop i = d :: ds.drop (i + 1) := by
    obtain ⟨hlt, he⟩ := List.getElem?_eq_some_iff.mp hd
    rw [← he, List.getElem_cons_drop]
  rw [hdrop] at eq
  unfold lcGo2 at eq
  by_cases hl : lightAt vs 0 ρi = true
  rotate_left
  · rw [if_neg hl] at eq; cases eq
  rw [if_pos hl] at eq
  cases eT : T d (wipeD vs 0 ρi) with
  | none => rw [eT] at eq; cases eq
  | some ρt =>
  rw [eT] at eq
  simp only at eq
  refine ⟨F3, Li, wipeD vs 0 ρi, d, ρt, er3.wiped hl, rx, eT, fun σ2 L2 er2 lt2 off2 pn2 => ⟨blk_wipe off2, ?_⟩⟩
  obtain ⟨eL2, _⟩ := lt2.2 (wipeD_light vs ρi 0)
  rw [eL2] at er2
  have hwt : wipeD vs 0 ρt = wipeD vs 0 (wipeD vs 0 ρi) := hT _ _ _ eT
  have pkt : Pk (wipeD vs 0 ρi) ρt := fun i d h => (pn2 i d h).2
  have S2 : LcJ K mg m σ2 F1 H1 L1 Li ρt Da H' F3 Li ρt acc zs := by
    obtain ⟨h1, h2, h3⟩ := keepD (g3.exm m Li ρi).ex I.hd I.nl I.nf
    exact ⟨er2, I.ex.trans (g3.exm m Li ρi).ex, Pk.refl _, fun hm => ⟨rfl, rfl, (I.pu hm).2.2.trans g3.hh⟩, h1, h2, h3, I.ra.same g3.ff⟩
  refine ⟨F3, Li, ρt, er2, ?_⟩
  cases ec : c ρt with
  | stuck => rw [ec] at eq; cases eq
  | err x ρ' => rw [ec] at eq; cases eq
  | ok b ρ4 =>
  intro b' F4 H4 L4 x4 er4 rb
  have rb : b' = b := rb
  subst rb
  have S4 := S2.step x4 er4
  cases b' with
  | false =>
    rw [if_neg Bool.false_ne_true]
    rw [ec] at eq
    simp only at eq
    by_cases l4 : lightAt vs 0 ρ4 = true
    rotate_left
    · rw [if_neg l4] at eq; cases eq
    rw [if_pos l4] at eq
    exact ⟨hlt, F4, L4, _, acc, zs, rest, lcj_back I g3 hl hwt off2 pkt S4 x4.ex.ff l4, ez, eq⟩
  | true =>
    rw [if_pos rfl]
    rw [ec] at eq
    simp only at eq
    refine ⟨F4, L4, ρ4, er4, ?_⟩
    cases ee : src1 ρ4 with
    | stuck => rw [ee] at eq; cases eq
    | err x ρ' => rw [ee] at eq; cases eq
    | ok ds1 ρ5 =>
    rw [ee] at eq
    simp only at eq
    intro J1 F5 H5 L5 x5 er5 wl1
    have S5 := S4.step x5 er5
    cases el1 : lcGo T1 c1 e vs1 ds1 ρ5 with
    | stuck => rw [el1] at eq; cases eq
    | err x ρ' => rw [el1] at eq; cases eq
    | ok ys ρ6 =>
    rw [el1] at eq
    simp only at eq
    by_cases l6 : lightAt vs 0 ρ6 = true
    rotate_left
    · rw [if_neg l6] at eq; cases eq
    rw [if_pos l6] at eq
    cases el : lcGo2 T c T1 src1 c1 e vs vs1 (ds.drop (i + 1)) (mixD vs 0 ρi ρ6) with
    | stuck => rw [el] at eq; cases eq
    | err x ρ' => rw [el] at eq; cases eq
    | ok rest' ρ7 =>
    rw [el] at eq
    cases eq
    refine lc_loop hT1 S5 hDa wl1 el1 ?_ fun Fn Hn Ln acc2 S6 ff => ?_
    · rw [ez] at hlim
      simp only [List.length_append] at hlim ⊢
      omega
    · exact ⟨hlt, Fn, Ln, _, acc2, zs ++ ys, rest', lcj_back I g3 hl hwt off2 pkt S6 ((x4.ex.ff.trans x5.ex.ff).trans ff) l6, by rw [ez]; simp, el⟩
section
variable {X : Cx} {W : WX} {m : Bool}
theorem d_lc2 {elt tg iter tg1 iter1 : Expr} {ifs ifs1 : List Expr} {scope : Scope} {own : List (Str × Nat)} {pos : Pos} {vs vs1 : List Nat} {T T1 : D → EnvD → Option EnvD} {src src1 : M (List D)} {c c1 : M Bool} {e : M D} (hc : X.calm = true) (hN : X.N.Nodup) (hi : DI X W m tg iter src)
    (ok : BlkOk X.N X.env.scope scope own) (hvs : own.map (·.2) = vs) (hv : ∀ i ∈ vs1, i ∈ own.map (·.2)) (hT : TOk vs T) (hT1 : TOk vs1 T1)
    (hg : ∀ (s : Shared) (H : Hp) (C : Addr) (cl : List (Str × Addr)) (fp : List Addr), DG (X.blk s H scope (compEnvC scope cl C X.env) fp) vs tg T)
    (ht : ∀ (s : Shared) (H : Hp) (C : Addr) (cl : List (Str × Addr)) (fp : List Addr), DTs (X.blk s H scope (compEnvC scope cl C X.env) fp) W0 m ifs c)
    (hi1 : ∀ (s : Shared) (H : Hp) (C : Addr) (cl : List (Str × Addr)) (fp : List Addr), DI (X.blk s H scope (compEnvC scope cl C X.env) fp) W0 m tg1 iter1 src1)
    (hg1 : ∀ (s : Shared) (H : Hp) (C : Addr) (cl : List (Str × Addr)) (fp : List Addr), DG (X.blk s H scope (compEnvC scope cl C X.env) fp) vs1 tg1 T1)
    (ht1 : ∀ (s : Shared) (H : Hp) (C : Addr) (cl : List (Str × Addr)) (fp : List Addr), DTs (X.blk s H scope (compEnvC scope cl C X.env) fp) W0 m ifs1 c1)
    (he : ∀ (s : Shared) (H : Hp) (C : Addr) (cl : List (Str × Addr)) (fp : List Addr), DE (X.blk s H scope (compEnvC scope cl C X.env) fp) W0 m elt e)
    (hs : ∀ x, foldedSetIterable iter X.env x = pure x := by intro _; rfl) (hs1 : ∀ env x, foldedSetIterable iter1 env x = pure x := by intro _ _; rfl) :
    DE X W m (.ListComp elt [⟨tg, iter, ifs, 0⟩, ⟨tg1, iter1, ifs1, 0⟩] scope pos) (eLc2 T src c T1 src1 c1 e vs vs1) :=
  PE.imp (pe_lc2 (g := tgR X.K X.mg vs T) (tt := tG REq X.K X.mg W0 m c) (wi1 := tI X.K X.mg W0 m src1) (g1 := tgR X.K X.mg vs1 T1) (tt1 := tG REq X.K X.mg W0 m c1) (te := tG (Rp X.K X.mg) X.K X.mg W0 m e) hc hN hi ok hv hg ht hi1 hg1 ht1 he hs hs1) fun σ H Q z => by
    rw [hvs]
    exact lc2_read hT hT1 z
theorem ds_setLc2 {i : Nat} {y : Str} {py : Pos} {elt tg iter tg1 iter1 : Expr} {ifs ifs1 : List Expr} {scope : Scope} {own : List (Str × Nat)} {pos spos : Pos} {vs vs1 : List Nat} {T T1 : D → EnvD → Option EnvD} {src src1 : M (List D)} {c c1 : M Bool} {e : M D} (hc : X.calm = true) (hN : X.N.Nodup) (hy : X.N[i]? = some y) (hyl : X.env.scope.names.lookup y = some .local)
    (hsw : swapsWith (.ListComp elt [⟨tg, iter, ifs, 0⟩, ⟨tg1, iter1, ifs1, 0⟩] scope pos) (some (.Name y py)) spos.line X.env = pure true) (hi : DI X W m tg iter src)
    (ok : BlkOk X.N X.env.scope scope own) (hvs : own.map (·.2) = vs) (hv : ∀ i ∈ vs1, i ∈ own.map (·.2)) (hT : TOk vs T) (hT1 : TOk vs1 T1)
    (hg : ∀ (s : Shared) (H : Hp) (C : Addr) (cl : List (Str × Addr)) (fp : List Addr), DG (X.blk s H scope (compEnvC scope cl C X.env) fp) vs tg T)
    (ht : ∀ (s : Shared) (H : Hp) (C : Addr) (cl : List (Str × Addr)) (fp : List Addr), DTs (X.blk s H scope (compEnvC scope cl C X.env) fp) W0 m ifs c)
    (hi1 : ∀ (s : Shared) (H : Hp) (C : Addr) (cl : List (Str × Addr)) (fp : List Addr), DI (X.blk s H scope (compEnvC scope cl C X.env) fp) W0 m tg1 iter1 src1)
    (hg1 : ∀ (s : Shared) (H : Hp) (C : Addr) (cl : List (Str × Addr)) (fp : List Addr), DG (X.blk s H scope (compEnvC scope cl C X.env) fp) vs1 tg1 T1)
    (ht1 : ∀ (s : Shared) (H : Hp) (C : Addr) (cl : List (Str × Addr)) (fp : List Addr), DTs (X.blk s H scope (compEnvC scope cl C X.env) fp) W0 m ifs1 c1)
    (he : ∀ (s : Shared) (H : Hp) (C : Addr) (cl : List (Str × Addr)) (fp : List Addr), DE (X.blk s H scope (compEnvC scope cl C X.env) fp) W0 m elt e)
    (hs : ∀ x, foldedSetIterable iter X.env x = pure x := by intro _; rfl) (hs1 : ∀ env x, foldedSetIterable iter1 env x = pure x := by intro _ _; rfl) :
    DS X W (.Assign [.Name y py] (.ListComp elt [⟨tg, iter, ifs, 0⟩, ⟨tg1, iter1, ifs1, 0⟩] scope pos) spos) (sAsg (tgName i) (eLc2 T src c T1 src1 c1 e vs vs1)) := by
  refine PS.imp (ps_setLc2 (g := tgR X.K X.mg vs T) (tt := tG REq X.K X.mg W0 m c) (wi1 := tI X.K X.mg W0 m src1) (g1 := tgR X.K X.mg vs1 T1) (tt1 := tG REq X.K X.mg W0 m c1) (te := tG (Rp X.K X.mg) X.K X.mg W0 m e) hc hN hy hyl hsw hi ok hv hg ht hi1 hg1 ht1 he hs hs1) fun D σ H ⟨F, L, ρ, er, p⟩ => ?_
  have z : tG (Rp X.K X.mg) X.K X.mg W m (eLc2 T src c T1 src1 c1 e vs vs1) σ H fun x H1 => gName i x σ H1 D.nx := tS_do er p fun v d F1 H1 L1 ρ1 x1 er1 r p1 => by
    unfold sTg at p1
    cases e : tgName i d ρ1 with
    | none => rw [e] at p1; exact p1.elim
    | some ρ' =>
      rw [e] at p1
      obtain ⟨L', a, b, c, e'⟩ := set_er (vs := [i]) (by simp) er1 r e
      exact p1 F1 H1 L' _ ⟨(Ex.refl F1 H1 L1).sub b.1, e', c.1⟩ a
  rw [hvs]
  exact lc2_read hT hT1 z
end
end Wk
set_option Elab.async false
set_option linter.all false
set_option maxRecDepth 100000
namespace Wk
open PySem L2

/-! ### plain, more -/
/-- a nat as data -/
abbrev nD (i : Nat) : D := .int (i : Int)
/-- a slot that may be written -/
def jk : Option D → Slot
  | none => .no
  | some d => .val d
@[simp] theorem canSet_jk (o : Option D) : canSet (some (jk o)) = true := by cases o <;> rfl
theorem shs_ints {n : Nat} : ∀ ns : List Int, shs (n + 1) (ns.map D.int) = true
  | [] => rfl
  | i :: ns => by simp [shs, sh, shs_ints ns]
theorem shs_nats {n : Nat} : ∀ os : List Nat, shs (n + 1) (os.map nD) = true
  | [] => rfl
  | o :: os => by simp [shs, sh, shs_nats os]
theorem eqvs_nil : ∀ xs : List D, eqvs xs [] = xs.isEmpty
  | [] => rfl
  | _ :: _ => rfl
theorem eq_nil_of {xs : List D} (h : shs 63 xs = true) : eqD (.lst xs) (.lst []) = some xs.isEmpty := by
  have e1 : sh 64 (.lst xs) = true := h
  have e2 : sh 64 (.lst []) = true := rfl
  have e3 : eqv (.lst xs) (.lst []) = eqvs xs [] := rfl
  simp only [eqD, e1, e2, Bool.and_self, if_true, e3, eqvs_nil]
theorem ne_nil_of {xs : List D} (h : shs 63 xs = true) : neD (.lst xs) (.lst []) = some (!xs.isEmpty) := by
  have e1 : sh 64 (.lst xs) = true := h
  have e2 : sh 64 (.lst []) = true := rfl
  have e3 : eqv (.lst xs) (.lst []) = eqvs xs [] := rfl
  simp only [neD, e1, e2, Bool.and_self, if_true, e3, eqvs_nil]
theorem any_nats (c : Nat) : ∀ os : List Nat, anyEq (nD c) (os.map nD) = os.contains c
  | [] => rfl
  | o :: os => by
    have := any_nats c os
    simp only [anyEq, List.map_cons, List.any_cons] at this ⊢
    rw [this, List.contains_cons]
    have e : eqv (nD o) (nD c) = ((o : Int) == (c : Int)) := rfl
    rw [e]
    congr 1
    by_cases h : o = c
    · subst h; simp
    · have h' : ¬ c = o := fun z => h z.symm
      have h2 : ¬ (o : Int) = (c : Int) := by omega
      rw [beq_eq_false_iff_ne.mpr h2, beq_eq_false_iff_ne.mpr h']
theorem in_nats (c : Nat) (os : List Nat) : inD (nD c) (.lst (os.map nD)) = some (os.contains c) := by
  have e1 : sh 60 (nD c) = true := rfl
  have e2 : shs 60 (os.map nD) = true := shs_nats os
  have e3 : inD (nD c) (.lst (os.map nD)) = inSeq (nD c) (os.map nD) := rfl
  simp only [e3, inSeq, e1, e2, Bool.and_self, if_true, any_nats]
theorem nin_nats (c : Nat) (os : List Nat) : ninD (nD c) (.lst (os.map nD)) = some (!os.contains c) := by
  simp only [ninD, in_nats, Option.map_some]
theorem mem_pairs : ∀ {ds : List D} {i : Nat} {d : D}, d ∈ pairsD i ds → ∃ (j : Nat) (x : D), ds[j]? = some x ∧ d = .tup [.int ((i + j : Nat) : Int), x]
  | [], _, _, h => by simp [pairsD] at h
  | y :: ds, i, d, h => by
    simp only [pairsD, List.mem_cons] at h
    rcases h with rfl | h
    · exact ⟨0, y, rfl, rfl⟩
    · obtain ⟨j, x, h1, rfl⟩ := mem_pairs h
      exact ⟨j + 1, x, h1, by rw [show i + 1 + j = i + (j + 1) by omega]⟩
theorem at_nat {α : Type} {xs : List α} {i : Nat} {x : α} (h : xs[i]? = some x) : atI xs (i : Int) = some x := by
  have hlt := (List.getElem?_eq_some_iff.mp h).1
  unfold atI ixN
  have e1 : ¬ (i : Int) < 0 := by omega
  simp [e1, hlt]
  exact (List.getElem?_eq_some_iff.mp h).2
theorem getD_at {α : Type} {xs : List α} {d : α} {i : Nat} (h : i < xs.length) : atI xs (i : Int) = some (xs.getD i d) := at_nat (by simp [List.getD, h])
theorem lim_big {n : Nat} (h : n ≤ 10000) : n ≤ lim := Nat.le_trans h (by decide)
theorem range_nD (n : Nat) : rangeD 0 n = (List.range n).map nD := by
  unfold rangeD
  congr 1
  funext i
  simp
/-- a comprehension over nats with a test on nats -/
theorem lc_nats {T : D → EnvD → Option EnvD} {c : M Bool} {e : M D} {vs : List Nat} {ρ : EnvD} {B : Nat → EnvD} {p : Nat → Bool} {g : Nat → D} (hl : lightAt vs 0 ρ = true) : ∀ {os : List Nat}, (∀ i ∈ os, T (nD i) (wipeD vs 0 ρ) = some (B i) ∧ c (B i) = .ok (p i) (B i) ∧ (p i = true → e (B i) = .ok (g i) (B i)) ∧ lightAt vs 0 (B i) = true ∧ mixD vs 0 ρ (B i) = ρ) →
    lcGo T c e vs (os.map nD) ρ = .ok ((os.filter p).map g) ρ
  | [], _ => rfl
  | i :: os, h => by
    obtain ⟨h1, h2, h3, h4, h5⟩ := h i (by simp)
    have ih := lc_nats hl (os := os) fun x hx => h x (by simp [hx])
    simp only [List.map_cons]
    unfold lcGo
    rw [hl, h1]
    simp only [if_true, h2]
    cases hp : p i with
    | false => simp only [h4, if_true, h5, ih, List.filter_cons, hp, Bool.false_eq_true, if_false]
    | true => simp only [h3 hp, h4, if_true, h5, ih, List.filter_cons, hp, List.map_cons]
/-- a comprehension over mapped things -/
theorem lc_map {α : Type} {f : α → D} {T : D → EnvD → Option EnvD} {c : M Bool} {e : M D} {vs : List Nat} {ρ : EnvD} {B : α → EnvD} {p : α → Bool} {g : α → D} (hl : lightAt vs 0 ρ = true) : ∀ {os : List α}, (∀ i ∈ os, T (f i) (wipeD vs 0 ρ) = some (B i) ∧ c (B i) = .ok (p i) (B i) ∧ (p i = true → e (B i) = .ok (g i) (B i)) ∧ lightAt vs 0 (B i) = true ∧ mixD vs 0 ρ (B i) = ρ) →
    lcGo T c e vs (os.map f) ρ = .ok ((os.filter p).map g) ρ
  | [], _ => rfl
  | i :: os, h => by
    obtain ⟨h1, h2, h3, h4, h5⟩ := h i (by simp)
    have ih := lc_map hl (os := os) fun x hx => h x (by simp [hx])
    simp only [List.map_cons]
    unfold lcGo
    rw [hl, h1]
    simp only [if_true, h2]
    cases hp : p i with
    | false => simp only [h4, if_true, h5, ih, List.filter_cons, hp, Bool.false_eq_true, if_false]
    | true => simp only [h3 hp, h4, if_true, h5, ih, List.filter_cons, hp, List.map_cons]
/-- two sources, nothing left behind, no test -/
theorem lc2_map {α β : Type} {f : α → D} {f1 : β → D} {T T1 : D → EnvD → Option EnvD} {src1 : M (List D)} {e : M D} {vs vs1 : List Nat} {ρ : EnvD} {B : α → EnvD} {B1 : α → β → EnvD} {os1 : α → List β} {g : α → β → D} (hl : lightAt vs 0 ρ = true) : ∀ {os : List α},
    (∀ i ∈ os, T (f i) (wipeD vs 0 ρ) = some (B i) ∧ src1 (B i) = .ok ((os1 i).map f1) (B i) ∧ lightAt vs1 0 (B i) = true ∧ lightAt vs 0 (B i) = true ∧ mixD vs 0 ρ (B i) = ρ ∧
      ∀ j ∈ os1 i, T1 (f1 j) (wipeD vs1 0 (B i)) = some (B1 i j) ∧ e (B1 i j) = .ok (g i j) (B1 i j) ∧ lightAt vs1 0 (B1 i j) = true ∧ mixD vs1 0 (B i) (B1 i j) = B i) →
    lcGo2 T cYes T1 src1 cYes e vs vs1 (os.map f) ρ = .ok (os.flatMap fun i => (os1 i).map (g i)) ρ
  | [], _ => rfl
  | i :: os, h => by
    obtain ⟨h1, h2, h3, h4, h5, h6⟩ := h i (by simp)
    have ih := lc2_map hl (os := os) fun x hx => h x (by simp [hx])
    have e1 := lc_map (f := f1) (c := cYes) (p := fun _ => true) (g := g i) (B := B1 i) h3 (os := os1 i) fun j hj => ⟨(h6 j hj).1, rfl, fun _ => (h6 j hj).2.1, (h6 j hj).2.2.1, (h6 j hj).2.2.2⟩
    rw [List.filter_eq_self.mpr (fun _ _ => rfl)] at e1
    simp only [List.map_cons]
    unfold lcGo2
    simp only [hl, if_true, h1, cYes_ap, h2, e1, h4, h5, ih, List.flatMap_cons]
theorem eLc2_ok {T T1 : D → EnvD → Option EnvD} {src src1 : M (List D)} {c c1 : M Bool} {e : M D} {vs vs1 : List Nat} {ρ ρ1 ρ2 : EnvD} {ds ys : List D} (h1 : src ρ = .ok ds ρ1) (h2 : lcGo2 T c T1 src1 c1 e vs vs1 ds ρ1 = .ok ys ρ2) (hl : ys.length ≤ lim) : eLc2 T src c T1 src1 c1 e vs vs1 ρ = .ok (.lst ys) ρ2 := by
  unfold eLc2
  simp only [bnd_ap, h1, h2, if_pos hl, lift_some]
@[simp] theorem sApp_ap {i : Nat} {f : M D} {ρ : EnvD} : sApp i f ρ = if mineL ρ[i]? then sDo f (fun d => putL i fun xs => if xs.length < lim then some (xs ++ [d]) else none) ρ else .stuck := rfl
@[simp] theorem mineL_own (xs : List D) : mineL (some (.own (.lst xs))) = true := rfl
@[simp] theorem mineL_pin (xs : List D) : mineL (some (.pin (.lst xs))) = true := rfl
theorem putL_own {i : Nat} {gg : List D → Option (List D)} {ρ : EnvD} {xs ys : List D} (h : ρ[i]? = some (.own (.lst xs))) (e : gg xs = some ys) : putL i gg ρ = .ok .nx (ρ.set i (.own (.lst ys))) := by
  unfold putL
  rw [h]
  simp only [e]
theorem for_brk {T : D → EnvD → Option EnvD} {s : SM} {I Z : EnvD → Prop} {w : D} {post : List D} (hw : ∀ ρ, I ρ → ∃ ρ1 ρ2, T w ρ = some ρ1 ∧ s ρ1 = .ok .bk ρ2 ∧ Z ρ2) : ∀ {pre : List D} {ρ : EnvD}, I ρ → (∀ d ∈ pre, ∀ ρ, I ρ → ∃ ρ1 ρ2, T d ρ = some ρ1 ∧ s ρ1 = .ok .nx ρ2 ∧ I ρ2) →
    ∃ ρ', forGo T s (pre ++ w :: post) ρ = .ok .nx ρ' ∧ Z ρ'
  | [], ρ, hI, _ => by
    obtain ⟨ρ1, ρ2, h1, h2, h3⟩ := hw ρ hI
    refine ⟨ρ2, ?_, h3⟩
    rw [List.nil_append]
    unfold forGo
    simp only [h1, h2]
  | d :: pre, ρ, hI, h => by
    obtain ⟨ρ1, ρ2, h1, h2, h3⟩ := h d (by simp) ρ hI
    obtain ⟨ρ', e, z⟩ := for_brk (post := post) hw (pre := pre) h3 fun x hx => h x (by simp [hx])
    refine ⟨ρ', ?_, z⟩
    rw [List.cons_append]
    unfold forGo
    simp only [h1, h2, e]
theorem all_of {ds ys : List D} {R : D → D → Prop} (hl : ys.length = ds.length) (h : ∀ (i : Nat) (d y : D), ds[i]? = some d → ys[i]? = some y → R d y) {P : D → Prop} (hP : ∀ d y, R d y → P y) : ∀ y ∈ ys, P y := fun y hy => by
  obtain ⟨i, hi, e⟩ := List.mem_iff_getElem.mp hy
  have hi' : i < ds.length := by omega
  exact hP _ y (h i ds[i] y (List.getElem?_eq_getElem hi') (by rw [List.getElem?_eq_getElem hi, e]))
def isTrue : Rs Fl → Bool
  | .ok (.rt (.bl true)) _ => true
  | _ => false
theorem isTrue_ok {r : Rs Fl} (h : isTrue r = true) : ∃ ρ, r = .ok (.rt (.bl true)) ρ := by
  unfold isTrue at h
  split at h
  · exact ⟨_, rfl⟩
  · cases h
theorem cmpOks_nats {n : Nat} : ∀ os : List Nat, cmpOks (n + 1) (os.map nD) = true
  | [] => rfl
  | o :: os => by simp [cmpOks, cmpOk, cmpOks_nats os]
theorem le_int (i j : Int) : leD (.int i) (.int j) = some (decide (i ≤ j)) := rfl
theorem lt_int (i j : Int) : ltD (.int i) (.int j) = some (decide (i < j)) := rfl
end Wk
set_option Elab.async false
set_option linter.all false
set_option maxRecDepth 100000
set_option maxHeartbeats 0
namespace K59
open PySem PySem.Spec PyProof.Rows L2 Wk
def top (i : Nat) : Stmt := PySem.Challenge.pw_wickerwork_k59_whole_baskets_that_fit.main.body.getD i (.Pass ⟨0, 0, 0, 0⟩)
abbrev t_is_whole : Stmt := top 5
abbrev t_fits_whole : Stmt := top 6
abbrev t_is_tuple_of : Stmt := top 7
abbrev t_fits_basket : Stmt := top 11
abbrev t_fits_baskets : Stmt := top 12
abbrev t_need_basket : Stmt := top 13
abbrev t_need_baskets : Stmt := top 14
abbrev t_need_number : Stmt := top 15
abbrev t_goes_in : Stmt := top 16
abbrev t_holders_in : Stmt := top 17
abbrev t_is_basket : Stmt := top 18
abbrev t_are_baskets : Stmt := top 19
abbrev t_fits_in : Stmt := top 20
abbrev t_inside_of : Stmt := top 21
abbrev t_tight_holders : Stmt := top 22
abbrev t_lone_baskets : Stmt := top 23
abbrev t__law_cup : Stmt := top 25
abbrev t__law_roll : Stmt := top 26
abbrev t__law_some : Stmt := top 27
abbrev t__law_same : Stmt := top 28
abbrev t__law_baskets : Stmt := top 29
abbrev t__law_holders : Stmt := top 30
abbrev t__law_is_basket : Stmt := top 31
abbrev t__law_right : Stmt := top 32
abbrev t_law : Stmt := top 33
def s_is_whole : SM :=
  (sRet (eAnd (eUn (isiD "int") (eVar 0)) (eUn notD (eUn (isiD "bool") (eVar 0)))))
def f_is_whole : M D := runDef 1 0 s_is_whole
def s_fits_whole : SM :=
  (sRet (eAnd (eCall 1 f_is_whole (eCons (eVar 0) eNil)) (eChain leD leD (eVar 1) (eVar 0) (eVar 2))))
def f_fits_whole : M D := runDef 3 0 s_fits_whole
def s_is_tuple_of : SM :=
  (sRet (eAnd (eUn (isiD "tuple") (eVar 0)) (eChain leD leD (eVar 1) (eB bLen (eCons (eVar 0) eNil)) (eVar 2))))
def f_is_tuple_of : M D := runDef 3 0 s_is_tuple_of
def s_fits_basket : SM :=
  (sRet (eAnd (eCall 3 f_is_tuple_of (eCons (eVar 0) (eCons (eC (.int 2)) (eCons (eC (.int 2)) eNil)))) (eB bAll (eCons (eLc (tgName 1) (iOf anyOf (eVar 0)) cYes (eCall 3 f_fits_whole (eCons (eVar 1) (eCons (eC (.int 1)) (eCons (eC (.int 99)) eNil)))) [1]) eNil))))
def f_fits_basket : M D := runDef 1 1 s_fits_basket
def s_fits_baskets : SM :=
  (sRet (eAnd (eCall 3 f_is_tuple_of (eCons (eVar 0) (eCons (eC (.int 1)) (eCons (eC (.int 12)) eNil)))) (eB bAll (eCons (eLc (tgName 1) (iOf anyOf (eVar 0)) cYes (eCall 1 f_fits_basket (eCons (eVar 1) eNil)) [1]) eNil))))
def f_fits_baskets : M D := runDef 1 1 s_fits_baskets
def s_need_basket : SM :=
  (sIf (cNot (cT (eCall 1 f_fits_basket (eCons (eVar 0) eNil)))) (sRaise "InvalidPlaces") sNil)
def f_need_basket : M D := runDef 1 0 s_need_basket
def s_need_baskets : SM :=
  (sIf (cNot (cT (eCall 1 f_fits_baskets (eCons (eVar 0) eNil)))) (sRaise "InvalidPlaces") sNil)
def f_need_baskets : M D := runDef 1 0 s_need_baskets
def s_need_number : SM :=
  (sIf (cNot (cT (eCall 3 f_fits_whole (eCons (eVar 1) (eCons (eC (.int 0)) (eCons (eOp subD (eB bLen (eCons (eVar 0) eNil)) (eC (.int 1))) eNil)))))) (sRaise "InvalidNumber") sNil)
def f_need_number : M D := runDef 2 0 s_need_number
def s_goes_in : SM :=
  (sRet (eAnd (eCmp ltD (eOp ixD (eVar 0) (eC (.int 0))) (eOp ixD (eVar 1) (eC (.int 0)))) (eCmp ltD (eOp ixD (eVar 0) (eC (.int 1))) (eOp ixD (eVar 1) (eC (.int 1))))))
def f_goes_in : M D := runDef 2 0 s_goes_in
def s_holders_in : SM :=
  (sSeq (sAsg (tgName 1) (bnd (iArgs rng1 (eCons (eB bLen (eCons (eVar 0) eNil)) eNil)) fun ds => ret (.lst ds))) (sRet (eLc (tgName 3) (iOf anyOf (eVar 1)) cYes (eLc (tgName 2) (iOf anyOf (eVar 1)) (cT (eCall 2 f_goes_in (eCons (eOp ixD (eVar 0) (eVar 3)) (eCons (eOp ixD (eVar 0) (eVar 2)) eNil)))) (eVar 2) [2]) [3])))
def f_holders_in : M D := runDef 1 3 s_holders_in
def s_is_basket : SM :=
  (sRet (eCall 1 f_fits_basket (eCons (eVar 0) eNil)))
def f_is_basket : M D := runDef 1 0 s_is_basket
def s_are_baskets : SM :=
  (sRet (eCall 1 f_fits_baskets (eCons (eVar 0) eNil)))
def f_are_baskets : M D := runDef 1 0 s_are_baskets
def s_fits_in : SM :=
  (sSeq (sExpr (eCall 1 f_need_basket (eCons (eVar 0) eNil))) (sSeq (sExpr (eCall 1 f_need_basket (eCons (eVar 1) eNil))) (sRet (eCall 2 f_goes_in (eCons (eVar 0) (eCons (eVar 1) eNil))))))
def f_fits_in : M D := runDef 2 0 s_fits_in
def s_inside_of : SM :=
  (sSeq (sExpr (eCall 1 f_need_baskets (eCons (eVar 0) eNil))) (sSeq (sExpr (eCall 2 f_need_number (eCons (eVar 0) (eCons (eVar 1) eNil)))) (sRet (eB bTuple (eCons (eLc (tgTup (tgCons (tgName 2) (tgCons (tgName 3) tgNil))) (iArgs enD (eCons (eVar 0) eNil)) (cT (eCall 2 f_goes_in (eCons (eVar 3) (eCons (eOp ixD (eVar 0) (eVar 1)) eNil)))) (eVar 2) [3, 2]) eNil)))))
def f_inside_of : M D := runDef 2 2 s_inside_of
def s_tight_holders : SM :=
  (sSeq (sExpr (eCall 1 f_need_baskets (eCons (eVar 0) eNil))) (sSeq (sExpr (eCall 2 f_need_number (eCons (eVar 0) (eCons (eVar 1) eNil)))) (sSeq (sAsg (tgName 2) (eCall 1 f_holders_in (eCons (eVar 0) eNil))) (sSeq (sAsg (tgName 3) (eLc2 (tgName 4) (iOf anyOf (eOp ixD (eVar 2) (eVar 1))) cYes (tgName 5) (iOf anyOf (eOp ixD (eVar 2) (eVar 4))) cYes (eVar 5) [4, 5] [5])) (sRet (eB bTuple (eCons (eLc (tgName 5) (iOf anyOf (eOp ixD (eVar 2) (eVar 1))) (cT (eCmp ninD (eVar 5) (eVar 3))) (eVar 5) [5]) eNil)))))))
def f_tight_holders : M D := runDef 2 4 s_tight_holders
def s_lone_baskets : SM :=
  (sSeq (sExpr (eCall 1 f_need_baskets (eCons (eVar 0) eNil))) (sSeq (sAsg (tgName 1) (eCall 1 f_holders_in (eCons (eVar 0) eNil))) (sSeq (sAsg (tgName 2) (eLc2 (tgName 3) (iOf anyOf (eVar 1)) cYes (tgName 4) (iOf anyOf (eVar 3)) cYes (eVar 4) [3, 4] [4])) (sRet (eB bTuple (eCons (eLc (tgName 5) (iArgs rng1 (eCons (eB bLen (eCons (eVar 0) eNil)) eNil)) (cAnd (cT (eCmp eqD (eOp ixD (eVar 1) (eVar 5)) (eLst eNil))) (cT (eCmp ninD (eVar 5) (eVar 2)))) (eVar 5) [5]) eNil))))))
def f_lone_baskets : M D := runDef 1 5 s_lone_baskets
def s__law_cup : SM :=
  (sSeq (sAsg (tgName 1) (eB bAbs (eCons (eOp ixD (eOp addD (eB bList (eCons (eVar 0) eNil)) (eLst (eCons (eC (.int 0)) eNil))) (eC (.int 0))) eNil))) (sRetO (frLst (eCons (eIf (cT (eCmp geD (eVar 1) (eOp powD (eC (.int 10)) (eC (.int 18))))) (eOp fdivD (eVar 1) (eC (.int 151))) (eC (.int 0))) (eCons (eOp addD (eOp modD (eB bInt (eCons (eOp addD (eOp mulD (eVar 1) (eC (.int 401))) (eC (.int 4019))) eNil)) (eC (.int 2077502087))) (eC (.int 271))) eNil)))))
def f__law_cup : M (List D) := runDefO 1 1 s__law_cup
def s__law_roll : SM :=
  (sSeq (sIf (cT (eCmp gtD (eBor 0 (eOp ixD (eVar 0) (eC (.int 0)))) (eC (.int 0)))) (sSeq (sAsg (tgName 2) (eOp modD (eB bInt (eCons (eBor 0 (eOp ixD (eVar 0) (eC (.int 0)))) eNil)) (eVar 1))) (sSeq (sPut 0 (eOp fdivD (eBor 0 (eOp ixD (eVar 0) (eC (.int 0)))) (eVar 1)) (eC (.int 0))) (sRet (eVar 2)))) sNil) (sSeq (sPut 0 (eOp modD (eB bInt (eCons (eOp addD (eOp mulD (eBor 0 (eOp ixD (eVar 0) (eC (.int 1)))) (eC (.int 30851))) (eC (.int 7883))) eNil)) (eC (.int 2147482951))) (eC (.int 1))) (sSeq (sAsg (tgName 3) (eOp modD (eB bInt (eCons (eOp mulD (eBor 0 (eOp ixD (eVar 0) (eC (.int 1)))) (eOp addD (eBor 0 (eOp ixD (eVar 0) (eC (.int 1)))) (eC (.int 293)))) eNil)) (eC (.int 2147483059)))) (sRet (eOp modD (eB bInt (eCons (eOp fdivD (eVar 3) (eC (.int 911))) eNil)) (eVar 1))))))
def f__law_roll : M D := runDef 2 2 s__law_roll
def s__law_some : SM :=
  (sRet (eOp ixD (eVar 1) (eCallO 2 f__law_roll 0 (eCons (eB bLen (eCons (eVar 1) eNil)) eNil))))
def f__law_some : M D := runDef 2 0 s__law_some
def s__law_same (g : M D) : SM :=
  (sSeq (sIf (cT (eUn (isiD "tuple") (eVar 1))) (sSeq (sIf (cOr (cNot (cT (eUn (isiD "tuple") (eVar 0)))) (cT (eCmp neD (eB bLen (eCons (eVar 0) eNil)) (eB bLen (eCons (eVar 1) eNil))))) (sRet (eC (.bl false))) sNil) (sRet (eB bAll (eCons (eLc (tgName 2) (iArgs rng1 (eCons (eB bLen (eCons (eVar 1) eNil)) eNil)) cYes (eCall 2 g (eCons (eOp ixD (eVar 0) (eVar 2)) (eCons (eOp ixD (eVar 1) (eVar 2)) eNil))) [2]) eNil)))) sNil) (sSeq (sIf (cT (eCmp isND (eVar 1) (eC .non))) (sRet (eCmp isND (eVar 0) (eC .non))) sNil) (sSeq (sIf (cT (eUn (isiD "bool") (eVar 1))) (sRet (eIf (cT (eVar 1)) (eCmp isND (eVar 0) (eC (.bl true))) (eCmp isND (eVar 0) (eC (.bl false))))) sNil) (sSeq (sIf (cT (eUn (isiD "int") (eVar 1))) (sRet (eAnd (eUn (isiD "int") (eVar 0)) (eAnd (eUn notD (eUn (isiD "bool") (eVar 0))) (eCmp eqD (eB bInt (eCons (eVar 0) eNil)) (eVar 1))))) sNil) (sRet (eAnd (eUn (isiD "str") (eVar 0)) (eCmp eqD (eB bStr (eCons (eVar 0) eNil)) (eVar 1))))))))
def f__law_same : Nat → M D
  | 0 => noSem
  | m + 1 => runDef 2 1 (s__law_same (f__law_same m))
def s__law_baskets : SM :=
  (sSeq (sAsg (tgName 2) (eCallO 2 f__law_some 0 (eCons (eLst (eCons (eC (.int 4)) (eCons (eC (.int 9)) (eCons (eC (.int 99)) eNil)))) eNil))) (sSeq (sOwn 3 (frLst eNil)) (sSeq (sFor (tgName 4) (iArgs rng1 (eCons (eOp addD (eC (.int 1)) (eCallO 2 f__law_roll 0 (eCons (eVar 1) eNil))) eNil)) (sApp 3 (eTup (eCons (eOp addD (eC (.int 1)) (eCallO 2 f__law_roll 0 (eCons (eVar 2) eNil))) (eCons (eOp addD (eC (.int 1)) (eCallO 2 f__law_roll 0 (eCons (eVar 2) eNil))) eNil))))) (sSeq (frz 3) (sRet (eB bTuple (eCons (eVar 3) eNil)))))))
def f__law_baskets : M D := runDef 2 3 s__law_baskets
def s__law_holders : SM :=
  (sSeq (sOwn 1 (frLst eNil)) (sSeq (sFor (tgTup (tgCons (tgName 2) (tgCons (tgName 3) tgNil))) (iOf anyOf (eVar 0)) (sApp 1 (eLc (tgName 4) (iArgs rng1 (eCons (eB bLen (eCons (eVar 0) eNil)) eNil)) (cAnd (cT (eCmp ltD (eVar 2) (eOp ixD (eOp ixD (eVar 0) (eVar 4)) (eC (.int 0))))) (cT (eCmp ltD (eVar 3) (eOp ixD (eOp ixD (eVar 0) (eVar 4)) (eC (.int 1)))))) (eVar 4) [4]))) (sSeq (frz 1) (sRet (eVar 1)))))
def f__law_holders : M D := runDef 1 4 s__law_holders
def s__law_is_basket : SM :=
  (sSeq (sIf (cOr (cNot (cT (eUn (isiD "tuple") (eVar 0)))) (cT (eCmp neD (eB bLen (eCons (eVar 0) eNil)) (eC (.int 2))))) (sRet (eC (.bl false))) sNil) (sRet (eCmp eqD (eLc (tgName 1) (iOf anyOf (eVar 0)) (cOr (cNot (cT (eUn (isiD "int") (eVar 1)))) (cOr (cT (eUn (isiD "bool") (eVar 1))) (cNot (cT (eChain leD leD (eC (.int 1)) (eVar 1) (eC (.int 99))))))) (eVar 1) [1]) (eLst eNil))))
def f__law_is_basket : M D := runDef 1 1 s__law_is_basket
def s__law_right_1 : SM :=
  (sAsg (tgName 1) (eCallO 2 f__law_baskets 0 (eCons (eC (.int 12)) eNil)))
def s__law_right_2 : SM :=
  (sAsg (tgName 2) (eCall 1 f__law_holders (eCons (eVar 1) eNil)))
def s__law_right_3_1 : SM :=
  (sAsg (tgName 4) (eB bTuple (eCons (eLc (tgName 5) (iArgs rng1 (eCons (eB bLen (eCons (eVar 1) eNil)) eNil)) (cT (eCmp inD (eVar 3) (eOp ixD (eVar 2) (eVar 5)))) (eVar 5) [5]) eNil)))
def b__law_right_3_3 : SM :=
  (sSeq (sAsg (tgName 8) (eLc (tgName 9) (iOf anyOf (eOp ixD (eVar 2) (eVar 3))) (cT (eCmp inD (eVar 7) (eOp ixD (eVar 2) (eVar 9)))) (eVar 9) [9])) (sAsg (tgName 6) (eOp addD (eVar 6) (eIf (cT (eCmp eqD (eVar 8) (eLst eNil))) (eLst (eCons (eVar 7) eNil)) (eLst eNil)))))
def s__law_right_3_3 : SM :=
  (sFor (tgName 7) (iOf anyOf (eOp ixD (eVar 2) (eVar 3))) b__law_right_3_3)
def s__law_right_3_4 : SM :=
  (sIf (cNot (cT (eCall 2 (f__law_same 6) (eCons (eTup (eCons (eCall 2 f_inside_of (eCons (eVar 1) (eCons (eVar 3) eNil))) (eCons (eCall 2 f_tight_holders (eCons (eVar 1) (eCons (eVar 3) eNil))) eNil))) (eCons (eTup (eCons (eVar 4) (eCons (eB bTuple (eCons (eVar 6) eNil)) eNil))) eNil))))) (sRet (eC (.bl false))) sNil)
def b__law_right_3 : SM :=
  (sSeq s__law_right_3_1 (sSeq (sAsg (tgName 6) (eLst eNil)) (sSeq s__law_right_3_3 s__law_right_3_4)))
def s__law_right_3 : SM :=
  (sFor (tgName 3) (iArgs rng1 (eCons (eB bLen (eCons (eVar 1) eNil)) eNil)) b__law_right_3)
def s__law_right_4 : SM :=
  (sAsg (tgName 10) (eB bTuple (eCons (eLc (tgName 5) (iArgs rng1 (eCons (eB bLen (eCons (eVar 1) eNil)) eNil)) (cAnd (cT (eCmp eqD (eOp ixD (eVar 2) (eVar 5)) (eLst eNil))) (cT (eCmp eqD (eLc (tgName 9) (iOf anyOf (eVar 2)) (cT (eCmp inD (eVar 5) (eVar 9))) (eVar 9) [9]) (eLst eNil)))) (eVar 5) [5]) eNil)))
def s__law_right_5 : SM :=
  (sIf (cNot (cT (eCall 2 (f__law_same 6) (eCons (eCall 1 f_lone_baskets (eCons (eVar 1) eNil)) (eCons (eVar 10) eNil))))) (sRet (eC (.bl false))) sNil)
def s__law_right_6 : SM :=
  (sPar 11 12 (eCons (eCallO 2 f__law_some 0 (eCons (eVar 1) eNil)) (eCons (eCallO 2 f__law_some 0 (eCons (eVar 1) eNil)) eNil)))
def s__law_right_7 : SM :=
  (sAsg (tgName 13) (eTup (eCons (eCall 2 f_fits_in (eCons (eVar 11) (eCons (eVar 12) eNil))) (eCons (eCall 2 f_fits_in (eCons (eVar 12) (eCons (eVar 11) eNil))) eNil))))
def s__law_right_8 : SM :=
  (sIf (cNot (cT (eCall 2 (f__law_same 6) (eCons (eVar 13) (eCons (eTup (eCons (eAnd (eCmp ltD (eOp ixD (eVar 11) (eC (.int 0))) (eOp ixD (eVar 12) (eC (.int 0)))) (eCmp ltD (eOp ixD (eVar 11) (eC (.int 1))) (eOp ixD (eVar 12) (eC (.int 1))))) (eCons (eAnd (eCmp ltD (eOp ixD (eVar 12) (eC (.int 0))) (eOp ixD (eVar 11) (eC (.int 0)))) (eCmp ltD (eOp ixD (eVar 12) (eC (.int 1))) (eOp ixD (eVar 11) (eC (.int 1))))) eNil))) eNil))))) (sRet (eC (.bl false))) sNil)
def s__law_right_9 : SM :=
  (sAsg (tgName 14) (eOp ixD (eVar 1) (eC (.int 0))))
def s__law_right_10 : SM :=
  (sAsg (tgName 15) (eLst (eCons (eVar 14) (eCons (eB bList (eCons (eVar 14) eNil)) (eCons (eCut (eVar 14) pNo (pAt (eC (.int 1)))) (eCons (eOp addD (eVar 14) (eTup (eCons (eC (.int 1)) eNil))) (eCons (eTup (eCons (eC (.int 0)) (eCons (eC (.int 5)) eNil))) (eCons (eTup (eCons (eC (.int 5)) (eCons (eC (.int 0)) eNil))) (eCons (eTup (eCons (eC (.int 100)) (eCons (eC (.int 1)) eNil))) (eCons (eTup (eCons (eC (.int 1)) (eCons (eC (.int 99)) eNil))) (eCons (eTup (eCons (eC (.bl true)) (eCons (eC (.int 5)) eNil))) (eCons (eTup (eCons (eC (.int 5)) (eCons (eC .non) eNil))) eNil))))))))))))
def s__law_right_11_1 : SM :=
  (sAsg (tgName 17) (eCall 1 f__law_is_basket (eCons (eVar 16) eNil)))
def s__law_right_11_2 : SM :=
  (sIf (cNot (cT (eCall 2 (f__law_same 6) (eCons (eTup (eCons (eCall 1 f_is_basket (eCons (eVar 16) eNil)) (eCons (eCall 1 f_are_baskets (eCons (eTup (eCons (eVar 14) (eCons (eVar 16) eNil))) eNil)) eNil))) (eCons (eTup (eCons (eVar 17) (eCons (eVar 17) eNil))) eNil))))) (sRet (eC (.bl false))) sNil)
def b__law_right_11 : SM :=
  (sSeq s__law_right_11_1 s__law_right_11_2)
def s__law_right_11 : SM :=
  (sFor (tgName 16) (iOf anyOf (eOp addD (eVar 15) (eLst (eCons (eC .non) (eCons (eC (.int 5)) (eCons (eC (.str [97, 98])) (eCons (eTup eNil) (eCons (eVar 1) eNil)))))))) b__law_right_11)
def s__law_right_12 : SM :=
  (sAsg (tgName 18) (eLst (eCons (eTup eNil) (eCons (eC .non) (eCons (eLst (eCons (eVar 14) eNil)) (eCons (eVar 14) (eCons (eOp mulD (eTup (eCons (eVar 14) eNil)) (eC (.int 13))) eNil)))))))
def s__law_right_13 : SM :=
  (sRet (eAnd (eCmp isND (eCall 1 f_are_baskets (eCons (eOp mulD (eTup (eCons (eVar 14) eNil)) (eC (.int 12))) eNil)) (eC (.bl true))) (eCmp eqD (eLc (tgName 16) (iOf anyOf (eVar 18)) (cT (eCmp isnD (eCall 1 f_are_baskets (eCons (eVar 16) eNil)) (eC (.bl false)))) (eVar 16) [16]) (eLst eNil))))
def s__law_right : SM :=
  (sSeq s__law_right_1 (sSeq s__law_right_2 (sSeq s__law_right_3 (sSeq s__law_right_4 (sSeq s__law_right_5 (sSeq s__law_right_6 (sSeq s__law_right_7 (sSeq s__law_right_8 (sSeq s__law_right_9 (sSeq s__law_right_10 (sSeq s__law_right_11 (sSeq s__law_right_12 s__law_right_13))))))))))))
def f__law_right : M D := runDef 1 18 s__law_right
def s_law_1 : SM :=
  (sOwn 1 (frCall 1 f__law_cup (eCons (eVar 0) eNil)))
def s_law_2_1 : SM :=
  (sIf (cNot (cT (eCallO 1 f__law_right 1 eNil))) (sRet (eC (.bl false))) sNil)
def s_law_2 : SM :=
  (sFor (tgName 2) (iArgs rng1 (eCons (eC (.int 5)) eNil)) s_law_2_1)
def s_law_3 : SM :=
  (sAsg (tgName 3) (eOp addD (eC (.int 1)) (eCallO 2 f__law_roll 1 (eCons (eC (.int 12)) eNil))))
def s_law_4 : SM :=
  (sAsg (tgName 4) (eB bTuple (eCons (eLc (tgName 5) (iArgs rng1 (eCons (eVar 3) eNil)) cYes (eTup (eCons (eOp subD (eC (.int 50)) (eVar 5)) (eCons (eOp subD (eC (.int 90)) (eOp mulD (eC (.int 2)) (eVar 5))) eNil))) [5]) eNil)))
def s_law_5 : SM :=
  (sAsg (tgName 6) (eTup (eCons (eCall 2 f_inside_of (eCons (eVar 4) (eCons (eC (.int 0)) eNil))) (eCons (eCall 2 f_tight_holders (eCons (eVar 4) (eCons (eOp subD (eVar 3) (eC (.int 1))) eNil))) (eCons (eCall 1 f_lone_baskets (eCons (eVar 4) eNil)) eNil)))))
def s_law_6 : SM :=
  (sRet (eCall 2 (f__law_same 6) (eCons (eVar 6) (eCons (eTup (eCons (eB bTuple (eCons (bnd (iArgs rng2 (eCons (eC (.int 1)) (eCons (eVar 3) eNil))) fun ds => ret (.lst ds)) eNil)) (eCons (eIf (cT (eCmp gtD (eVar 3) (eC (.int 1)))) (eTup (eCons (eOp subD (eVar 3) (eC (.int 2))) eNil)) (eTup eNil)) (eCons (eIf (cT (eCmp eqD (eVar 3) (eC (.int 1)))) (eTup (eCons (eC (.int 0)) eNil)) (eTup eNil)) eNil)))) eNil))))
def s_law : SM :=
  (sSeq s_law_1 (sSeq s_law_2 (sSeq s_law_3 (sSeq s_law_4 (sSeq s_law_5 s_law_6)))))
def f_law : M D := runDef 1 6 s_law
/-- what the top has made -/
structure Tops (K : PySem.W.Frag) (w : World) (mg : Mg) : Prop where
  d_is_whole : HasD K mg "is_whole" (defArgs t_is_whole) (defBody t_is_whole) (defScope t_is_whole) ["value"]
  d_fits_whole : HasD K mg "fits_whole" (defArgs t_fits_whole) (defBody t_fits_whole) (defScope t_fits_whole) ["value", "low", "high"]
  d_is_tuple_of : HasD K mg "is_tuple_of" (defArgs t_is_tuple_of) (defBody t_is_tuple_of) (defScope t_is_tuple_of) ["value", "least", "most"]
  d_fits_basket : HasD K mg "fits_basket" (defArgs t_fits_basket) (defBody t_fits_basket) (defScope t_fits_basket) ["value"]
  d_fits_baskets : HasD K mg "fits_baskets" (defArgs t_fits_baskets) (defBody t_fits_baskets) (defScope t_fits_baskets) ["value"]
  d_need_basket : HasD K mg "need_basket" (defArgs t_need_basket) (defBody t_need_basket) (defScope t_need_basket) ["value"]
  d_need_baskets : HasD K mg "need_baskets" (defArgs t_need_baskets) (defBody t_need_baskets) (defScope t_need_baskets) ["value"]
  d_need_number : HasD K mg "need_number" (defArgs t_need_number) (defBody t_need_number) (defScope t_need_number) ["baskets", "value"]
  d_goes_in : HasD K mg "goes_in" (defArgs t_goes_in) (defBody t_goes_in) (defScope t_goes_in) ["one", "other"]
  d_holders_in : HasD K mg "holders_in" (defArgs t_holders_in) (defBody t_holders_in) (defScope t_holders_in) ["baskets"]
  d_is_basket : HasD K mg "is_basket" (defArgs t_is_basket) (defBody t_is_basket) (defScope t_is_basket) ["value"]
  d_are_baskets : HasD K mg "are_baskets" (defArgs t_are_baskets) (defBody t_are_baskets) (defScope t_are_baskets) ["value"]
  d_fits_in : HasD K mg "fits_in" (defArgs t_fits_in) (defBody t_fits_in) (defScope t_fits_in) ["one", "other"]
  d_inside_of : HasD K mg "inside_of" (defArgs t_inside_of) (defBody t_inside_of) (defScope t_inside_of) ["baskets", "number"]
  d_tight_holders : HasD K mg "tight_holders" (defArgs t_tight_holders) (defBody t_tight_holders) (defScope t_tight_holders) ["baskets", "number"]
  d_lone_baskets : HasD K mg "lone_baskets" (defArgs t_lone_baskets) (defBody t_lone_baskets) (defScope t_lone_baskets) ["baskets"]
  d__law_cup : HasD K mg "_law_cup" (defArgs t__law_cup) (defBody t__law_cup) (defScope t__law_cup) ["script"]
  d__law_roll : HasD K mg "_law_roll" (defArgs t__law_roll) (defBody t__law_roll) (defScope t__law_roll) ["cup", "many"]
  d__law_some : HasD K mg "_law_some" (defArgs t__law_some) (defBody t__law_some) (defScope t__law_some) ["cup", "things"]
  d__law_same : HasD K mg "_law_same" (defArgs t__law_same) (defBody t__law_same) (defScope t__law_same) ["told", "due"]
  d__law_baskets : HasD K mg "_law_baskets" (defArgs t__law_baskets) (defBody t__law_baskets) (defScope t__law_baskets) ["cup", "many"]
  d__law_holders : HasD K mg "_law_holders" (defArgs t__law_holders) (defBody t__law_holders) (defScope t__law_holders) ["baskets"]
  d__law_is_basket : HasD K mg "_law_is_basket" (defArgs t__law_is_basket) (defBody t__law_is_basket) (defScope t__law_is_basket) ["value"]
  d__law_right : HasD K mg "_law_right" (defArgs t__law_right) (defBody t__law_right) (defScope t__law_right) ["cup"]
  d_law : HasD K mg "law" (defArgs t_law) (defBody t_law) (defScope t_law) ["script"]
  n_abs : mg "abs" = none
  n_all : mg "all" = none
  n_bool : mg "bool" = none
  n_enumerate : mg "enumerate" = none
  n_int : mg "int" = none
  n_isinstance : mg "isinstance" = none
  n_len : mg "len" = none
  n_list : mg "list" = none
  n_range : mg "range" = none
  n_str : mg "str" = none
  n_tuple : mg "tuple" = none
  c_MANY : ∃ t, mg "MANY" = some (.int 12 t)
  c_SIZE : ∃ t, mg "SIZE" = some (.int 99 t)
  e_InvalidNumber : ∃ C, ExcF K mg "InvalidNumber" C
  e_InvalidPlaces : ∃ C, ExcF K mg "InvalidPlaces" C
section
variable {P : Program} {w : World} {K : PySem.W.Frag} {mg : Mg} {base : Heap}
theorem sc_is_whole : FnScope ["value"] ["value"] (defScope t_is_whole) := C8.fnScope_by (by kernel_rfl)
theorem c_is_whole (h : Tops K w mg) : CalD P w K mg base 1 "is_whole" ["value"] f_is_whole := by
    refine CalD.mk h.d_is_whole sc_is_whole rfl rfl fun f cdv A outer sh H E hr => ?_
    have tk := takes_of (X := cxOf (L2.CX P w) P w K mg base ["value"] "is_whole" (defScope t_is_whole) f cdv A outer sh H E) (E := E) rfl rfl rfl rfl
    have hu := hr.units
    have hu0 := hr.units0
    have hu1 := room_in hr
    have huD := hu_of hr
    exact (dss_one (ds_ret (m := false) (d_and (d_isi (glOf (by kernel_rfl)) h.n_isinstance (glOf (by kernel_rfl)) h.n_int (by decide +kernel) (by decide) (d_var (i := 0) rfl (visOf (by kernel_rfl)))) (d_one (d_not (d_isi (glOf (by kernel_rfl)) h.n_isinstance (glOf (by kernel_rfl)) h.n_bool (by decide +kernel) (by decide) (d_var (i := 0) rfl (visOf (by kernel_rfl)))))))))
theorem sc_fits_whole : FnScope ["value", "low", "high"] ["value", "low", "high"] (defScope t_fits_whole) := C8.fnScope_by (by kernel_rfl)
theorem c_fits_whole (h : Tops K w mg) : CalD P w K mg base 2 "fits_whole" ["value", "low", "high"] f_fits_whole := by
    refine CalD.mk h.d_fits_whole sc_fits_whole rfl rfl fun f cdv A outer sh H E hr => ?_
    have tk := takes_of (X := cxOf (L2.CX P w) P w K mg base ["value", "low", "high"] "fits_whole" (defScope t_fits_whole) f cdv A outer sh H E) (E := E) rfl rfl rfl rfl
    have hu := hr.units
    have hu0 := hr.units0
    have hu1 := room_in hr
    have huD := hu_of hr
    exact (dss_one (ds_ret (m := false) (d_and (d_callC (c_is_whole h) tk hr (by decide) rfl (glOf (by kernel_rfl)) (da_cons (d_var (i := 0) rfl (visOf (by kernel_rfl))) da_nil)) (d_one (d_chain ok_le ok_le (d_var (i := 1) rfl (visOf (by kernel_rfl))) (d_var (i := 0) rfl (visOf (by kernel_rfl))) (d_var (i := 2) rfl (visOf (by kernel_rfl))) (by kernel_rfl))))))
theorem sc_is_tuple_of : FnScope ["value", "least", "most"] ["value", "least", "most"] (defScope t_is_tuple_of) := C8.fnScope_by (by kernel_rfl)
theorem c_is_tuple_of (h : Tops K w mg) : CalD P w K mg base 1 "is_tuple_of" ["value", "least", "most"] f_is_tuple_of := by
    refine CalD.mk h.d_is_tuple_of sc_is_tuple_of rfl rfl fun f cdv A outer sh H E hr => ?_
    have tk := takes_of (X := cxOf (L2.CX P w) P w K mg base ["value", "least", "most"] "is_tuple_of" (defScope t_is_tuple_of) f cdv A outer sh H E) (E := E) rfl rfl rfl rfl
    have hu := hr.units
    have hu0 := hr.units0
    have hu1 := room_in hr
    have huD := hu_of hr
    exact (dss_one (ds_ret (m := false) (d_and (d_isi (glOf (by kernel_rfl)) h.n_isinstance (glOf (by kernel_rfl)) h.n_tuple (by decide +kernel) (by decide) (d_var (i := 0) rfl (visOf (by kernel_rfl)))) (d_one (d_chain ok_le ok_le (d_var (i := 1) rfl (visOf (by kernel_rfl))) (d_callB ok_len (glOf (by kernel_rfl)) h.n_len (by decide +kernel) (da_cons (d_var (i := 0) rfl (visOf (by kernel_rfl))) da_nil)) (d_var (i := 2) rfl (visOf (by kernel_rfl))) (by kernel_rfl))))))
theorem sc_fits_basket : FnScope ["value", "one"] ["value"] (defScope t_fits_basket) := C8.fnScope_by (by kernel_rfl)
theorem c_fits_basket (h : Tops K w mg) : CalD P w K mg base 3 "fits_basket" ["value"] f_fits_basket := by
    refine CalD.mk h.d_fits_basket sc_fits_basket rfl rfl fun f cdv A outer sh H E hr => ?_
    have tk := takes_of (X := cxOf (L2.CX P w) P w K mg base ["value", "one"] "fits_basket" (defScope t_fits_basket) f cdv A outer sh H E) (E := E) rfl rfl rfl rfl
    have hu := hr.units
    have hu0 := hr.units0
    have hu1 := room_in hr
    have huD := hu_of hr
    exact (dss_one (ds_ret (m := false) (d_and (d_callC (c_is_tuple_of h) tk hr (by decide) rfl (glOf (by kernel_rfl)) (da_cons (d_var (i := 0) rfl (visOf (by kernel_rfl))) (da_cons d_int (da_cons d_int da_nil)))) (d_one (d_callB (ok_all rfl) (glOf (by kernel_rfl)) h.n_all (by decide +kernel) (da_cons (d_lc (own := [("one", 1)]) (vs := [1]) rfl sc_fits_basket.nd (di_any (d_var (i := 0) rfl (visOf (by kernel_rfl)))) (blkOk_by (by kernel_rfl)) rfl (tok_name (i := 1) (by decide)) (fun _ _ _ _ _ => (dg_name (i := 1) sc_fits_basket.nd rfl (locOf (by kernel_rfl)) (by decide) (fnOf' (by kernel_rfl)))) (fun _ _ _ _ _ => dts_nil) (fun _ _ _ _ _ => (d_callC (c_fits_whole h) takes0 hr (by decide) rfl (glOf (by kernel_rfl)) (da_cons (d_var (i := 1) rfl (visOf (by kernel_rfl))) (da_cons d_int (da_cons (d_gint h.c_SIZE (glOf (by kernel_rfl))) da_nil)))))) da_nil))))))
theorem sc_fits_baskets : FnScope ["value", "one"] ["value"] (defScope t_fits_baskets) := C8.fnScope_by (by kernel_rfl)
theorem c_fits_baskets (h : Tops K w mg) : CalD P w K mg base 4 "fits_baskets" ["value"] f_fits_baskets := by
    refine CalD.mk h.d_fits_baskets sc_fits_baskets rfl rfl fun f cdv A outer sh H E hr => ?_
    have tk := takes_of (X := cxOf (L2.CX P w) P w K mg base ["value", "one"] "fits_baskets" (defScope t_fits_baskets) f cdv A outer sh H E) (E := E) rfl rfl rfl rfl
    have hu := hr.units
    have hu0 := hr.units0
    have hu1 := room_in hr
    have huD := hu_of hr
    exact (dss_one (ds_ret (m := false) (d_and (d_callC (c_is_tuple_of h) tk hr (by decide) rfl (glOf (by kernel_rfl)) (da_cons (d_var (i := 0) rfl (visOf (by kernel_rfl))) (da_cons d_int (da_cons (d_gint h.c_MANY (glOf (by kernel_rfl))) da_nil)))) (d_one (d_callB (ok_all rfl) (glOf (by kernel_rfl)) h.n_all (by decide +kernel) (da_cons (d_lc (own := [("one", 1)]) (vs := [1]) rfl sc_fits_baskets.nd (di_any (d_var (i := 0) rfl (visOf (by kernel_rfl)))) (blkOk_by (by kernel_rfl)) rfl (tok_name (i := 1) (by decide)) (fun _ _ _ _ _ => (dg_name (i := 1) sc_fits_baskets.nd rfl (locOf (by kernel_rfl)) (by decide) (fnOf' (by kernel_rfl)))) (fun _ _ _ _ _ => dts_nil) (fun _ _ _ _ _ => (d_callC (c_fits_basket h) takes0 hr (by decide) rfl (glOf (by kernel_rfl)) (da_cons (d_var (i := 1) rfl (visOf (by kernel_rfl))) da_nil)))) da_nil))))))
theorem sc_need_basket : FnScope ["value"] ["value"] (defScope t_need_basket) := C8.fnScope_by (by kernel_rfl)
theorem c_need_basket (h : Tops K w mg) : CalD P w K mg base 4 "need_basket" ["value"] f_need_basket := by
    refine CalD.mk h.d_need_basket sc_need_basket rfl rfl fun f cdv A outer sh H E hr => ?_
    have tk := takes_of (X := cxOf (L2.CX P w) P w K mg base ["value"] "need_basket" (defScope t_need_basket) f cdv A outer sh H E) (E := E) rfl rfl rfl rfl
    have hu := hr.units
    have hu0 := hr.units0
    have hu1 := room_in hr
    have huD := hu_of hr
    obtain ⟨_, e_InvalidPlaces⟩ := h.e_InvalidPlaces
    exact (dss_one (ds_if (m := false) (dt_not (dt_val (d_callC (c_fits_basket h) tk hr (by decide) rfl (glOf (by kernel_rfl)) (da_cons (d_var (i := 0) rfl (visOf (by kernel_rfl))) da_nil)))) (dss_one (ds_raise rfl tk e_InvalidPlaces (glOf (by kernel_rfl)))) dss_nil))
theorem sc_need_baskets : FnScope ["value"] ["value"] (defScope t_need_baskets) := C8.fnScope_by (by kernel_rfl)
theorem c_need_baskets (h : Tops K w mg) : CalD P w K mg base 5 "need_baskets" ["value"] f_need_baskets := by
    refine CalD.mk h.d_need_baskets sc_need_baskets rfl rfl fun f cdv A outer sh H E hr => ?_
    have tk := takes_of (X := cxOf (L2.CX P w) P w K mg base ["value"] "need_baskets" (defScope t_need_baskets) f cdv A outer sh H E) (E := E) rfl rfl rfl rfl
    have hu := hr.units
    have hu0 := hr.units0
    have hu1 := room_in hr
    have huD := hu_of hr
    obtain ⟨_, e_InvalidPlaces⟩ := h.e_InvalidPlaces
    exact (dss_one (ds_if (m := false) (dt_not (dt_val (d_callC (c_fits_baskets h) tk hr (by decide) rfl (glOf (by kernel_rfl)) (da_cons (d_var (i := 0) rfl (visOf (by kernel_rfl))) da_nil)))) (dss_one (ds_raise rfl tk e_InvalidPlaces (glOf (by kernel_rfl)))) dss_nil))
theorem sc_need_number : FnScope ["baskets", "value"] ["baskets", "value"] (defScope t_need_number) := C8.fnScope_by (by kernel_rfl)
theorem c_need_number (h : Tops K w mg) : CalD P w K mg base 3 "need_number" ["baskets", "value"] f_need_number := by
    refine CalD.mk h.d_need_number sc_need_number rfl rfl fun f cdv A outer sh H E hr => ?_
    have tk := takes_of (X := cxOf (L2.CX P w) P w K mg base ["baskets", "value"] "need_number" (defScope t_need_number) f cdv A outer sh H E) (E := E) rfl rfl rfl rfl
    have hu := hr.units
    have hu0 := hr.units0
    have hu1 := room_in hr
    have huD := hu_of hr
    obtain ⟨_, e_InvalidNumber⟩ := h.e_InvalidNumber
    exact (dss_one (ds_if (m := false) (dt_not (dt_val (d_callC (c_fits_whole h) tk hr (by decide) rfl (glOf (by kernel_rfl)) (da_cons (d_var (i := 1) rfl (visOf (by kernel_rfl))) (da_cons d_int (da_cons (d_op ok_sub (d_callB ok_len (glOf (by kernel_rfl)) h.n_len (by decide +kernel) (da_cons (d_var (i := 0) rfl (visOf (by kernel_rfl))) da_nil)) d_int) da_nil)))))) (dss_one (ds_raise rfl tk e_InvalidNumber (glOf (by kernel_rfl)))) dss_nil))
theorem sc_goes_in : FnScope ["one", "other"] ["one", "other"] (defScope t_goes_in) := C8.fnScope_by (by kernel_rfl)
theorem c_goes_in (h : Tops K w mg) : CalD P w K mg base 1 "goes_in" ["one", "other"] f_goes_in := by
    refine CalD.mk h.d_goes_in sc_goes_in rfl rfl fun f cdv A outer sh H E hr => ?_
    have tk := takes_of (X := cxOf (L2.CX P w) P w K mg base ["one", "other"] "goes_in" (defScope t_goes_in) f cdv A outer sh H E) (E := E) rfl rfl rfl rfl
    have hu := hr.units
    have hu0 := hr.units0
    have hu1 := room_in hr
    have huD := hu_of hr
    exact (dss_one (ds_ret (m := false) (d_and (d_cmp (ok_lt hu0) (d_ix (d_var (i := 0) rfl (visOf (by kernel_rfl))) d_int (fun _ _ => rfl)) (d_ix (d_var (i := 1) rfl (visOf (by kernel_rfl))) d_int (fun _ _ => rfl)) (by kernel_rfl)) (d_one (d_cmp (ok_lt hu0) (d_ix (d_var (i := 0) rfl (visOf (by kernel_rfl))) d_int (fun _ _ => rfl)) (d_ix (d_var (i := 1) rfl (visOf (by kernel_rfl))) d_int (fun _ _ => rfl)) (by kernel_rfl))))))
theorem sc_holders_in : FnScope ["baskets", "numbers", "to", "at"] ["baskets"] (defScope t_holders_in) := C8.fnScope_by (by kernel_rfl)
theorem c_holders_in (h : Tops K w mg) : CalD P w K mg base 2 "holders_in" ["baskets"] f_holders_in := by
    refine CalD.mk h.d_holders_in sc_holders_in rfl rfl fun f cdv A outer sh H E hr => ?_
    have tk := takes_of (X := cxOf (L2.CX P w) P w K mg base ["baskets", "numbers", "to", "at"] "holders_in" (defScope t_holders_in) f cdv A outer sh H E) (E := E) rfl rfl rfl rfl
    have hu := hr.units
    have hu0 := hr.units0
    have hu1 := room_in hr
    have huD := hu_of hr
    exact (dss_cons (ds_set (m := false) (i := 1) sc_holders_in.nd rfl (locOf (by kernel_rfl)) (Or.inl rfl) (d_lrg1 rfl (glOf (by kernel_rfl)) h.n_list (glOf (by kernel_rfl)) h.n_range (d_callB ok_len (glOf (by kernel_rfl)) h.n_len (by decide +kernel) (da_cons (d_var (i := 0) rfl (visOf (by kernel_rfl))) da_nil)))) (dss_one (ds_ret (m := false) (d_lc (own := [("at", 3)]) (vs := [3]) rfl sc_holders_in.nd (di_any (d_var (i := 1) rfl (visOf (by kernel_rfl)))) (blkOk_by (by kernel_rfl)) rfl (tok_name (i := 3) (by decide)) (fun _ _ _ _ _ => (dg_name (i := 3) sc_holders_in.nd rfl (locOf (by kernel_rfl)) (by decide) (fnOf' (by kernel_rfl)))) (fun _ _ _ _ _ => dts_nil) (fun _ _ _ _ _ => (d_lc (own := [("to", 2)]) (vs := [2]) rfl sc_holders_in.nd (di_any (d_var (i := 1) rfl (visOf (by kernel_rfl)))) (blkOk_by (by kernel_rfl)) rfl (tok_name (i := 2) (by decide)) (fun _ _ _ _ _ => (dg_name (i := 2) sc_holders_in.nd rfl (locOf (by kernel_rfl)) (by decide) (fnOf' (by kernel_rfl)))) (fun _ _ _ _ _ => (dts_one (dt_val (d_callC (c_goes_in h) takes0 hr (by decide) rfl (glOf (by kernel_rfl)) (da_cons (d_ix (d_var (i := 0) rfl (visOf (by kernel_rfl))) (d_var (i := 3) rfl (visOf (by kernel_rfl))) (fun _ _ => rfl)) (da_cons (d_ix (d_var (i := 0) rfl (visOf (by kernel_rfl))) (d_var (i := 2) rfl (visOf (by kernel_rfl))) (fun _ _ => rfl)) da_nil)))))) (fun _ _ _ _ _ => (d_var (i := 2) rfl (visOf (by kernel_rfl))))))))))
theorem sc_is_basket : FnScope ["value"] ["value"] (defScope t_is_basket) := C8.fnScope_by (by kernel_rfl)
theorem c_is_basket (h : Tops K w mg) : CalD P w K mg base 4 "is_basket" ["value"] f_is_basket := by
    refine CalD.mk h.d_is_basket sc_is_basket rfl rfl fun f cdv A outer sh H E hr => ?_
    have tk := takes_of (X := cxOf (L2.CX P w) P w K mg base ["value"] "is_basket" (defScope t_is_basket) f cdv A outer sh H E) (E := E) rfl rfl rfl rfl
    have hu := hr.units
    have hu0 := hr.units0
    have hu1 := room_in hr
    have huD := hu_of hr
    exact (dss_one (ds_ret (m := false) (d_callC (c_fits_basket h) tk hr (by decide) rfl (glOf (by kernel_rfl)) (da_cons (d_var (i := 0) rfl (visOf (by kernel_rfl))) da_nil))))
theorem sc_are_baskets : FnScope ["value"] ["value"] (defScope t_are_baskets) := C8.fnScope_by (by kernel_rfl)
theorem c_are_baskets (h : Tops K w mg) : CalD P w K mg base 5 "are_baskets" ["value"] f_are_baskets := by
    refine CalD.mk h.d_are_baskets sc_are_baskets rfl rfl fun f cdv A outer sh H E hr => ?_
    have tk := takes_of (X := cxOf (L2.CX P w) P w K mg base ["value"] "are_baskets" (defScope t_are_baskets) f cdv A outer sh H E) (E := E) rfl rfl rfl rfl
    have hu := hr.units
    have hu0 := hr.units0
    have hu1 := room_in hr
    have huD := hu_of hr
    exact (dss_one (ds_ret (m := false) (d_callC (c_fits_baskets h) tk hr (by decide) rfl (glOf (by kernel_rfl)) (da_cons (d_var (i := 0) rfl (visOf (by kernel_rfl))) da_nil))))
theorem sc_fits_in : FnScope ["one", "other"] ["one", "other"] (defScope t_fits_in) := C8.fnScope_by (by kernel_rfl)
theorem c_fits_in (h : Tops K w mg) : CalD P w K mg base 5 "fits_in" ["one", "other"] f_fits_in := by
    refine CalD.mk h.d_fits_in sc_fits_in rfl rfl fun f cdv A outer sh H E hr => ?_
    have tk := takes_of (X := cxOf (L2.CX P w) P w K mg base ["one", "other"] "fits_in" (defScope t_fits_in) f cdv A outer sh H E) (E := E) rfl rfl rfl rfl
    have hu := hr.units
    have hu0 := hr.units0
    have hu1 := room_in hr
    have huD := hu_of hr
    exact (dss_cons (ds_expr (m := false) (d_callC (c_need_basket h) tk hr (by decide) rfl (glOf (by kernel_rfl)) (da_cons (d_var (i := 0) rfl (visOf (by kernel_rfl))) da_nil))) (dss_cons (ds_expr (m := false) (d_callC (c_need_basket h) tk hr (by decide) rfl (glOf (by kernel_rfl)) (da_cons (d_var (i := 1) rfl (visOf (by kernel_rfl))) da_nil))) (dss_one (ds_ret (m := false) (d_callC (c_goes_in h) tk hr (by decide) rfl (glOf (by kernel_rfl)) (da_cons (d_var (i := 0) rfl (visOf (by kernel_rfl))) (da_cons (d_var (i := 1) rfl (visOf (by kernel_rfl))) da_nil)))))))
theorem sc_inside_of : FnScope ["baskets", "number", "at", "one"] ["baskets", "number"] (defScope t_inside_of) := C8.fnScope_by (by kernel_rfl)
theorem c_inside_of (h : Tops K w mg) : CalD P w K mg base 6 "inside_of" ["baskets", "number"] f_inside_of := by
    refine CalD.mk h.d_inside_of sc_inside_of rfl rfl fun f cdv A outer sh H E hr => ?_
    have tk := takes_of (X := cxOf (L2.CX P w) P w K mg base ["baskets", "number", "at", "one"] "inside_of" (defScope t_inside_of) f cdv A outer sh H E) (E := E) rfl rfl rfl rfl
    have hu := hr.units
    have hu0 := hr.units0
    have hu1 := room_in hr
    have huD := hu_of hr
    exact (dss_cons (ds_expr (m := false) (d_callC (c_need_baskets h) tk hr (by decide) rfl (glOf (by kernel_rfl)) (da_cons (d_var (i := 0) rfl (visOf (by kernel_rfl))) da_nil))) (dss_cons (ds_expr (m := false) (d_callC (c_need_number h) tk hr (by decide) rfl (glOf (by kernel_rfl)) (da_cons (d_var (i := 0) rfl (visOf (by kernel_rfl))) (da_cons (d_var (i := 1) rfl (visOf (by kernel_rfl))) da_nil)))) (dss_one (ds_ret (m := false) (d_callTy ok_tuple (glOf (by kernel_rfl)) h.n_tuple (by decide +kernel) (da_cons (d_lc (own := [("one", 3), ("at", 2)]) (vs := [3, 2]) rfl sc_inside_of.nd (di_enum (glOf (by kernel_rfl)) h.n_enumerate (da_cons (d_var (i := 0) rfl (visOf (by kernel_rfl))) da_nil)) (blkOk_by (by kernel_rfl)) rfl (tok_tup (tok_cons (tok_name (i := 2) (by decide)) (tok_cons (tok_name (i := 3) (by decide)) tok_nil))) (fun _ _ _ _ _ => (dg_tup (n := 2) rfl (dgs_cons (dg_name (i := 2) sc_inside_of.nd rfl (locOf (by kernel_rfl)) (by decide) (fnOf' (by kernel_rfl))) (dgs_cons (dg_name (i := 3) sc_inside_of.nd rfl (locOf (by kernel_rfl)) (by decide) (fnOf' (by kernel_rfl))) dgs_nil)) (tgCons_len (tgCons_len (fun _ _ _ => tgNil_len))))) (fun _ _ _ _ _ => (dts_one (dt_val (d_callC (c_goes_in h) takes0 hr (by decide) rfl (glOf (by kernel_rfl)) (da_cons (d_var (i := 3) rfl (visOf (by kernel_rfl))) (da_cons (d_ix (d_var (i := 0) rfl (visOf (by kernel_rfl))) (d_var (i := 1) rfl (visOf (by kernel_rfl))) (fun _ _ => rfl)) da_nil)))))) (fun _ _ _ _ _ => (d_var (i := 2) rfl (visOf (by kernel_rfl))))) da_nil))))))
theorem sc_tight_holders : FnScope ["baskets", "number", "holders", "between", "own", "to"] ["baskets", "number"] (defScope t_tight_holders) := C8.fnScope_by (by kernel_rfl)
theorem c_tight_holders (h : Tops K w mg) : CalD P w K mg base 6 "tight_holders" ["baskets", "number"] f_tight_holders := by
    refine CalD.mk h.d_tight_holders sc_tight_holders rfl rfl fun f cdv A outer sh H E hr => ?_
    have tk := takes_of (X := cxOf (L2.CX P w) P w K mg base ["baskets", "number", "holders", "between", "own", "to"] "tight_holders" (defScope t_tight_holders) f cdv A outer sh H E) (E := E) rfl rfl rfl rfl
    have hu := hr.units
    have hu0 := hr.units0
    have hu1 := room_in hr
    have huD := hu_of hr
    exact (dss_cons (ds_expr (m := false) (d_callC (c_need_baskets h) tk hr (by decide) rfl (glOf (by kernel_rfl)) (da_cons (d_var (i := 0) rfl (visOf (by kernel_rfl))) da_nil))) (dss_cons (ds_expr (m := false) (d_callC (c_need_number h) tk hr (by decide) rfl (glOf (by kernel_rfl)) (da_cons (d_var (i := 0) rfl (visOf (by kernel_rfl))) (da_cons (d_var (i := 1) rfl (visOf (by kernel_rfl))) da_nil)))) (dss_cons (ds_set (m := false) (i := 2) sc_tight_holders.nd rfl (locOf (by kernel_rfl)) (Or.inl rfl) (d_callC (c_holders_in h) tk hr (by decide) rfl (glOf (by kernel_rfl)) (da_cons (d_var (i := 0) rfl (visOf (by kernel_rfl))) da_nil))) (dss_cons (ds_set (m := false) (i := 3) sc_tight_holders.nd rfl (locOf (by kernel_rfl)) (Or.inl rfl) (d_lc2 (own := [("own", 4), ("to", 5)]) (vs := [4, 5]) (vs1 := [5]) rfl sc_tight_holders.nd (di_any (d_ix (d_var (i := 2) rfl (visOf (by kernel_rfl))) (d_var (i := 1) rfl (visOf (by kernel_rfl))) (fun _ _ => rfl))) (blkOk_by (by kernel_rfl)) rfl (by decide) (tok_name (i := 4) (by decide)) (tok_name (i := 5) (by decide)) (fun _ _ _ _ _ => (dg_name (i := 4) sc_tight_holders.nd rfl (locOf (by kernel_rfl)) (by decide) (fnOf' (by kernel_rfl)))) (fun _ _ _ _ _ => dts_nil) (fun _ _ _ _ _ => (di_any (d_ix (d_var (i := 2) rfl (visOf (by kernel_rfl))) (d_var (i := 4) rfl (visOf (by kernel_rfl))) (fun _ _ => rfl)))) (fun _ _ _ _ _ => (dg_name (i := 5) sc_tight_holders.nd rfl (locOf (by kernel_rfl)) (by decide) (fnOf' (by kernel_rfl)))) (fun _ _ _ _ _ => dts_nil) (fun _ _ _ _ _ => (d_var (i := 5) rfl (visOf (by kernel_rfl)))))) (dss_one (ds_ret (m := false) (d_callTy ok_tuple (glOf (by kernel_rfl)) h.n_tuple (by decide +kernel) (da_cons (d_lc (own := [("to", 5)]) (vs := [5]) rfl sc_tight_holders.nd (di_any (d_ix (d_var (i := 2) rfl (visOf (by kernel_rfl))) (d_var (i := 1) rfl (visOf (by kernel_rfl))) (fun _ _ => rfl))) (blkOk_by (by kernel_rfl)) rfl (tok_name (i := 5) (by decide)) (fun _ _ _ _ _ => (dg_name (i := 5) sc_tight_holders.nd rfl (locOf (by kernel_rfl)) (by decide) (fnOf' (by kernel_rfl)))) (fun _ _ _ _ _ => (dts_one (dt_cmp (ok_notin hu1) (d_var (i := 5) rfl (visOf (by kernel_rfl))) (d_var (i := 3) rfl (visOf (by kernel_rfl))) (by kernel_rfl)))) (fun _ _ _ _ _ => (d_var (i := 5) rfl (visOf (by kernel_rfl))))) da_nil))))))))
theorem sc_lone_baskets : FnScope ["baskets", "holders", "used", "lot", "to", "at"] ["baskets"] (defScope t_lone_baskets) := C8.fnScope_by (by kernel_rfl)
theorem c_lone_baskets (h : Tops K w mg) : CalD P w K mg base 6 "lone_baskets" ["baskets"] f_lone_baskets := by
    refine CalD.mk h.d_lone_baskets sc_lone_baskets rfl rfl fun f cdv A outer sh H E hr => ?_
    have tk := takes_of (X := cxOf (L2.CX P w) P w K mg base ["baskets", "holders", "used", "lot", "to", "at"] "lone_baskets" (defScope t_lone_baskets) f cdv A outer sh H E) (E := E) rfl rfl rfl rfl
    have hu := hr.units
    have hu0 := hr.units0
    have hu1 := room_in hr
    have huD := hu_of hr
    exact (dss_cons (ds_expr (m := false) (d_callC (c_need_baskets h) tk hr (by decide) rfl (glOf (by kernel_rfl)) (da_cons (d_var (i := 0) rfl (visOf (by kernel_rfl))) da_nil))) (dss_cons (ds_set (m := false) (i := 1) sc_lone_baskets.nd rfl (locOf (by kernel_rfl)) (Or.inl rfl) (d_callC (c_holders_in h) tk hr (by decide) rfl (glOf (by kernel_rfl)) (da_cons (d_var (i := 0) rfl (visOf (by kernel_rfl))) da_nil))) (dss_cons (ds_set (m := false) (i := 2) sc_lone_baskets.nd rfl (locOf (by kernel_rfl)) (Or.inl rfl) (d_lc2 (own := [("lot", 3), ("to", 4)]) (vs := [3, 4]) (vs1 := [4]) rfl sc_lone_baskets.nd (di_any (d_var (i := 1) rfl (visOf (by kernel_rfl)))) (blkOk_by (by kernel_rfl)) rfl (by decide) (tok_name (i := 3) (by decide)) (tok_name (i := 4) (by decide)) (fun _ _ _ _ _ => (dg_name (i := 3) sc_lone_baskets.nd rfl (locOf (by kernel_rfl)) (by decide) (fnOf' (by kernel_rfl)))) (fun _ _ _ _ _ => dts_nil) (fun _ _ _ _ _ => (di_any (d_var (i := 3) rfl (visOf (by kernel_rfl))))) (fun _ _ _ _ _ => (dg_name (i := 4) sc_lone_baskets.nd rfl (locOf (by kernel_rfl)) (by decide) (fnOf' (by kernel_rfl)))) (fun _ _ _ _ _ => dts_nil) (fun _ _ _ _ _ => (d_var (i := 4) rfl (visOf (by kernel_rfl)))))) (dss_one (ds_ret (m := false) (d_callTy ok_tuple (glOf (by kernel_rfl)) h.n_tuple (by decide +kernel) (da_cons (d_lc (own := [("at", 5)]) (vs := [5]) rfl sc_lone_baskets.nd (di_rng1 (glOf (by kernel_rfl)) h.n_range (da_cons (d_callB ok_len (glOf (by kernel_rfl)) h.n_len (by decide +kernel) (da_cons (d_var (i := 0) rfl (visOf (by kernel_rfl))) da_nil)) da_nil)) (blkOk_by (by kernel_rfl)) rfl (tok_name (i := 5) (by decide)) (fun _ _ _ _ _ => (dg_name (i := 5) sc_lone_baskets.nd rfl (locOf (by kernel_rfl)) (by decide) (fnOf' (by kernel_rfl)))) (fun _ _ _ _ _ => (dts_one (dt_w (dw_and (dt_cmp (ok_eq hu) (d_ix (d_var (i := 1) rfl (visOf (by kernel_rfl))) (d_var (i := 5) rfl (visOf (by kernel_rfl))) (fun _ _ => rfl)) (d_lst da_nil) (by kernel_rfl)) (dw_and1 (dt_cmp (ok_notin hu1) (d_var (i := 5) rfl (visOf (by kernel_rfl))) (d_var (i := 2) rfl (visOf (by kernel_rfl))) (by kernel_rfl))))))) (fun _ _ _ _ _ => (d_var (i := 5) rfl (visOf (by kernel_rfl))))) da_nil)))))))
theorem sc__law_cup : FnScope ["script", "cell"] ["script"] (defScope t__law_cup) := C8.fnScope_by (by kernel_rfl)
theorem c__law_cup (h : Tops K w mg) : CalO P w K mg base 1 "_law_cup" ["script"] f__law_cup := by
    refine CalO.mk h.d__law_cup sc__law_cup rfl rfl fun f cdv A outer sh H E hr => ?_
    have tk := takes_of (X := cxOf (L2.CX P w) P w K mg base ["script", "cell"] "_law_cup" (defScope t__law_cup) f cdv A outer sh H E) (E := E) rfl rfl rfl rfl
    have hu := hr.units
    have hu0 := hr.units0
    have hu1 := room_in hr
    have huD := hu_of hr
    exact (dss_cons (ds_set (m := false) (i := 1) sc__law_cup.nd rfl (locOf (by kernel_rfl)) (Or.inl rfl) (d_callB ok_abs (glOf (by kernel_rfl)) h.n_abs (by decide +kernel) (da_cons (d_ix (d_op ok_add (d_callTy (ok_list rfl) (glOf (by kernel_rfl)) h.n_list (by decide +kernel) (da_cons (d_var (i := 0) rfl (visOf (by kernel_rfl))) da_nil)) (d_lst (da_cons d_int da_nil))) d_int (fun _ _ => rfl)) da_nil))) (dss_one (ds_retO (dfr_lst (da_cons (d_if (dt_cmp ok_ge (d_var (i := 1) rfl (visOf (by kernel_rfl))) (d_op ok_pow d_int d_int) (by kernel_rfl)) (d_op ok_fdiv (d_var (i := 1) rfl (visOf (by kernel_rfl))) d_int) d_int) (da_cons (d_op ok_add (d_op ok_mod (d_callTy ok_int (glOf (by kernel_rfl)) h.n_int (by decide +kernel) (da_cons (d_op ok_add (d_op ok_mul (d_var (i := 1) rfl (visOf (by kernel_rfl))) d_int) d_int) da_nil)) d_int) d_int) da_nil))))))
theorem sc__law_roll : FnScope ["cup", "many", "found", "deep"] ["cup", "many"] (defScope t__law_roll) := C8.fnScope_by (by kernel_rfl)
theorem c__law_roll (h : Tops K w mg) : CalD P w K mg base 1 "_law_roll" ["cup", "many"] f__law_roll := by
    refine CalD.mk h.d__law_roll sc__law_roll rfl rfl fun f cdv A outer sh H E hr => ?_
    have tk := takes_of (X := cxOf (L2.CX P w) P w K mg base ["cup", "many", "found", "deep"] "_law_roll" (defScope t__law_roll) f cdv A outer sh H E) (E := E) rfl rfl rfl rfl
    have hu := hr.units
    have hu0 := hr.units0
    have hu1 := room_in hr
    have huD := hu_of hr
    exact (dss_cons (ds_if (m := false) (dt_cmp ok_gt (d_bor (i := 0) (d_ix (d_var (i := 0) rfl (visOf (by kernel_rfl))) d_int (fun _ _ => rfl))) d_int (by kernel_rfl)) (dss_cons (ds_set (m := false) (i := 2) sc__law_roll.nd rfl (locOf (by kernel_rfl)) (Or.inl rfl) (d_op ok_mod (d_callTy ok_int (glOf (by kernel_rfl)) h.n_int (by decide +kernel) (da_cons (d_bor (i := 0) (d_ix (d_var (i := 0) rfl (visOf (by kernel_rfl))) d_int (fun _ _ => rfl))) da_nil)) (d_var (i := 1) rfl (visOf (by kernel_rfl))))) (dss_cons (ds_put (m := false) (i := 0) rfl (visOf (by kernel_rfl)) (d_op ok_fdiv (d_bor (i := 0) (d_ix (d_var (i := 0) rfl (visOf (by kernel_rfl))) d_int (fun _ _ => rfl))) (d_var (i := 1) rfl (visOf (by kernel_rfl)))) d_int) (dss_one (ds_ret (m := false) (d_var (i := 2) rfl (visOf (by kernel_rfl))))))) dss_nil) (dss_cons (ds_put (m := false) (i := 0) rfl (visOf (by kernel_rfl)) (d_op ok_mod (d_callTy ok_int (glOf (by kernel_rfl)) h.n_int (by decide +kernel) (da_cons (d_op ok_add (d_op ok_mul (d_bor (i := 0) (d_ix (d_var (i := 0) rfl (visOf (by kernel_rfl))) d_int (fun _ _ => rfl))) d_int) d_int) da_nil)) d_int) d_int) (dss_cons (ds_set (m := false) (i := 3) sc__law_roll.nd rfl (locOf (by kernel_rfl)) (Or.inl rfl) (d_op ok_mod (d_callTy ok_int (glOf (by kernel_rfl)) h.n_int (by decide +kernel) (da_cons (d_op ok_mul (d_bor (i := 0) (d_ix (d_var (i := 0) rfl (visOf (by kernel_rfl))) d_int (fun _ _ => rfl))) (d_op ok_add (d_bor (i := 0) (d_ix (d_var (i := 0) rfl (visOf (by kernel_rfl))) d_int (fun _ _ => rfl))) d_int)) da_nil)) d_int)) (dss_one (ds_ret (m := false) (d_op ok_mod (d_callTy ok_int (glOf (by kernel_rfl)) h.n_int (by decide +kernel) (da_cons (d_op ok_fdiv (d_var (i := 3) rfl (visOf (by kernel_rfl))) d_int) da_nil)) (d_var (i := 1) rfl (visOf (by kernel_rfl)))))))))
theorem sc__law_some : FnScope ["cup", "things"] ["cup", "things"] (defScope t__law_some) := C8.fnScope_by (by kernel_rfl)
theorem c__law_some (h : Tops K w mg) : CalD P w K mg base 2 "_law_some" ["cup", "things"] f__law_some := by
    refine CalD.mk h.d__law_some sc__law_some rfl rfl fun f cdv A outer sh H E hr => ?_
    have tk := takes_of (X := cxOf (L2.CX P w) P w K mg base ["cup", "things"] "_law_some" (defScope t__law_some) f cdv A outer sh H E) (E := E) rfl rfl rfl rfl
    have hu := hr.units
    have hu0 := hr.units0
    have hu1 := room_in hr
    have huD := hu_of hr
    exact (dss_one (ds_ret (m := false) (d_ix (d_var (i := 1) rfl (visOf (by kernel_rfl))) (d_callOC (i := 0) (c__law_roll h) tk hr (by decide) rfl (glOf (by kernel_rfl)) rfl (visOf (by kernel_rfl)) (da_cons (d_callB ok_len (glOf (by kernel_rfl)) h.n_len (by decide +kernel) (da_cons (d_var (i := 1) rfl (visOf (by kernel_rfl))) da_nil)) da_nil) (tidy_runDef _ _ _)) (fun _ _ => rfl))))
theorem sc__law_same : FnScope ["told", "due", "at"] ["told", "due"] (defScope t__law_same) := C8.fnScope_by (by kernel_rfl)
theorem c__law_same (h : Tops K w mg) : ∀ m, CalD P w K mg base m "_law_same" ["told", "due"] (f__law_same m)
  | 0 => .none h.d__law_same
  | m + 1 => by
    have ih := c__law_same h m
    refine CalD.mk h.d__law_same sc__law_same rfl rfl fun f cdv A outer sh H E hr => ?_
    have tk := takes_of (X := cxOf (L2.CX P w) P w K mg base ["told", "due", "at"] "_law_same" (defScope t__law_same) f cdv A outer sh H E) (E := E) rfl rfl rfl rfl
    have hu := hr.units
    have hu0 := hr.units0
    have hu1 := room_in hr
    have huD := hu_of hr
    exact (dss_cons (ds_if (m := false) (dt_val (d_isi (glOf (by kernel_rfl)) h.n_isinstance (glOf (by kernel_rfl)) h.n_tuple (by decide +kernel) (by decide) (d_var (i := 1) rfl (visOf (by kernel_rfl))))) (dss_cons (ds_if (m := false) (dt_w (dw_or (dt_not (dt_val (d_isi (glOf (by kernel_rfl)) h.n_isinstance (glOf (by kernel_rfl)) h.n_tuple (by decide +kernel) (by decide) (d_var (i := 0) rfl (visOf (by kernel_rfl)))))) (dw_or1 (dt_cmp (ok_ne hu) (d_callB ok_len (glOf (by kernel_rfl)) h.n_len (by decide +kernel) (da_cons (d_var (i := 0) rfl (visOf (by kernel_rfl))) da_nil)) (d_callB ok_len (glOf (by kernel_rfl)) h.n_len (by decide +kernel) (da_cons (d_var (i := 1) rfl (visOf (by kernel_rfl))) da_nil)) (by kernel_rfl))))) (dss_one (ds_ret (m := false) d_bl)) dss_nil) (dss_one (ds_ret (m := false) (d_callB (ok_all rfl) (glOf (by kernel_rfl)) h.n_all (by decide +kernel) (da_cons (d_lc (own := [("at", 2)]) (vs := [2]) rfl sc__law_same.nd (di_rng1 (glOf (by kernel_rfl)) h.n_range (da_cons (d_callB ok_len (glOf (by kernel_rfl)) h.n_len (by decide +kernel) (da_cons (d_var (i := 1) rfl (visOf (by kernel_rfl))) da_nil)) da_nil)) (blkOk_by (by kernel_rfl)) rfl (tok_name (i := 2) (by decide)) (fun _ _ _ _ _ => (dg_name (i := 2) sc__law_same.nd rfl (locOf (by kernel_rfl)) (by decide) (fnOf' (by kernel_rfl)))) (fun _ _ _ _ _ => dts_nil) (fun _ _ _ _ _ => (d_callC ih takes0 hr (Nat.le_refl _) rfl (glOf (by kernel_rfl)) (da_cons (d_ix (d_var (i := 0) rfl (visOf (by kernel_rfl))) (d_var (i := 2) rfl (visOf (by kernel_rfl))) (fun _ _ => rfl)) (da_cons (d_ix (d_var (i := 1) rfl (visOf (by kernel_rfl))) (d_var (i := 2) rfl (visOf (by kernel_rfl))) (fun _ _ => rfl)) da_nil))))) da_nil))))) dss_nil) (dss_cons (ds_if (m := false) (dt_cmp ok_is (d_var (i := 1) rfl (visOf (by kernel_rfl))) d_non (by kernel_rfl)) (dss_one (ds_ret (m := false) (d_cmp ok_is (d_var (i := 0) rfl (visOf (by kernel_rfl))) d_non (by kernel_rfl)))) dss_nil) (dss_cons (ds_if (m := false) (dt_val (d_isi (glOf (by kernel_rfl)) h.n_isinstance (glOf (by kernel_rfl)) h.n_bool (by decide +kernel) (by decide) (d_var (i := 1) rfl (visOf (by kernel_rfl))))) (dss_one (ds_ret (m := false) (d_if (dt_val (d_var (i := 1) rfl (visOf (by kernel_rfl)))) (d_cmp ok_is (d_var (i := 0) rfl (visOf (by kernel_rfl))) d_bl (by kernel_rfl)) (d_cmp ok_is (d_var (i := 0) rfl (visOf (by kernel_rfl))) d_bl (by kernel_rfl))))) dss_nil) (dss_cons (ds_if (m := false) (dt_val (d_isi (glOf (by kernel_rfl)) h.n_isinstance (glOf (by kernel_rfl)) h.n_int (by decide +kernel) (by decide) (d_var (i := 1) rfl (visOf (by kernel_rfl))))) (dss_one (ds_ret (m := false) (d_and (d_isi (glOf (by kernel_rfl)) h.n_isinstance (glOf (by kernel_rfl)) h.n_int (by decide +kernel) (by decide) (d_var (i := 0) rfl (visOf (by kernel_rfl)))) (d_and (d_not (d_isi (glOf (by kernel_rfl)) h.n_isinstance (glOf (by kernel_rfl)) h.n_bool (by decide +kernel) (by decide) (d_var (i := 0) rfl (visOf (by kernel_rfl))))) (d_one (d_cmp (ok_eq hu) (d_callTy ok_int (glOf (by kernel_rfl)) h.n_int (by decide +kernel) (da_cons (d_var (i := 0) rfl (visOf (by kernel_rfl))) da_nil)) (d_var (i := 1) rfl (visOf (by kernel_rfl))) (by kernel_rfl))))))) dss_nil) (dss_one (ds_ret (m := false) (d_and (d_isi (glOf (by kernel_rfl)) h.n_isinstance (glOf (by kernel_rfl)) h.n_str (by decide +kernel) (by decide) (d_var (i := 0) rfl (visOf (by kernel_rfl)))) (d_one (d_cmp (ok_eq hu) (d_callTy ok_str (glOf (by kernel_rfl)) h.n_str (by decide +kernel) (da_cons (d_var (i := 0) rfl (visOf (by kernel_rfl))) da_nil)) (d_var (i := 1) rfl (visOf (by kernel_rfl))) (by kernel_rfl))))))))))
theorem sc__law_baskets : FnScope ["cup", "many", "high", "found", "basket"] ["cup", "many"] (defScope t__law_baskets) := C8.fnScope_by (by kernel_rfl)
theorem c__law_baskets (h : Tops K w mg) : CalD P w K mg base 3 "_law_baskets" ["cup", "many"] f__law_baskets := by
    refine CalD.mk h.d__law_baskets sc__law_baskets rfl rfl fun f cdv A outer sh H E hr => ?_
    have tk := takes_of (X := cxOf (L2.CX P w) P w K mg base ["cup", "many", "high", "found", "basket"] "_law_baskets" (defScope t__law_baskets) f cdv A outer sh H E) (E := E) rfl rfl rfl rfl
    have hu := hr.units
    have hu0 := hr.units0
    have hu1 := room_in hr
    have huD := hu_of hr
    exact (dss_cons (ds_set (m := false) (i := 2) sc__law_baskets.nd rfl (locOf (by kernel_rfl)) (Or.inl rfl) (d_callOC (i := 0) (c__law_some h) tk hr (by decide) rfl (glOf (by kernel_rfl)) rfl (visOf (by kernel_rfl)) (da_cons (d_lst (da_cons d_int (da_cons d_int (da_cons d_int da_nil)))) da_nil) (tidy_runDef _ _ _))) (dss_cons (ds_own (i := 3) sc__law_baskets.nd rfl (locOf (by kernel_rfl)) (Or.inl rfl) (dfr_lst da_nil)) (dss_cons (ds_for (m := false) (vs := [4]) (passes_of rfl) rfl (di_rng1 (glOf (by kernel_rfl)) h.n_range (da_cons (d_op ok_add d_int (d_callOC (i := 0) (c__law_roll h) tk hr (by decide) rfl (glOf (by kernel_rfl)) rfl (visOf (by kernel_rfl)) (da_cons (d_var (i := 1) rfl (visOf (by kernel_rfl))) da_nil) (tidy_runDef _ _ _))) da_nil)) (dg_name (i := 4) sc__law_baskets.nd rfl (locOf (by kernel_rfl)) (by decide) (Or.inl rfl)) (dss_one (ds_app (m := false) (i := 3) rfl (visOf (by kernel_rfl)) (d_tup (da_cons (d_op ok_add d_int (d_callOC (i := 0) (c__law_roll h) tk hr (by decide) rfl (glOf (by kernel_rfl)) rfl (visOf (by kernel_rfl)) (da_cons (d_var (i := 2) rfl (visOf (by kernel_rfl))) da_nil) (tidy_runDef _ _ _))) (da_cons (d_op ok_add d_int (d_callOC (i := 0) (c__law_roll h) tk hr (by decide) rfl (glOf (by kernel_rfl)) rfl (visOf (by kernel_rfl)) (da_cons (d_var (i := 2) rfl (visOf (by kernel_rfl))) da_nil) (tidy_runDef _ _ _))) da_nil)))))) (dss_frz (i := 3) (dss_one (ds_ret (m := false) (d_callTy ok_tuple (glOf (by kernel_rfl)) h.n_tuple (by decide +kernel) (da_cons (d_var (i := 3) rfl (visOf (by kernel_rfl))) da_nil))))))))
theorem sc__law_holders : FnScope ["baskets", "found", "wide", "high", "to"] ["baskets"] (defScope t__law_holders) := C8.fnScope_by (by kernel_rfl)
theorem c__law_holders (h : Tops K w mg) : CalD P w K mg base 1 "_law_holders" ["baskets"] f__law_holders := by
    refine CalD.mk h.d__law_holders sc__law_holders rfl rfl fun f cdv A outer sh H E hr => ?_
    have tk := takes_of (X := cxOf (L2.CX P w) P w K mg base ["baskets", "found", "wide", "high", "to"] "_law_holders" (defScope t__law_holders) f cdv A outer sh H E) (E := E) rfl rfl rfl rfl
    have hu := hr.units
    have hu0 := hr.units0
    have hu1 := room_in hr
    have huD := hu_of hr
    exact (dss_cons (ds_own (i := 1) sc__law_holders.nd rfl (locOf (by kernel_rfl)) (Or.inl rfl) (dfr_lst da_nil)) (dss_cons (ds_for (m := false) (vs := [3, 2]) (passes_of rfl) rfl (di_any (d_var (i := 0) rfl (visOf (by kernel_rfl)))) (dg_tup (n := 2) rfl (dgs_cons (dg_name (i := 2) sc__law_holders.nd rfl (locOf (by kernel_rfl)) (by decide) (Or.inl rfl)) (dgs_cons (dg_name (i := 3) sc__law_holders.nd rfl (locOf (by kernel_rfl)) (by decide) (Or.inl rfl)) dgs_nil)) (tgCons_len (tgCons_len (fun _ _ _ => tgNil_len)))) (dss_one (ds_app (m := false) (i := 1) rfl (visOf (by kernel_rfl)) (d_lc (own := [("to", 4)]) (vs := [4]) rfl sc__law_holders.nd (di_rng1 (glOf (by kernel_rfl)) h.n_range (da_cons (d_callB ok_len (glOf (by kernel_rfl)) h.n_len (by decide +kernel) (da_cons (d_var (i := 0) rfl (visOf (by kernel_rfl))) da_nil)) da_nil)) (blkOk_by (by kernel_rfl)) rfl (tok_name (i := 4) (by decide)) (fun _ _ _ _ _ => (dg_name (i := 4) sc__law_holders.nd rfl (locOf (by kernel_rfl)) (by decide) (fnOf' (by kernel_rfl)))) (fun _ _ _ _ _ => (dts_one (dt_w (dw_and (dt_cmp (ok_lt hu0) (d_var (i := 2) rfl (visOf (by kernel_rfl))) (d_ix (d_ix (d_var (i := 0) rfl (visOf (by kernel_rfl))) (d_var (i := 4) rfl (visOf (by kernel_rfl))) (fun _ _ => rfl)) d_int (fun _ _ => rfl)) (by kernel_rfl)) (dw_and1 (dt_cmp (ok_lt hu0) (d_var (i := 3) rfl (visOf (by kernel_rfl))) (d_ix (d_ix (d_var (i := 0) rfl (visOf (by kernel_rfl))) (d_var (i := 4) rfl (visOf (by kernel_rfl))) (fun _ _ => rfl)) d_int (fun _ _ => rfl)) (by kernel_rfl))))))) (fun _ _ _ _ _ => (d_var (i := 4) rfl (visOf (by kernel_rfl)))))))) (dss_frz (i := 1) (dss_one (ds_ret (m := false) (d_var (i := 1) rfl (visOf (by kernel_rfl))))))))
theorem sc__law_is_basket : FnScope ["value", "one"] ["value"] (defScope t__law_is_basket) := C8.fnScope_by (by kernel_rfl)
theorem c__law_is_basket (h : Tops K w mg) : CalD P w K mg base 1 "_law_is_basket" ["value"] f__law_is_basket := by
    refine CalD.mk h.d__law_is_basket sc__law_is_basket rfl rfl fun f cdv A outer sh H E hr => ?_
    have tk := takes_of (X := cxOf (L2.CX P w) P w K mg base ["value", "one"] "_law_is_basket" (defScope t__law_is_basket) f cdv A outer sh H E) (E := E) rfl rfl rfl rfl
    have hu := hr.units
    have hu0 := hr.units0
    have hu1 := room_in hr
    have huD := hu_of hr
    exact (dss_cons (ds_if (m := false) (dt_w (dw_or (dt_not (dt_val (d_isi (glOf (by kernel_rfl)) h.n_isinstance (glOf (by kernel_rfl)) h.n_tuple (by decide +kernel) (by decide) (d_var (i := 0) rfl (visOf (by kernel_rfl)))))) (dw_or1 (dt_cmp (ok_ne hu) (d_callB ok_len (glOf (by kernel_rfl)) h.n_len (by decide +kernel) (da_cons (d_var (i := 0) rfl (visOf (by kernel_rfl))) da_nil)) d_int (by kernel_rfl))))) (dss_one (ds_ret (m := false) d_bl)) dss_nil) (dss_one (ds_ret (m := false) (d_cmp (ok_eq hu) (d_lc (own := [("one", 1)]) (vs := [1]) rfl sc__law_is_basket.nd (di_any (d_var (i := 0) rfl (visOf (by kernel_rfl)))) (blkOk_by (by kernel_rfl)) rfl (tok_name (i := 1) (by decide)) (fun _ _ _ _ _ => (dg_name (i := 1) sc__law_is_basket.nd rfl (locOf (by kernel_rfl)) (by decide) (fnOf' (by kernel_rfl)))) (fun _ _ _ _ _ => (dts_one (dt_w (dw_or (dt_not (dt_val (d_isi (glOf (by kernel_rfl)) h.n_isinstance (glOf (by kernel_rfl)) h.n_int (by decide +kernel) (by decide) (d_var (i := 1) rfl (visOf (by kernel_rfl)))))) (dw_or (dt_val (d_isi (glOf (by kernel_rfl)) h.n_isinstance (glOf (by kernel_rfl)) h.n_bool (by decide +kernel) (by decide) (d_var (i := 1) rfl (visOf (by kernel_rfl))))) (dw_or1 (dt_not (dt_chain ok_le ok_le d_int (d_var (i := 1) rfl (visOf (by kernel_rfl))) d_int (by kernel_rfl))))))))) (fun _ _ _ _ _ => (d_var (i := 1) rfl (visOf (by kernel_rfl))))) (d_lst da_nil) (by kernel_rfl)))))
theorem sc__law_right : FnScope ["cup", "baskets", "holders", "number", "inside", "at", "straight", "to", "between", "own", "lone", "one", "other", "told", "first", "near", "value", "good", "odds"] ["cup"] (defScope t__law_right) := C8.fnScope_by (by kernel_rfl)
theorem c__law_right (h : Tops K w mg) : CalD P w K mg base 7 "_law_right" ["cup"] f__law_right := by
    refine CalD.mk h.d__law_right sc__law_right rfl rfl fun f cdv A outer sh H E hr => ?_
    have tk := takes_of (X := cxOf (L2.CX P w) P w K mg base ["cup", "baskets", "holders", "number", "inside", "at", "straight", "to", "between", "own", "lone", "one", "other", "told", "first", "near", "value", "good", "odds"] "_law_right" (defScope t__law_right) f cdv A outer sh H E) (E := E) rfl rfl rfl rfl
    have hu := hr.units
    have hu0 := hr.units0
    have hu1 := room_in hr
    have huD := hu_of hr
    exact (dss_cons (ds_set (m := false) (i := 1) sc__law_right.nd rfl (locOf (by kernel_rfl)) (Or.inl rfl) (d_callOC (i := 0) (c__law_baskets h) tk hr (by decide) rfl (glOf (by kernel_rfl)) rfl (visOf (by kernel_rfl)) (da_cons d_int da_nil) (tidy_runDef _ _ _))) (dss_cons (ds_set (m := false) (i := 2) sc__law_right.nd rfl (locOf (by kernel_rfl)) (Or.inl rfl) (d_callC (c__law_holders h) tk hr (by decide) rfl (glOf (by kernel_rfl)) (da_cons (d_var (i := 1) rfl (visOf (by kernel_rfl))) da_nil))) (dss_cons (ds_for (m := false) (vs := [3]) (passes_of rfl) rfl (di_rng1 (glOf (by kernel_rfl)) h.n_range (da_cons (d_callB ok_len (glOf (by kernel_rfl)) h.n_len (by decide +kernel) (da_cons (d_var (i := 1) rfl (visOf (by kernel_rfl))) da_nil)) da_nil)) (dg_name (i := 3) sc__law_right.nd rfl (locOf (by kernel_rfl)) (by decide) (Or.inl rfl)) (dss_cons (ds_set (m := false) (i := 4) sc__law_right.nd rfl (locOf (by kernel_rfl)) (Or.inl rfl) (d_callTy ok_tuple (glOf (by kernel_rfl)) h.n_tuple (by decide +kernel) (da_cons (d_lc (own := [("at", 5)]) (vs := [5]) rfl sc__law_right.nd (di_rng1 (glOf (by kernel_rfl)) h.n_range (da_cons (d_callB ok_len (glOf (by kernel_rfl)) h.n_len (by decide +kernel) (da_cons (d_var (i := 1) rfl (visOf (by kernel_rfl))) da_nil)) da_nil)) (blkOk_by (by kernel_rfl)) rfl (tok_name (i := 5) (by decide)) (fun _ _ _ _ _ => (dg_name (i := 5) sc__law_right.nd rfl (locOf (by kernel_rfl)) (by decide) (fnOf' (by kernel_rfl)))) (fun _ _ _ _ _ => (dts_one (dt_cmp (ok_in hu1) (d_var (i := 3) rfl (visOf (by kernel_rfl))) (d_ix (d_var (i := 2) rfl (visOf (by kernel_rfl))) (d_var (i := 5) rfl (visOf (by kernel_rfl))) (fun _ _ => rfl)) (by kernel_rfl)))) (fun _ _ _ _ _ => (d_var (i := 5) rfl (visOf (by kernel_rfl))))) da_nil))) (dss_cons (ds_set (m := false) (i := 6) sc__law_right.nd rfl (locOf (by kernel_rfl)) (Or.inl rfl) (d_lst da_nil)) (dss_cons (ds_for (m := false) (vs := [7]) (passes_of rfl) rfl (di_any (d_ix (d_var (i := 2) rfl (visOf (by kernel_rfl))) (d_var (i := 3) rfl (visOf (by kernel_rfl))) (fun _ _ => rfl))) (dg_name (i := 7) sc__law_right.nd rfl (locOf (by kernel_rfl)) (by decide) (Or.inl rfl)) (dss_cons (ds_setLc (m := false) (i := 8) (own := [("own", 9)]) (vs := [9]) rfl sc__law_right.nd rfl (by kernel_rfl) (by kernel_rfl) (di_any (d_ix (d_var (i := 2) rfl (visOf (by kernel_rfl))) (d_var (i := 3) rfl (visOf (by kernel_rfl))) (fun _ _ => rfl))) (blkOk_by (by kernel_rfl)) rfl (tok_name (i := 9) (by decide)) (fun _ _ _ _ _ => (dg_name (i := 9) sc__law_right.nd rfl (locOf (by kernel_rfl)) (by decide) (fnOf' (by kernel_rfl)))) (fun _ _ _ _ _ => (dts_one (dt_cmp (ok_in hu1) (d_var (i := 7) rfl (visOf (by kernel_rfl))) (d_ix (d_var (i := 2) rfl (visOf (by kernel_rfl))) (d_var (i := 9) rfl (visOf (by kernel_rfl))) (fun _ _ => rfl)) (by kernel_rfl)))) (fun _ _ _ _ _ => (d_var (i := 9) rfl (visOf (by kernel_rfl))))) (dss_one (ds_set (m := false) (i := 6) sc__law_right.nd rfl (locOf (by kernel_rfl)) (Or.inl rfl) (d_op ok_add (d_var (i := 6) rfl (visOf (by kernel_rfl))) (d_if (dt_cmp (ok_eq hu) (d_var (i := 8) rfl (visOf (by kernel_rfl))) (d_lst da_nil) (by kernel_rfl)) (d_lst (da_cons (d_var (i := 7) rfl (visOf (by kernel_rfl))) da_nil)) (d_lst da_nil))))))) (dss_one (ds_if (m := false) (dt_not (dt_val (d_callC (c__law_same h 6) tk hr (by decide) rfl (glOf (by kernel_rfl)) (da_cons (d_tup (da_cons (d_callC (c_inside_of h) tk hr (by decide) rfl (glOf (by kernel_rfl)) (da_cons (d_var (i := 1) rfl (visOf (by kernel_rfl))) (da_cons (d_var (i := 3) rfl (visOf (by kernel_rfl))) da_nil))) (da_cons (d_callC (c_tight_holders h) tk hr (by decide) rfl (glOf (by kernel_rfl)) (da_cons (d_var (i := 1) rfl (visOf (by kernel_rfl))) (da_cons (d_var (i := 3) rfl (visOf (by kernel_rfl))) da_nil))) da_nil))) (da_cons (d_tup (da_cons (d_var (i := 4) rfl (visOf (by kernel_rfl))) (da_cons (d_callTy ok_tuple (glOf (by kernel_rfl)) h.n_tuple (by decide +kernel) (da_cons (d_var (i := 6) rfl (visOf (by kernel_rfl))) da_nil)) da_nil))) da_nil))))) (dss_one (ds_ret (m := false) d_bl)) dss_nil)))))) (dss_cons (ds_set (m := false) (i := 10) sc__law_right.nd rfl (locOf (by kernel_rfl)) (Or.inl rfl) (d_callTy ok_tuple (glOf (by kernel_rfl)) h.n_tuple (by decide +kernel) (da_cons (d_lc (own := [("at", 5)]) (vs := [5]) rfl sc__law_right.nd (di_rng1 (glOf (by kernel_rfl)) h.n_range (da_cons (d_callB ok_len (glOf (by kernel_rfl)) h.n_len (by decide +kernel) (da_cons (d_var (i := 1) rfl (visOf (by kernel_rfl))) da_nil)) da_nil)) (blkOk_by (by kernel_rfl)) rfl (tok_name (i := 5) (by decide)) (fun _ _ _ _ _ => (dg_name (i := 5) sc__law_right.nd rfl (locOf (by kernel_rfl)) (by decide) (fnOf' (by kernel_rfl)))) (fun _ _ _ _ _ => (dts_one (dt_w (dw_and (dt_cmp (ok_eq hu) (d_ix (d_var (i := 2) rfl (visOf (by kernel_rfl))) (d_var (i := 5) rfl (visOf (by kernel_rfl))) (fun _ _ => rfl)) (d_lst da_nil) (by kernel_rfl)) (dw_and1 (dt_cmp (ok_eq hu) (d_lc (own := [("own", 9)]) (vs := [9]) rfl sc__law_right.nd (di_any (d_var (i := 2) rfl (visOf (by kernel_rfl)))) (blkOk_by (by kernel_rfl)) rfl (tok_name (i := 9) (by decide)) (fun _ _ _ _ _ => (dg_name (i := 9) sc__law_right.nd rfl (locOf (by kernel_rfl)) (by decide) (fnOf' (by kernel_rfl)))) (fun _ _ _ _ _ => (dts_one (dt_cmp (ok_in hu1) (d_var (i := 5) rfl (visOf (by kernel_rfl))) (d_var (i := 9) rfl (visOf (by kernel_rfl))) (by kernel_rfl)))) (fun _ _ _ _ _ => (d_var (i := 9) rfl (visOf (by kernel_rfl))))) (d_lst da_nil) (by kernel_rfl))))))) (fun _ _ _ _ _ => (d_var (i := 5) rfl (visOf (by kernel_rfl))))) da_nil))) (dss_cons (ds_if (m := false) (dt_not (dt_val (d_callC (c__law_same h 6) tk hr (by decide) rfl (glOf (by kernel_rfl)) (da_cons (d_callC (c_lone_baskets h) tk hr (by decide) rfl (glOf (by kernel_rfl)) (da_cons (d_var (i := 1) rfl (visOf (by kernel_rfl))) da_nil)) (da_cons (d_var (i := 10) rfl (visOf (by kernel_rfl))) da_nil))))) (dss_one (ds_ret (m := false) d_bl)) dss_nil) (dss_cons (ds_par (m := false) (i := 11) (j := 12) rfl sc__law_right.nd rfl rfl (by decide) (by kernel_rfl) (by kernel_rfl) (da_cons (d_callOC (i := 0) (c__law_some h) tk hr (by decide) rfl (glOf (by kernel_rfl)) rfl (visOf (by kernel_rfl)) (da_cons (d_var (i := 1) rfl (visOf (by kernel_rfl))) da_nil) (tidy_runDef _ _ _)) (da_cons (d_callOC (i := 0) (c__law_some h) tk hr (by decide) rfl (glOf (by kernel_rfl)) rfl (visOf (by kernel_rfl)) (da_cons (d_var (i := 1) rfl (visOf (by kernel_rfl))) da_nil) (tidy_runDef _ _ _)) da_nil)) (by rfl)) (dss_cons (ds_set (m := false) (i := 13) sc__law_right.nd rfl (locOf (by kernel_rfl)) (Or.inl rfl) (d_tup (da_cons (d_callC (c_fits_in h) tk hr (by decide) rfl (glOf (by kernel_rfl)) (da_cons (d_var (i := 11) rfl (visOf (by kernel_rfl))) (da_cons (d_var (i := 12) rfl (visOf (by kernel_rfl))) da_nil))) (da_cons (d_callC (c_fits_in h) tk hr (by decide) rfl (glOf (by kernel_rfl)) (da_cons (d_var (i := 12) rfl (visOf (by kernel_rfl))) (da_cons (d_var (i := 11) rfl (visOf (by kernel_rfl))) da_nil))) da_nil)))) (dss_cons (ds_if (m := false) (dt_not (dt_val (d_callC (c__law_same h 6) tk hr (by decide) rfl (glOf (by kernel_rfl)) (da_cons (d_var (i := 13) rfl (visOf (by kernel_rfl))) (da_cons (d_tup (da_cons (d_and (d_cmp (ok_lt hu0) (d_ix (d_var (i := 11) rfl (visOf (by kernel_rfl))) d_int (fun _ _ => rfl)) (d_ix (d_var (i := 12) rfl (visOf (by kernel_rfl))) d_int (fun _ _ => rfl)) (by kernel_rfl)) (d_one (d_cmp (ok_lt hu0) (d_ix (d_var (i := 11) rfl (visOf (by kernel_rfl))) d_int (fun _ _ => rfl)) (d_ix (d_var (i := 12) rfl (visOf (by kernel_rfl))) d_int (fun _ _ => rfl)) (by kernel_rfl)))) (da_cons (d_and (d_cmp (ok_lt hu0) (d_ix (d_var (i := 12) rfl (visOf (by kernel_rfl))) d_int (fun _ _ => rfl)) (d_ix (d_var (i := 11) rfl (visOf (by kernel_rfl))) d_int (fun _ _ => rfl)) (by kernel_rfl)) (d_one (d_cmp (ok_lt hu0) (d_ix (d_var (i := 12) rfl (visOf (by kernel_rfl))) d_int (fun _ _ => rfl)) (d_ix (d_var (i := 11) rfl (visOf (by kernel_rfl))) d_int (fun _ _ => rfl)) (by kernel_rfl)))) da_nil))) da_nil))))) (dss_one (ds_ret (m := false) d_bl)) dss_nil) (dss_cons (ds_set (m := false) (i := 14) sc__law_right.nd rfl (locOf (by kernel_rfl)) (Or.inl rfl) (d_ix (d_var (i := 1) rfl (visOf (by kernel_rfl))) d_int (fun _ _ => rfl))) (dss_cons (ds_set (m := false) (i := 15) sc__law_right.nd rfl (locOf (by kernel_rfl)) (Or.inl rfl) (d_lst (da_cons (d_var (i := 14) rfl (visOf (by kernel_rfl))) (da_cons (d_callTy (ok_list rfl) (glOf (by kernel_rfl)) h.n_list (by decide +kernel) (da_cons (d_var (i := 14) rfl (visOf (by kernel_rfl))) da_nil)) (da_cons (d_cut (d_var (i := 14) rfl (visOf (by kernel_rfl))) do_no (do_at d_int)) (da_cons (d_op ok_add (d_var (i := 14) rfl (visOf (by kernel_rfl))) (d_tup (da_cons d_int da_nil))) (da_cons (d_tup (da_cons d_int (da_cons d_int da_nil))) (da_cons (d_tup (da_cons d_int (da_cons d_int da_nil))) (da_cons (d_tup (da_cons d_int (da_cons d_int da_nil))) (da_cons (d_tup (da_cons d_int (da_cons d_int da_nil))) (da_cons (d_tup (da_cons d_bl (da_cons d_int da_nil))) (da_cons (d_tup (da_cons d_int (da_cons d_non da_nil))) da_nil)))))))))))) (dss_cons (ds_for (m := false) (vs := [16]) (passes_of rfl) rfl (di_any (d_op ok_add (d_var (i := 15) rfl (visOf (by kernel_rfl))) (d_lst (da_cons d_non (da_cons d_int (da_cons (d_str (by kernel_rfl) (by kernel_rfl)) (da_cons (d_tup da_nil) (da_cons (d_var (i := 1) rfl (visOf (by kernel_rfl))) da_nil)))))))) (dg_name (i := 16) sc__law_right.nd rfl (locOf (by kernel_rfl)) (by decide) (Or.inl rfl)) (dss_cons (ds_set (m := false) (i := 17) sc__law_right.nd rfl (locOf (by kernel_rfl)) (Or.inl rfl) (d_callC (c__law_is_basket h) tk hr (by decide) rfl (glOf (by kernel_rfl)) (da_cons (d_var (i := 16) rfl (visOf (by kernel_rfl))) da_nil))) (dss_one (ds_if (m := false) (dt_not (dt_val (d_callC (c__law_same h 6) tk hr (by decide) rfl (glOf (by kernel_rfl)) (da_cons (d_tup (da_cons (d_callC (c_is_basket h) tk hr (by decide) rfl (glOf (by kernel_rfl)) (da_cons (d_var (i := 16) rfl (visOf (by kernel_rfl))) da_nil)) (da_cons (d_callC (c_are_baskets h) tk hr (by decide) rfl (glOf (by kernel_rfl)) (da_cons (d_tup (da_cons (d_var (i := 14) rfl (visOf (by kernel_rfl))) (da_cons (d_var (i := 16) rfl (visOf (by kernel_rfl))) da_nil))) da_nil)) da_nil))) (da_cons (d_tup (da_cons (d_var (i := 17) rfl (visOf (by kernel_rfl))) (da_cons (d_var (i := 17) rfl (visOf (by kernel_rfl))) da_nil))) da_nil))))) (dss_one (ds_ret (m := false) d_bl)) dss_nil)))) (dss_cons (ds_set (m := false) (i := 18) sc__law_right.nd rfl (locOf (by kernel_rfl)) (Or.inl rfl) (d_lst (da_cons (d_tup da_nil) (da_cons d_non (da_cons (d_lst (da_cons (d_var (i := 14) rfl (visOf (by kernel_rfl))) da_nil)) (da_cons (d_var (i := 14) rfl (visOf (by kernel_rfl))) (da_cons (d_op ok_mul (d_tup (da_cons (d_var (i := 14) rfl (visOf (by kernel_rfl))) da_nil)) d_int) da_nil))))))) (dss_one (ds_ret (m := false) (d_and (d_cmp ok_is (d_callC (c_are_baskets h) tk hr (by decide) rfl (glOf (by kernel_rfl)) (da_cons (d_op ok_mul (d_tup (da_cons (d_var (i := 14) rfl (visOf (by kernel_rfl))) da_nil)) d_int) da_nil)) d_bl (by kernel_rfl)) (d_one (d_cmp (ok_eq hu) (d_lc (own := [("value", 16)]) (vs := [16]) rfl sc__law_right.nd (di_any (d_var (i := 18) rfl (visOf (by kernel_rfl)))) (blkOk_by (by kernel_rfl)) rfl (tok_name (i := 16) (by decide)) (fun _ _ _ _ _ => (dg_name (i := 16) sc__law_right.nd rfl (locOf (by kernel_rfl)) (by decide) (fnOf' (by kernel_rfl)))) (fun _ _ _ _ _ => (dts_one (dt_cmp ok_isnot (d_callC (c_are_baskets h) takes0 hr (by decide) rfl (glOf (by kernel_rfl)) (da_cons (d_var (i := 16) rfl (visOf (by kernel_rfl))) da_nil)) d_bl (by kernel_rfl)))) (fun _ _ _ _ _ => (d_var (i := 16) rfl (visOf (by kernel_rfl))))) (d_lst da_nil) (by kernel_rfl))))))))))))))))))
theorem sc_law : FnScope ["script", "cup", "turn", "many", "baskets", "at", "told"] ["script"] (defScope t_law) := C8.fnScope_by (by kernel_rfl)
theorem l_law (h : Tops K w mg) {f : Addr} {fd : FuncData} (F : FunD K "law" "law" (defArgs t_law) (defBody t_law) (defScope t_law) [] [] f fd) : FnD P w K mg base 8 f fd ["script"] f_law := by
    refine fn_D F sc_law rfl fun cdv A outer sh H E hr => ?_
    have tk := takes_of (X := cxOf (L2.CX P w) P w K mg base ["script", "cup", "turn", "many", "baskets", "at", "told"] "law" (defScope t_law) f cdv A outer sh H E) (E := E) rfl rfl rfl rfl
    have hu := hr.units
    have hu0 := hr.units0
    have hu1 := room_in hr
    have huD := hu_of hr
    exact (dss_cons (ds_own (i := 1) sc_law.nd rfl (locOf (by kernel_rfl)) (Or.inl rfl) (dfr_callC (c__law_cup h) tk hr (by decide) rfl (glOf (by kernel_rfl)) (da_cons (d_var (i := 0) rfl (visOf (by kernel_rfl))) da_nil))) (dss_cons (ds_for (m := false) (vs := [2]) (passes_of rfl) rfl (di_rng1 (glOf (by kernel_rfl)) h.n_range (da_cons d_int da_nil)) (dg_name (i := 2) sc_law.nd rfl (locOf (by kernel_rfl)) (by decide) (Or.inl rfl)) (dss_one (ds_if (m := false) (dt_not (dt_val (d_callOC (i := 1) (c__law_right h) tk hr (by decide) rfl (glOf (by kernel_rfl)) rfl (visOf (by kernel_rfl)) da_nil (tidy_runDef _ _ _)))) (dss_one (ds_ret (m := false) d_bl)) dss_nil))) (dss_cons (ds_set (m := false) (i := 3) sc_law.nd rfl (locOf (by kernel_rfl)) (Or.inl rfl) (d_op ok_add d_int (d_callOC (i := 1) (c__law_roll h) tk hr (by decide) rfl (glOf (by kernel_rfl)) rfl (visOf (by kernel_rfl)) (da_cons d_int da_nil) (tidy_runDef _ _ _)))) (dss_cons (ds_set (m := false) (i := 4) sc_law.nd rfl (locOf (by kernel_rfl)) (Or.inl rfl) (d_callTy ok_tuple (glOf (by kernel_rfl)) h.n_tuple (by decide +kernel) (da_cons (d_lc (own := [("at", 5)]) (vs := [5]) rfl sc_law.nd (di_rng1 (glOf (by kernel_rfl)) h.n_range (da_cons (d_var (i := 3) rfl (visOf (by kernel_rfl))) da_nil)) (blkOk_by (by kernel_rfl)) rfl (tok_name (i := 5) (by decide)) (fun _ _ _ _ _ => (dg_name (i := 5) sc_law.nd rfl (locOf (by kernel_rfl)) (by decide) (fnOf' (by kernel_rfl)))) (fun _ _ _ _ _ => dts_nil) (fun _ _ _ _ _ => (d_tup (da_cons (d_op ok_sub d_int (d_var (i := 5) rfl (visOf (by kernel_rfl)))) (da_cons (d_op ok_sub d_int (d_op ok_mul d_int (d_var (i := 5) rfl (visOf (by kernel_rfl))))) da_nil))))) da_nil))) (dss_cons (ds_set (m := false) (i := 6) sc_law.nd rfl (locOf (by kernel_rfl)) (Or.inl rfl) (d_tup (da_cons (d_callC (c_inside_of h) tk hr (by decide) rfl (glOf (by kernel_rfl)) (da_cons (d_var (i := 4) rfl (visOf (by kernel_rfl))) (da_cons d_int da_nil))) (da_cons (d_callC (c_tight_holders h) tk hr (by decide) rfl (glOf (by kernel_rfl)) (da_cons (d_var (i := 4) rfl (visOf (by kernel_rfl))) (da_cons (d_op ok_sub (d_var (i := 3) rfl (visOf (by kernel_rfl))) d_int) da_nil))) (da_cons (d_callC (c_lone_baskets h) tk hr (by decide) rfl (glOf (by kernel_rfl)) (da_cons (d_var (i := 4) rfl (visOf (by kernel_rfl))) da_nil)) da_nil))))) (dss_one (ds_ret (m := false) (d_callC (c__law_same h 6) tk hr (by decide) rfl (glOf (by kernel_rfl)) (da_cons (d_var (i := 6) rfl (visOf (by kernel_rfl))) (da_cons (d_tup (da_cons (d_callTy ok_tuple (glOf (by kernel_rfl)) h.n_tuple (by decide +kernel) (da_cons (d_lrg2 rfl (glOf (by kernel_rfl)) h.n_list (glOf (by kernel_rfl)) h.n_range d_int (d_var (i := 3) rfl (visOf (by kernel_rfl)))) da_nil)) (da_cons (d_if (dt_cmp ok_gt (d_var (i := 3) rfl (visOf (by kernel_rfl))) d_int (by kernel_rfl)) (d_tup (da_cons (d_op ok_sub (d_var (i := 3) rfl (visOf (by kernel_rfl))) d_int) da_nil)) (d_tup da_nil)) (da_cons (d_if (dt_cmp (ok_eq hu) (d_var (i := 3) rfl (visOf (by kernel_rfl))) d_int (by kernel_rfl)) (d_tup (da_cons d_int da_nil)) (d_tup da_nil)) da_nil)))) da_nil))))))))))
end
/-! the end -/
def e_is_whole : He.DefD := defD "is_whole" t_is_whole
def e_fits_whole : He.DefD := defD "fits_whole" t_fits_whole
def e_is_tuple_of : He.DefD := defD "is_tuple_of" t_is_tuple_of
def e_fits_basket : He.DefD := defD "fits_basket" t_fits_basket
def e_fits_baskets : He.DefD := defD "fits_baskets" t_fits_baskets
def e_need_basket : He.DefD := defD "need_basket" t_need_basket
def e_need_baskets : He.DefD := defD "need_baskets" t_need_baskets
def e_need_number : He.DefD := defD "need_number" t_need_number
def e_goes_in : He.DefD := defD "goes_in" t_goes_in
def e_holders_in : He.DefD := defD "holders_in" t_holders_in
def e_is_basket : He.DefD := defD "is_basket" t_is_basket
def e_are_baskets : He.DefD := defD "are_baskets" t_are_baskets
def e_fits_in : He.DefD := defD "fits_in" t_fits_in
def e_inside_of : He.DefD := defD "inside_of" t_inside_of
def e_tight_holders : He.DefD := defD "tight_holders" t_tight_holders
def e_lone_baskets : He.DefD := defD "lone_baskets" t_lone_baskets
def e__law_cup : He.DefD := defD "_law_cup" t__law_cup
def e__law_roll : He.DefD := defD "_law_roll" t__law_roll
def e__law_some : He.DefD := defD "_law_some" t__law_some
def e__law_same : He.DefD := defD "_law_same" t__law_same
def e__law_baskets : He.DefD := defD "_law_baskets" t__law_baskets
def e__law_holders : He.DefD := defD "_law_holders" t__law_holders
def e__law_is_basket : He.DefD := defD "_law_is_basket" t__law_is_basket
def e__law_right : He.DefD := defD "_law_right" t__law_right
def e_law : He.DefD := defD "law" t_law
def fnL : List He.DefD := ([e_is_whole, e_fits_whole, e_is_tuple_of, e_fits_basket, e_fits_baskets, e_need_basket, e_need_baskets, e_need_number, e_goes_in, e_holders_in, e_is_basket, e_are_baskets, e_fits_in, e_inside_of, e_tight_holders, e_lone_baskets, e__law_cup, e__law_roll, e__law_some, e__law_same, e__law_baskets, e__law_holders, e__law_is_basket, e__law_right, e_law] : List He.DefD)
def faL : List He.Fa := ([.glo "is_whole", .glo "fits_whole", .glo "is_tuple_of", .glo "fits_basket", .glo "fits_baskets", .glo "need_basket", .glo "need_baskets", .glo "need_number", .glo "goes_in", .glo "holders_in", .glo "is_basket", .glo "are_baskets", .glo "fits_in", .glo "inside_of", .glo "tight_holders", .glo "lone_baskets", .glo "_law_cup", .glo "_law_roll", .glo "_law_some", .glo "_law_same", .glo "_law_baskets", .glo "_law_holders", .glo "_law_is_basket", .glo "_law_right", .glo "law", .glo "InvalidNumber", .glo "InvalidPlaces", .free "abs", .free "all", .free "bool"] : List He.Fa) ++ ([.free "enumerate", .free "int", .free "isinstance", .free "len", .free "list", .free "range", .free "str", .free "tuple", .int "MANY" 12, .int "SIZE" 99, .exc "InvalidNumber", .exc "InvalidPlaces"] : List He.Fa)
def tsL : List He.Tab := []
def exB (K : PySem.W.Frag) : Bool := true
theorem tops {w : World} {K : PySem.W.Frag} {h : Heap} {mg : Mg} (X : K.In h) (G : h.Ns mainGlobals mg) (c : He.SaysT faL fnL tsL w K) (cx : exB K = true) : Tops K w mg where
  d_is_whole := hasD_of X G c.d 0 0 rfl rfl fun _ _ _ _ _ _ us hl => match us, hl with | [_], _ => rfl
  d_fits_whole := hasD_of X G c.d 1 1 rfl rfl fun _ _ _ _ _ _ us hl => match us, hl with | [_, _, _], _ => rfl
  d_is_tuple_of := hasD_of X G c.d 2 2 rfl rfl fun _ _ _ _ _ _ us hl => match us, hl with | [_, _, _], _ => rfl
  d_fits_basket := hasD_of X G c.d 3 3 rfl rfl fun _ _ _ _ _ _ us hl => match us, hl with | [_], _ => rfl
  d_fits_baskets := hasD_of X G c.d 4 4 rfl rfl fun _ _ _ _ _ _ us hl => match us, hl with | [_], _ => rfl
  d_need_basket := hasD_of X G c.d 5 5 rfl rfl fun _ _ _ _ _ _ us hl => match us, hl with | [_], _ => rfl
  d_need_baskets := hasD_of X G c.d 6 6 rfl rfl fun _ _ _ _ _ _ us hl => match us, hl with | [_], _ => rfl
  d_need_number := hasD_of X G c.d 7 7 rfl rfl fun _ _ _ _ _ _ us hl => match us, hl with | [_, _], _ => rfl
  d_goes_in := hasD_of X G c.d 8 8 rfl rfl fun _ _ _ _ _ _ us hl => match us, hl with | [_, _], _ => rfl
  d_holders_in := hasD_of X G c.d 9 9 rfl rfl fun _ _ _ _ _ _ us hl => match us, hl with | [_], _ => rfl
  d_is_basket := hasD_of X G c.d 10 10 rfl rfl fun _ _ _ _ _ _ us hl => match us, hl with | [_], _ => rfl
  d_are_baskets := hasD_of X G c.d 11 11 rfl rfl fun _ _ _ _ _ _ us hl => match us, hl with | [_], _ => rfl
  d_fits_in := hasD_of X G c.d 12 12 rfl rfl fun _ _ _ _ _ _ us hl => match us, hl with | [_, _], _ => rfl
  d_inside_of := hasD_of X G c.d 13 13 rfl rfl fun _ _ _ _ _ _ us hl => match us, hl with | [_, _], _ => rfl
  d_tight_holders := hasD_of X G c.d 14 14 rfl rfl fun _ _ _ _ _ _ us hl => match us, hl with | [_, _], _ => rfl
  d_lone_baskets := hasD_of X G c.d 15 15 rfl rfl fun _ _ _ _ _ _ us hl => match us, hl with | [_], _ => rfl
  d__law_cup := hasD_of X G c.d 16 16 rfl rfl fun _ _ _ _ _ _ us hl => match us, hl with | [_], _ => rfl
  d__law_roll := hasD_of X G c.d 17 17 rfl rfl fun _ _ _ _ _ _ us hl => match us, hl with | [_, _], _ => rfl
  d__law_some := hasD_of X G c.d 18 18 rfl rfl fun _ _ _ _ _ _ us hl => match us, hl with | [_, _], _ => rfl
  d__law_same := hasD_of X G c.d 19 19 rfl rfl fun _ _ _ _ _ _ us hl => match us, hl with | [_, _], _ => rfl
  d__law_baskets := hasD_of X G c.d 20 20 rfl rfl fun _ _ _ _ _ _ us hl => match us, hl with | [_, _], _ => rfl
  d__law_holders := hasD_of X G c.d 21 21 rfl rfl fun _ _ _ _ _ _ us hl => match us, hl with | [_], _ => rfl
  d__law_is_basket := hasD_of X G c.d 22 22 rfl rfl fun _ _ _ _ _ _ us hl => match us, hl with | [_], _ => rfl
  d__law_right := hasD_of X G c.d 23 23 rfl rfl fun _ _ _ _ _ _ us hl => match us, hl with | [_], _ => rfl
  d_law := hasD_of X G c.d 24 24 rfl rfl fun _ _ _ _ _ _ us hl => match us, hl with | [_], _ => rfl
  n_abs := He.free_ok X G (c.d.fact 27 (f := .free "abs") rfl)
  n_all := He.free_ok X G (c.d.fact 28 (f := .free "all") rfl)
  n_bool := He.free_ok X G (c.d.fact 29 (f := .free "bool") rfl)
  n_enumerate := He.free_ok X G (c.d.fact 30 (f := .free "enumerate") rfl)
  n_int := He.free_ok X G (c.d.fact 31 (f := .free "int") rfl)
  n_isinstance := He.free_ok X G (c.d.fact 32 (f := .free "isinstance") rfl)
  n_len := He.free_ok X G (c.d.fact 33 (f := .free "len") rfl)
  n_list := He.free_ok X G (c.d.fact 34 (f := .free "list") rfl)
  n_range := He.free_ok X G (c.d.fact 35 (f := .free "range") rfl)
  n_str := He.free_ok X G (c.d.fact 36 (f := .free "str") rfl)
  n_tuple := He.free_ok X G (c.d.fact 37 (f := .free "tuple") rfl)
  c_MANY := He.int_ok X G (c.d.fact 38 (f := .int "MANY" 12) rfl)
  c_SIZE := He.int_ok X G (c.d.fact 39 (f := .int "SIZE" 99) rfl)
  e_InvalidNumber := excF_of X G c.d 25 40 rfl rfl
  e_InvalidPlaces := excF_of X G c.d 26 41 rfl rfl
theorem walk {l : PySem.W.OpenLaw} {qq : Program} {loose : List Str} {XP : (Str → Option Value) → Heap → Prop} {YP : World → Heap → Prop} {d : DefRec} {K : Params → PySem.W.Frag} (plain : ∀ ns : List Int, ns.length ≤ 63 → ∃ ss, f_law [.val (.scr (ns.map D.int))] = .ok (.bl true) ss)
    (hn : l.most = some 63) (hdf : d.params.defaults = []) (hd : d.name = ("law" : Str)) (hY : ∀ (w : World) (h : Heap), YP w h → (K w.params).In h) (hc : ∀ w : World, He.SaysT faL fnL tsL w (K w.params)) (hx : ∀ w : World, exB (K w.params) = true) :
    PySem.W.WalkO qq loose XP YP l.row.toRowW d [] (fun f vs => PySem.call f vs) := by
  refine L2.walk_ofE (l := l) (n := 63) (k := 8) (x := "script") (CX := L2.CX0) hn (by decide) hdf ⟨rfl, by decide, by decide⟩ ?F (fun _ _ _ _ z => z)
  intro w mg fa h Y G hmg0
  have KX := hY w h Y
  have c := hc w
  have hmg : mg ("law" : PySem.Str) = some (.ref fa) := by
    rw [← hd]
    exact hmg0
  have T := tops KX G c (hx w)
  obtain ⟨fd, F⟩ := c.d.def_ 24 (d := e_law) rfl
  have e2 := hmg.symm.trans (He.glo_ok KX G (c.d.fact 24 (f := .glo "law") rfl))
  cases e2
  have b := FunD.bindsA (ps := ["script"]) F fun _ _ _ _ _ _ us hl => match us, hl with | [_], _ => rfl
  exact ⟨K w.params, fd, fun vs H Q _ => spD (K w.params) mg 1 f_law vs H Q fun _ _ _ => False, KX, fun s v => b s [v] rfl, fun H a ns hl _ hS => law_sp (mg := mg) hS (plain ns hl), fun base _ _ => FnOk.calm (l_law T F)⟩
end K59
set_option Elab.async false
set_option linter.all false
set_option maxRecDepth 100000
set_option maxHeartbeats 4000000
namespace K59
open PySem L2 Wk
theorem roll_all : Rolls f__law_roll := roll_ok (by decide) (by decide) (by decide) (by decide)
theorem cup_all (ns : List Int) (h : ns.length ≤ 63) : ∃ a b, f__law_cup [.val (.scr (ns.map D.int))] = .ok [.int a, .int b] [.no] := cup_ok (by decide) (by decide) (by decide) ns h
theorem same_eq : ∀ n, f__law_same n = sameF n
  | 0 => rfl
  | n + 1 => by
    unfold f__law_same sameF
    rw [same_eq n]
    rfl
theorem same_ok (d : D) (h : cmpOk 6 d = true) : f__law_same 6 [.val d, .val d] = .ok (.bl true) [.no, .no] := by
  rw [same_eq]
  exact same_refl 6 d h
theorem whole_ok {v lo hi : Int} : f_fits_whole [.val (.int v), .val (.int lo), .val (.int hi)] = .ok (.bl (decide (lo ≤ v) && decide (v ≤ hi))) [.no, .no, .no] := by
  by_cases h : lo ≤ v
  · simp [f_fits_whole, s_fits_whole, f_is_whole, s_is_whole, isiD, tyN, isT, outs, leD, h]
  · simp [f_fits_whole, s_fits_whole, f_is_whole, s_is_whole, isiD, tyN, isT, outs, leD, h]
/-- a basket -/
abbrev bD (p : Int × Int) : D := .tup [.int p.1, .int p.2]
def Bk (p : Int × Int) : Prop := 1 ≤ p.1 ∧ p.1 ≤ 99 ∧ 1 ≤ p.2 ∧ p.2 ≤ 99
def Bks (B : List (Int × Int)) : Prop := (∀ p ∈ B, Bk p) ∧ 1 ≤ B.length ∧ B.length ≤ 12
theorem basket_ok {p : Int × Int} (h : Bk p) : f_fits_basket [.val (bD p)] = .ok (.bl true) [.no] := by
  obtain ⟨h1, h2, h3, h4⟩ := h
  have l2 : (2 : Nat) ≤ lim := by decide
  simp [f_fits_basket, s_fits_basket, f_is_tuple_of, s_is_tuple_of, isiD, tyN, isT, bLen, leD, outs, eLc, l2, lcGo, lightAt, wipeD, mixD, whole_ok, h1, h2, h3, h4, bAll, blsOf]
theorem baskets_ok {B : List (Int × Int)} (h : Bks B) : f_fits_baskets [.val (.tup (B.map bD))] = .ok (.bl true) [.no] := by
  have hl : (B.map bD).length ≤ lim := lim_big (by rw [List.length_map]; have := h.2.2; omega)
  have lc := lc_map (f := bD) (T := tgName 1) (c := cYes) (e := eCall 1 f_fits_basket (eCons (eVar 1) eNil)) (vs := [1]) (ρ := [.val (.tup (B.map bD)), .no]) (B := fun p => [.val (.tup (B.map bD)), .val (bD p)]) (p := fun _ => true) (g := fun _ => .bl true) rfl
    (os := B) fun p hp => ⟨by simp [wipeD], rfl, fun _ => by simp [basket_ok (h.1 p hp)], by simp [lightAt], by simp [mixD]⟩
  have e := eLc_ok (src := iOf anyOf (eVar 0)) (ρ := [.val (.tup (B.map bD)), .no]) (ds := B.map bD) (by simp) hl lc
  have hf : (List.map (fun _ : Int × Int => D.bl true) (List.filter (fun _ => true) B)) = List.replicate B.length (.bl true) := by
    rw [List.filter_eq_self.mpr (fun _ _ => rfl), List.map_const']
  rw [hf] at e
  have h1 : (1 : Int) ≤ (B.length : Int) := by have := h.2.1; omega
  have h12 : (B.length : Int) ≤ 12 := by have := h.2.2; omega
  simp [f_fits_baskets, s_fits_baskets, f_is_tuple_of, s_is_tuple_of, isiD, tyN, isT, bLen, leD, h1, h12, e, bAll, blsOf_true, outs]
theorem needs_ok {B : List (Int × Int)} (h : Bks B) : f_need_baskets [.val (.tup (B.map bD))] = .ok .non [.no] := by
  simp [f_need_baskets, s_need_baskets, baskets_ok h, outs]
theorem need1_ok {p : Int × Int} (h : Bk p) : f_need_basket [.val (bD p)] = .ok .non [.no] := by
  simp [f_need_basket, s_need_basket, basket_ok h, outs]
theorem number_ok {B : List (Int × Int)} {k : Nat} (hk : k < B.length) : f_need_number [.val (.tup (B.map bD)), .val (nD k)] = .ok .non [.no, .no] := by
  have e : (k : Int) ≤ (B.length : Int) - 1 := by omega
  simp [f_need_number, s_need_number, bLen, subD, whole_ok, e, outs]
def ltB (p q : Int × Int) : Bool := decide (p.1 < q.1) && decide (p.2 < q.2)
theorem goes_ok (p q : Int × Int) : f_goes_in [.val (bD p), .val (bD q)] = .ok (.bl (ltB p q)) [.no, .no] := by
  by_cases h : p.1 < q.1
  · simp [f_goes_in, s_goes_in, ixD, at0, at1, ltD, h, outs, ltB]
  · simp [f_goes_in, s_goes_in, ixD, at0, at1, ltD, h, outs, ltB]
abbrev bAt (B : List (Int × Int)) (i : Nat) : Int × Int := B.getD i (0, 0)
theorem atB {B : List (Int × Int)} {i : Nat} (h : i < B.length) : atI (B.map bD) (i : Int) = some (bD (bAt B i)) := by
  refine at_nat ?_
  rw [List.getElem?_map]
  simp [bAt, List.getD, h]
/-- the numbers of the baskets that hold the i-th -/
def hold (B : List (Int × Int)) (i : Nat) : List Nat := (List.range B.length).filter fun j => ltB (bAt B i) (bAt B j)
abbrev hD (B : List (Int × Int)) : D := .lst ((List.range B.length).map fun i => .lst ((hold B i).map nD))
theorem holders_ok {B : List (Int × Int)} (hB : B.length ≤ 12) : f_holders_in [.val (.tup (B.map bD))] = .ok (hD B) [.no] := by
  have hl : ((List.range B.length).map nD).length ≤ lim := lim_big (by simp; omega)
  have inner : ∀ i, i < B.length → eLc (tgName 2) (iOf anyOf (eVar 1)) (cT (eCall 2 f_goes_in (eCons (eOp ixD (eVar 0) (eVar 3)) (eCons (eOp ixD (eVar 0) (eVar 2)) eNil)))) (eVar 2) [2] [.val (.tup (B.map bD)), .val (.lst ((List.range B.length).map nD)), .no, .val (nD i)] =
      .ok (.lst ((hold B i).map nD)) [.val (.tup (B.map bD)), .val (.lst ((List.range B.length).map nD)), .no, .val (nD i)] := fun i hi => by
    have lc := lc_nats (T := tgName 2) (c := cT (eCall 2 f_goes_in (eCons (eOp ixD (eVar 0) (eVar 3)) (eCons (eOp ixD (eVar 0) (eVar 2)) eNil)))) (e := eVar 2) (vs := [2]) (ρ := [.val (.tup (B.map bD)), .val (.lst ((List.range B.length).map nD)), .no, .val (nD i)])
      (B := fun j => [.val (.tup (B.map bD)), .val (.lst ((List.range B.length).map nD)), .val (nD j), .val (nD i)]) (p := fun j => ltB (bAt B i) (bAt B j)) (g := nD) (by simp [lightAt]) (os := List.range B.length) fun j hj => by
        have hj' : j < B.length := List.mem_range.mp hj
        have h1 := atB hi
        have h2 := atB hj'
        generalize bAt B i = p at *
        generalize bAt B j = q at *
        exact ⟨by simp [wipeD], by simp [ixD, h1, h2, goes_ok], fun _ => by simp, by simp [lightAt], by simp [mixD]⟩
    exact eLc_ok (by simp) hl lc
  have lc := lc_nats (T := tgName 3) (c := cYes) (e := eLc (tgName 2) (iOf anyOf (eVar 1)) (cT (eCall 2 f_goes_in (eCons (eOp ixD (eVar 0) (eVar 3)) (eCons (eOp ixD (eVar 0) (eVar 2)) eNil)))) (eVar 2) [2]) (vs := [3]) (ρ := [.val (.tup (B.map bD)), .val (.lst ((List.range B.length).map nD)), .no, .no])
    (B := fun i => [.val (.tup (B.map bD)), .val (.lst ((List.range B.length).map nD)), .no, .val (nD i)]) (p := fun _ => true) (g := fun i => .lst ((hold B i).map nD)) (by simp [lightAt]) (os := List.range B.length) fun i hi =>
      ⟨by simp [wipeD], rfl, fun _ => inner i (List.mem_range.mp hi), by simp [lightAt], by simp [mixD]⟩
  have e := eLc_ok (src := iOf anyOf (eVar 1)) (ρ := [.val (.tup (B.map bD)), .val (.lst ((List.range B.length).map nD)), .no, .no]) (by simp) hl lc
  rw [List.filter_eq_self.mpr (fun _ _ => rfl)] at e
  have hr := rng1_nat B.length (by omega)
  rw [range_nD] at hr
  simp [f_holders_in, s_holders_in, bLen, hr, e, outs]
theorem inside_ok {B : List (Int × Int)} (h : Bks B) {k : Nat} (hk : k < B.length) : f_inside_of [.val (.tup (B.map bD)), .val (nD k)] = .ok (.tup (((List.range B.length).filter fun i => ltB (bAt B i) (bAt B k)).map nD)) [.no, .no] := by
  have hl : (pairsD 0 (B.map bD)).length ≤ lim := lim_big (by rw [pairsD_len, List.length_map]; have := h.2.2; omega)
  have hp : pairsD 0 (B.map bD) = (List.range B.length).map fun i => .tup [nD i, bD (bAt B i)] := by
    refine List.ext_getElem? fun i => ?_
    by_cases hi : i < B.length
    · have e1 : (B.map bD)[i]? = some (bD (bAt B i)) := by rw [List.getElem?_map]; simp [bAt, List.getD, hi]
      rw [pairsD_get e1]
      simp [hi]
    · rw [List.getElem?_eq_none (by rw [pairsD_len, List.length_map]; omega), List.getElem?_eq_none (by simp; omega)]
  have lc := lc_map (f := fun i : Nat => D.tup [nD i, bD (bAt B i)]) (T := tgTup (tgCons (tgName 2) (tgCons (tgName 3) tgNil))) (c := cT (eCall 2 f_goes_in (eCons (eVar 3) (eCons (eOp ixD (eVar 0) (eVar 1)) eNil)))) (e := eVar 2) (vs := [3, 2]) (ρ := [.val (.tup (B.map bD)), .val (nD k), .no, .no])
    (B := fun i => [.val (.tup (B.map bD)), .val (nD k), .val (nD i), .val (bD (bAt B i))]) (p := fun i => ltB (bAt B i) (bAt B k)) (g := nD) (by simp [lightAt]) (os := List.range B.length) fun i hi => by
      have h1 := atB hk
      generalize bAt B i = p at *
      generalize bAt B k = q at *
      exact ⟨by simp [wipeD], by simp [ixD, h1, goes_ok], fun _ => by simp, by simp [lightAt], by simp [mixD]⟩
  rw [← hp] at lc
  have e := eLc_ok (src := iArgs enD (eCons (eVar 0) eNil)) (ρ := [.val (.tup (B.map bD)), .val (nD k), .no, .no]) (by simp [enD]) hl lc
  simp [f_inside_of, s_inside_of, needs_ok h, number_ok hk, e, bTuple, outs]
theorem hold_lt {B : List (Int × Int)} {i j : Nat} (h : j ∈ hold B i) : j < B.length := by
  simp only [hold, List.mem_filter, List.mem_range] at h
  exact h.1
theorem hold_len (B : List (Int × Int)) (i : Nat) : (hold B i).length ≤ B.length := by
  have := List.length_filter_le (fun j => ltB (bAt B i) (bAt B j)) (List.range B.length)
  rw [List.length_range] at this
  exact this
theorem at_hD {B : List (Int × Int)} {i : Nat} (h : i < B.length) : atI ((List.range B.length).map fun i => D.lst ((hold B i).map nD)) (i : Int) = some (.lst ((hold B i).map nD)) := at_nat (by simp [h])
theorem flat_len {B : List (Int × Int)} {f : Nat → List Nat} (hB : B.length ≤ 12) (hf : ∀ i, (f i).length ≤ B.length) : ∀ os : List Nat, (os.flatMap f).length ≤ os.length * 12
  | [] => by simp
  | o :: os => by
    have h1 := flat_len hB hf os
    have h2 := hf o
    simp only [List.flatMap_cons, List.length_append, List.length_cons, Nat.succ_mul]
    omega
theorem tight_ok {B : List (Int × Int)} (h : Bks B) {k : Nat} (hk : k < B.length) : f_tight_holders [.val (.tup (B.map bD)), .val (nD k)] = .ok (.tup (((hold B k).filter fun to => !((hold B k).flatMap fun o => hold B o).contains to).map nD)) [.no, .no] := by
  have hB := h.2.2
  have lc2 := lc2_map (f := nD) (f1 := nD) (T := tgName 4) (T1 := tgName 5) (src1 := iOf anyOf (eOp ixD (eVar 2) (eVar 4))) (e := eVar 5) (vs := [4, 5]) (vs1 := [5]) (ρ := [.val (.tup (B.map bD)), .val (nD k), .val (hD B), .no, .no, .no])
    (B := fun i => [.val (.tup (B.map bD)), .val (nD k), .val (hD B), .no, .val (nD i), .no]) (B1 := fun i j => [.val (.tup (B.map bD)), .val (nD k), .val (hD B), .no, .val (nD i), .val (nD j)]) (os1 := hold B) (g := fun _ j => nD j) (by simp [lightAt]) (os := hold B k) fun i hi =>
      ⟨by simp [wipeD], by simp [ixD, at_hD (hold_lt hi)], by simp [lightAt], by simp [lightAt], by simp [mixD], fun j hj => ⟨by simp [wipeD], by simp, by simp [lightAt], by simp [mixD]⟩⟩
  have hm : ((hold B k).flatMap fun i => (hold B i).map fun j => nD j) = ((hold B k).flatMap fun o => hold B o).map nD := by rw [List.map_flatMap]
  rw [hm] at lc2
  have hl2 : (((hold B k).flatMap fun o => hold B o).map nD).length ≤ lim := lim_big (by
    rw [List.length_map]
    have h1 : ((hold B k).flatMap fun o => hold B o).length ≤ _ := flat_len hB (hold_len B) (hold B k)
    have h2 := hold_len B k
    omega)
  have e2 := eLc2_ok (src := iOf anyOf (eOp ixD (eVar 2) (eVar 1))) (ρ := [.val (.tup (B.map bD)), .val (nD k), .val (hD B), .no, .no, .no]) (by simp [ixD, at_hD hk]) lc2 hl2
  generalize hZ : ((hold B k).flatMap fun o => hold B o) = Z at *
  have lc := lc_nats (T := tgName 5) (c := cT (eCmp ninD (eVar 5) (eVar 3))) (e := eVar 5) (vs := [5]) (ρ := [.val (.tup (B.map bD)), .val (nD k), .val (hD B), .val (.lst (Z.map nD)), .no, .no])
    (B := fun i => [.val (.tup (B.map bD)), .val (nD k), .val (hD B), .val (.lst (Z.map nD)), .no, .val (nD i)]) (p := fun i => !Z.contains i) (g := nD) (by simp [lightAt]) (os := hold B k) fun i hi =>
      ⟨by simp [wipeD], by simp [-List.contains_eq_mem, nin_nats], fun _ => by simp, by simp [lightAt], by simp [mixD]⟩
  have e := eLc_ok (src := iOf anyOf (eOp ixD (eVar 2) (eVar 1))) (ρ := [.val (.tup (B.map bD)), .val (nD k), .val (hD B), .val (.lst (Z.map nD)), .no, .no]) (by simp [ixD, at_hD hk]) (lim_big (by rw [List.length_map]; have := hold_len B k; omega)) lc
  simp [-List.contains_eq_mem, f_tight_holders, s_tight_holders, needs_ok h, number_ok hk, holders_ok hB, e2, e, bTuple, outs]
def loneN (B : List (Int × Int)) : List Nat := (List.range B.length).filter fun i => (hold B i).isEmpty && !((List.range B.length).flatMap fun o => hold B o).contains i
theorem lone_ok {B : List (Int × Int)} (h : Bks B) : f_lone_baskets [.val (.tup (B.map bD))] = .ok (.tup ((loneN B).map nD)) [.no] := by
  have hB := h.2.2
  have lc2 := lc2_map (f := fun i => D.lst ((hold B i).map nD)) (f1 := nD) (T := tgName 3) (T1 := tgName 4) (src1 := iOf anyOf (eVar 3)) (e := eVar 4) (vs := [3, 4]) (vs1 := [4]) (ρ := [.val (.tup (B.map bD)), .val (hD B), .no, .no, .no, .no])
    (B := fun i => [.val (.tup (B.map bD)), .val (hD B), .no, .val (.lst ((hold B i).map nD)), .no, .no]) (B1 := fun i j => [.val (.tup (B.map bD)), .val (hD B), .no, .val (.lst ((hold B i).map nD)), .val (nD j), .no]) (os1 := hold B) (g := fun _ j => nD j) (by simp [lightAt]) (os := List.range B.length) fun i hi =>
      ⟨by simp [wipeD], by simp, by simp [lightAt], by simp [lightAt], by simp [mixD], fun j hj => ⟨by simp [wipeD], by simp, by simp [lightAt], by simp [mixD]⟩⟩
  have hm : ((List.range B.length).flatMap fun i => (hold B i).map fun j => nD j) = ((List.range B.length).flatMap fun o => hold B o).map nD := by rw [List.map_flatMap]
  rw [hm] at lc2
  have hl2 : (((List.range B.length).flatMap fun o => hold B o).map nD).length ≤ lim := lim_big (by
    rw [List.length_map]
    have h1 : ((List.range B.length).flatMap fun o => hold B o).length ≤ _ := flat_len hB (hold_len B) (List.range B.length)
    rw [List.length_range] at h1
    omega)
  have e2 := eLc2_ok (src := iOf anyOf (eVar 1)) (ρ := [.val (.tup (B.map bD)), .val (hD B), .no, .no, .no, .no]) (by simp) lc2 hl2
  unfold loneN
  generalize hZ : ((List.range B.length).flatMap fun o => hold B o) = Z at *
  have lc := lc_nats (T := tgName 5) (c := cAnd (cT (eCmp eqD (eOp ixD (eVar 1) (eVar 5)) (eLst eNil))) (cT (eCmp ninD (eVar 5) (eVar 2)))) (e := eVar 5) (vs := [5]) (ρ := [.val (.tup (B.map bD)), .val (hD B), .val (.lst (Z.map nD)), .no, .no, .no])
    (B := fun i => [.val (.tup (B.map bD)), .val (hD B), .val (.lst (Z.map nD)), .no, .no, .val (nD i)]) (p := fun i => (hold B i).isEmpty && !Z.contains i) (g := nD) (by simp [lightAt]) (os := List.range B.length) fun i hi => by
      have q : eqD (.lst ((hold B i).map nD)) (.lst []) = some (hold B i).isEmpty := by rw [eq_nil_of (shs_nats _), List.isEmpty_map]
      have q2 := at_hD (List.mem_range.mp hi)
      refine ⟨by simp [wipeD], ?_, fun _ => by simp, by simp [lightAt], by simp [mixD]⟩
      generalize hold B i = w at *
      cases hw : w.isEmpty <;> simp [-List.contains_eq_mem, -List.isEmpty_iff, -List.isEmpty_eq_false_iff, ixD, q2, q, hw, nin_nats]
  have hr := rng1_nat B.length (by omega)
  rw [range_nD] at hr
  have e := eLc_ok (src := iArgs rng1 (eCons (eB bLen (eCons (eVar 0) eNil)) eNil)) (ρ := [.val (.tup (B.map bD)), .val (hD B), .val (.lst (Z.map nD)), .no, .no, .no]) (ds := (List.range B.length).map nD) (by simp [bLen, hr]) (lim_big (by simp; omega)) lc
  simp [-List.contains_eq_mem, f_lone_baskets, s_lone_baskets, needs_ok h, holders_ok hB, e2, e, bTuple, outs]
theorem fitsin_ok {p q : Int × Int} (hp : Bk p) (hq : Bk q) : f_fits_in [.val (bD p), .val (bD q)] = .ok (.bl (ltB p q)) [.no, .no] := by
  simp [f_fits_in, s_fits_in, need1_ok hp, need1_ok hq, goes_ok, outs]
end K59
set_option Elab.async false
set_option linter.all false
set_option maxRecDepth 100000
set_option maxHeartbeats 4000000
namespace K59
open PySem L2 Wk
theorem somel_ok {xs : List D} (a b : Int) (h0 : xs ≠ []) (h1 : xs.length < 1000000) : ∃ c a' b', c ∈ xs ∧ f__law_some [.pin (cupD a b), .val (.lst xs)] = .ok c [.pin (cupD a' b'), .no] := some_lst roll_all a b h0 h1
theorem somet_ok {xs : List D} (a b : Int) (h0 : xs ≠ []) (h1 : xs.length < 1000000) : ∃ c a' b', c ∈ xs ∧ f__law_some [.pin (cupD a b), .val (.tup xs)] = .ok c [.pin (cupD a' b'), .no] := some_tup roll_all a b h0 h1
theorem drawn (a b : Int) : ∃ (B : List (Int × Int)) (a' b' : Int), Bks B ∧ f__law_baskets [.pin (cupD a b), .val (.int 12)] = .ok (.tup (B.map bD)) [.pin (cupD a' b'), .no] := by
  obtain ⟨d, a1, b1, hd, e1⟩ := somel_ok (xs := [.int 4, .int 9, .int 99]) a b (by simp) (by show 3 < 1000000; decide)
  obtain ⟨hi, rfl, h1, h2⟩ : ∃ hi : Int, d = .int hi ∧ 0 < hi ∧ hi ≤ 99 := by
    rcases (by simpa using hd : d = .int 4 ∨ d = .int 9 ∨ d = .int 99) with rfl | rfl | rfl
    · exact ⟨4, rfl, by decide, by decide⟩
    · exact ⟨9, rfl, by decide, by decide⟩
    · exact ⟨99, rfl, by decide, by decide⟩
  obtain ⟨r, a2, b2, r0, r1, e2⟩ := roll_all a1 b1 12 (by decide) (by decide)
  obtain ⟨m, hm⟩ : ∃ m : Nat, 1 + r = (m : Int) := ⟨(1 + r).toNat, by omega⟩
  obtain ⟨ρ', e3, B, a3, b3, j4, hB, hl, hj, rfl⟩ := for_inv (T := tgName 4) (s := sApp 3 (eTup (eCons (eOp addD (eC (.int 1)) (eCallO 2 f__law_roll 0 (eCons (eVar 2) eNil))) (eCons (eOp addD (eC (.int 1)) (eCallO 2 f__law_roll 0 (eCons (eVar 2) eNil))) eNil))))
    (I := fun rem ρ => ∃ (B : List (Int × Int)) (a b : Int) (j4 : Wk.Slot), (∀ p ∈ B, Bk p) ∧ B.length + rem.length = m ∧ j4.light = true ∧ ρ = [.pin (cupD a b), .val (.int 12), .val (.int hi), .own (.lst (B.map bD)), j4])
    (ds := rangeD 0 m) (ρ := [.pin (cupD a2 b2), .val (.int 12), .val (.int hi), .own (.lst []), .no]) ⟨[], a2, b2, .no, by simp, by simp [rangeD_len], rfl, rfl⟩ (by
      rintro d ds ρ ⟨B, a, b, j4, hB, hl, hj, rfl⟩
      obtain ⟨x, a4, b4, x0, x1, q1⟩ := roll_all a b hi h1 (by omega)
      obtain ⟨y, a5, b5, y0, y1, q2⟩ := roll_all a4 b4 hi h1 (by omega)
      have l2 : (2 : Nat) ≤ lim := by decide
      have lt : B.length < lim := by
        have : B.length ≤ 12 := by simp only [List.length_cons] at hl; omega
        exact Nat.lt_of_le_of_lt this (by decide)
      refine ⟨[.pin (cupD a b), .val (.int 12), .val (.int hi), .own (.lst (B.map bD)), .val d], [.pin (cupD a5 b5), .val (.int 12), .val (.int hi), .own (.lst ((B ++ [(1 + x, 1 + y)]).map bD)), .val d], by simp [canSet_light hj], ?_, B ++ [(1 + x, 1 + y)], a5, b5, .val d, ?_, by simp at hl ⊢; omega, rfl, rfl⟩
      · simp [q1, q2, addD, l2, putL, lt]
      · intro p hp
        rcases List.mem_append.mp hp with hp | hp
        · exact hB p hp
        · simp at hp
          subst hp
          exact ⟨by show (1 : Int) ≤ 1 + x; omega, by show 1 + x ≤ 99; omega, by show (1 : Int) ≤ 1 + y; omega, by show 1 + y ≤ 99; omega⟩)
  have l3 : (3 : Nat) ≤ lim := by decide
  have hr := rng1_nat m (by omega)
  rw [List.length_nil, Nat.add_zero] at hl
  refine ⟨B, a3, b3, ⟨hB, by omega, by omega⟩, ?_⟩
  simp [f__law_baskets, s__law_baskets, l3, e1, e2, addD, hm, hr, e3, bTuple, outs]
theorem lholders_ok {B : List (Int × Int)} (hB : B.length ≤ 12) : f__law_holders [.val (.tup (B.map bD))] = .ok (hD B) [.no] := by
  have hr := rng1_nat B.length (by omega)
  rw [range_nD] at hr
  obtain ⟨ρ', e3, done, rest, j2, j3, hd, hrem, k2, k3, rfl⟩ := for_inv (T := tgTup (tgCons (tgName 2) (tgCons (tgName 3) tgNil))) (s := sApp 1 (eLc (tgName 4) (iArgs rng1 (eCons (eB bLen (eCons (eVar 0) eNil)) eNil)) (cAnd (cT (eCmp ltD (eVar 2) (eOp ixD (eOp ixD (eVar 0) (eVar 4)) (eC (.int 0))))) (cT (eCmp ltD (eVar 3) (eOp ixD (eOp ixD (eVar 0) (eVar 4)) (eC (.int 1)))))) (eVar 4) [4]))
    (I := fun rem ρ => ∃ (done rest : List (Int × Int)) (j2 j3 : Wk.Slot), B = done ++ rest ∧ rem = rest.map bD ∧ j2.light = true ∧ j3.light = true ∧ ρ = [.val (.tup (B.map bD)), .own (.lst ((List.range done.length).map fun i => .lst ((hold B i).map nD))), j2, j3, .no])
    (ds := B.map bD) (ρ := [.val (.tup (B.map bD)), .own (.lst []), .no, .no, .no]) ⟨[], B, .no, .no, rfl, rfl, rfl, rfl, rfl⟩ (by
      rintro d ds ρ ⟨done, rest, j2, j3, hd, hrem, k2, k3, rfl⟩
      cases rest with
      | nil => cases hrem
      | cons p rest =>
        cases hrem
        have hk : done.length < B.length := by rw [hd]; simp
        have hp : bAt B done.length = p := by simp [bAt, List.getD, hd]
        have lc := lc_nats (T := tgName 4) (c := cAnd (cT (eCmp ltD (eVar 2) (eOp ixD (eOp ixD (eVar 0) (eVar 4)) (eC (.int 0))))) (cT (eCmp ltD (eVar 3) (eOp ixD (eOp ixD (eVar 0) (eVar 4)) (eC (.int 1)))))) (e := eVar 4) (vs := [4])
          (ρ := [.val (.tup (B.map bD)), .own (.lst ((List.range done.length).map fun i => .lst ((hold B i).map nD))), .val (.int p.1), .val (.int p.2), .no]) (B := fun j => [.val (.tup (B.map bD)), .own (.lst ((List.range done.length).map fun i => .lst ((hold B i).map nD))), .val (.int p.1), .val (.int p.2), .val (nD j)])
          (p := fun j => ltB p (bAt B j)) (g := nD) (by simp [lightAt]) (os := List.range B.length) fun j hj => by
            have h2 := atB (List.mem_range.mp hj)
            generalize bAt B j = q at *
            refine ⟨by simp [wipeD], ?_, fun _ => by simp, by simp [lightAt], by simp [mixD]⟩
            by_cases h : p.1 < q.1 <;> simp [ixD, h2, at0, at1, lt_int, ltB, h]
        have e := eLc_ok (src := iArgs rng1 (eCons (eB bLen (eCons (eVar 0) eNil)) eNil)) (ρ := [.val (.tup (B.map bD)), .own (.lst ((List.range done.length).map fun i => .lst ((hold B i).map nD))), .val (.int p.1), .val (.int p.2), .no]) (ds := (List.range B.length).map nD) (by simp [bLen, hr]) (lim_big (by simp; omega)) lc
        have hh : (List.range B.length).filter (fun j => ltB p (bAt B j)) = hold B done.length := by unfold hold; rw [hp]
        rw [hh] at e
        have lt : done.length < lim := Nat.lt_of_le_of_lt (Nat.le_trans (Nat.le_of_lt hk) hB) (by decide)
        refine ⟨[.val (.tup (B.map bD)), .own (.lst ((List.range done.length).map fun i => .lst ((hold B i).map nD))), .val (.int p.1), .val (.int p.2), .no], [.val (.tup (B.map bD)), .own (.lst ((List.range (done ++ [p]).length).map fun i => .lst ((hold B i).map nD))), .val (.int p.1), .val (.int p.2), .no], by simp [canSet_light k2, canSet_light k3], ?_, done ++ [p], rest, .val (.int p.1), .val (.int p.2), by simp [hd], rfl, rfl, rfl, rfl⟩
        simp [e, putL, lt, List.range_succ])
  have hrest : rest = [] := by cases rest with | nil => rfl | cons _ _ => cases hrem
  subst hrest
  rw [List.append_nil] at hd
  subst hd
  simp [f__law_holders, s__law_holders, e3, outs]
end K59
set_option Elab.async false
set_option linter.all false
set_option maxRecDepth 100000
set_option maxHeartbeats 4000000
namespace K59
open PySem L2 Wk
abbrev fr (a b : Int) (B : List (Int × Int)) (s3 s4 s6 s7 s8 s10 s11 s12 s13 s14 s15 s16 s17 s18 : Wk.Slot) : EnvD := [.pin (cupD a b), .val (.tup (B.map bD)), .val (hD B), s3, s4, .no, s6, s7, s8, .no, s10, s11, s12, s13, s14, s15, s16, s17, s18]
abbrev fr0 (a b : Int) (B : List (Int × Int)) (s3 s4 s6 s7 s8 : Wk.Slot) : EnvD := fr a b B s3 s4 s6 s7 s8 .no .no .no .no .no .no .no .no .no
theorem hold_mem {B : List (Int × Int)} {i k : Nat} (hk : k < B.length) : (hold B i).contains k = ltB (bAt B i) (bAt B k) := by
  rw [Bool.eq_iff_iff, List.contains_iff_mem]
  simp [hold, hk]
theorem f31 {a b : Int} {B : List (Int × Int)} {k : Nat} {s4 s6 s7 s8 : Wk.Slot} (hB : B.length ≤ 12) (hk : k < B.length) (h4 : s4.light = true) : s__law_right_3_1 (fr0 a b B (.val (nD k)) s4 s6 s7 s8) = .ok .nx (fr0 a b B (.val (nD k)) (.val (.tup (((List.range B.length).filter fun i => ltB (bAt B i) (bAt B k)).map nD))) s6 s7 s8) := by
  have hr := rng1_nat B.length (by omega)
  rw [range_nD] at hr
  have lc := lc_nats (T := tgName 5) (c := cT (eCmp inD (eVar 3) (eOp ixD (eVar 2) (eVar 5)))) (e := eVar 5) (vs := [5]) (ρ := fr0 a b B (.val (nD k)) s4 s6 s7 s8) (B := fun i => [.pin (cupD a b), .val (.tup (B.map bD)), .val (hD B), .val (nD k), s4, .val (nD i), s6, s7, s8, .no, .no, .no, .no, .no, .no, .no, .no, .no, .no]) (p := fun i => ltB (bAt B i) (bAt B k)) (g := nD) (by simp [lightAt])
    (os := List.range B.length) fun i hi => by
      have h1 := at_hD (List.mem_range.mp hi)
      have h2 := hold_mem (i := i) hk
      refine ⟨by simp [wipeD], ?_, fun _ => by simp, by simp [lightAt], by simp [mixD]⟩
      rw [← h2]
      generalize hold B i = w at *
      simp [-List.contains_eq_mem, ixD, h1, in_nats]
  have e := eLc_ok (src := iArgs rng1 (eCons (eB bLen (eCons (eVar 1) eNil)) eNil)) (ρ := fr0 a b B (.val (nD k)) s4 s6 s7 s8) (ds := (List.range B.length).map nD) (by simp [bLen, hr]) (lim_big (by simp; omega)) lc
  simp [s__law_right_3_1, e, bTuple, canSet_light h4]
def strN (B : List (Int × Int)) (k : Nat) (to : Nat) : Bool := ((hold B k).filter fun o => (hold B o).contains to).isEmpty
theorem f33 {a b : Int} {B : List (Int × Int)} {k : Nat} {s4 s7 s8 : Wk.Slot} (hB : B.length ≤ 12) (hk : k < B.length) (h7 : s7.light = true) (h8 : s8.light = true) :
    ∃ j7 j8 : Wk.Slot, j7.light = true ∧ j8.light = true ∧ s__law_right_3_3 (fr0 a b B (.val (nD k)) s4 (.val (.lst [])) s7 s8) = .ok .nx (fr0 a b B (.val (nD k)) s4 (.val (.lst (((hold B k).filter (strN B k)).map nD))) j7 j8) := by
  obtain ⟨ρ', e, done, rest, j7, j8, hd, hr, k7, k8, rfl⟩ := for_inv (T := tgName 7) (s := b__law_right_3_3) (I := fun rem ρ => ∃ (done rest : List Nat) (j7 j8 : Wk.Slot), hold B k = done ++ rest ∧ rem = rest.map nD ∧ j7.light = true ∧ j8.light = true ∧ ρ = fr0 a b B (.val (nD k)) s4 (.val (.lst ((done.filter (strN B k)).map nD))) j7 j8)
    (ds := (hold B k).map nD) (ρ := fr0 a b B (.val (nD k)) s4 (.val (.lst [])) s7 s8) ⟨[], hold B k, s7, s8, rfl, rfl, h7, h8, rfl⟩ (by
      rintro d ds ρ ⟨done, rest, j7, j8, hd, hr, k7, k8, rfl⟩
      cases rest with
      | nil => cases hr
      | cons to rest =>
        cases hr
        have lc := lc_nats (T := tgName 9) (c := cT (eCmp inD (eVar 7) (eOp ixD (eVar 2) (eVar 9)))) (e := eVar 9) (vs := [9]) (ρ := fr0 a b B (.val (nD k)) s4 (.val (.lst ((done.filter (strN B k)).map nD))) (.val (nD to)) j8)
          (B := fun i => [.pin (cupD a b), .val (.tup (B.map bD)), .val (hD B), .val (nD k), s4, .no, .val (.lst ((done.filter (strN B k)).map nD)), .val (nD to), j8, .val (nD i), .no, .no, .no, .no, .no, .no, .no, .no, .no]) (p := fun o => (hold B o).contains to) (g := nD) (by simp [lightAt])
          (os := hold B k) fun i hi => by
            have h1 := at_hD (hold_lt hi)
            refine ⟨by simp [wipeD], ?_, fun _ => by simp, by simp [lightAt], by simp [mixD]⟩
            generalize hold B i = w at *
            simp [-List.contains_eq_mem, ixD, h1, in_nats]
        have eL := eLc_ok (src := iOf anyOf (eOp ixD (eVar 2) (eVar 3))) (ρ := fr0 a b B (.val (nD k)) s4 (.val (.lst ((done.filter (strN B k)).map nD))) (.val (nD to)) j8) (by simp [ixD, at_hD hk]) (lim_big (by rw [List.length_map]; have := hold_len B k; omega)) lc
        have q : eqD (.lst (((hold B k).filter fun o => (hold B o).contains to).map nD)) (.lst []) = some (strN B k to) := by rw [eq_nil_of (shs_nats _), List.isEmpty_map]; rfl
        have hl1 : (done.filter (strN B k)).length + 1 ≤ lim := by
          have h1 := List.length_filter_le (strN B k) done
          have h2 := hold_len B k
          rw [hd] at h2
          simp at h2
          exact lim_big (by omega)
        have hl0 : (done.filter (strN B k)).length ≤ lim := Nat.le_trans (Nat.le_succ _) hl1
        have l1 : (1 : Nat) ≤ lim := by decide
        generalize hZ : ((hold B k).filter fun o => (hold B o).contains to) = Z at *
        refine ⟨fr0 a b B (.val (nD k)) s4 (.val (.lst ((done.filter (strN B k)).map nD))) (.val (nD to)) j8, fr0 a b B (.val (nD k)) s4 (.val (.lst (((done ++ [to]).filter (strN B k)).map nD))) (.val (nD to)) (.val (.lst (Z.map nD))), by simp [canSet_light k7], ?_, done ++ [to], rest, .val (nD to), .val (.lst (Z.map nD)), by simp [hd], rfl, rfl, rfl, rfl⟩
        have hfil : (done ++ [to]).filter (strN B k) = done.filter (strN B k) ++ if strN B k to then [to] else [] := by
          rw [List.filter_append]
          congr 1
          simp [List.filter_cons]
        rw [hfil]
        generalize strN B k to = t at *
        generalize done.filter (strN B k) = dn at *
        cases t <;> simp [b__law_right_3_3, eL, canSet_light k8, q, l1, addD, hl0, hl1])
  have hrest : rest = [] := by cases rest with | nil => rfl | cons _ _ => cases hr
  subst hrest
  rw [List.append_nil] at hd
  rw [hd]
  exact ⟨j7, j8, k7, k8, by simp only [s__law_right_3_3, sFor_ap, sDo_ap, iOf_ap, bnd_ap]; simp [ixD, at_hD hk, e]⟩
theorem str_tight (B : List (Int × Int)) (k to : Nat) : strN B k to = !((hold B k).flatMap fun o => hold B o).contains to := by
  unfold strN
  rw [Bool.eq_iff_iff, List.isEmpty_iff, List.filter_eq_nil_iff, Bool.not_eq_true', ← Bool.not_eq_true, List.contains_iff_mem, List.mem_flatMap]
  constructor
  · rintro h ⟨o, ho, hto⟩
    exact h o ho (List.contains_iff_mem.mpr hto)
  · intro h o ho hto
    exact h ⟨o, ho, List.contains_iff_mem.mp hto⟩
theorem body3 {a b : Int} {B : List (Int × Int)} {k : Nat} {s4 s6 s7 s8 : Wk.Slot} (h : Bks B) (hk : k < B.length) (h4 : s4.light = true) (h6 : s6.light = true) (h7 : s7.light = true) (h8 : s8.light = true) :
    ∃ j4 j6 j7 j8 : Wk.Slot, j4.light = true ∧ j6.light = true ∧ j7.light = true ∧ j8.light = true ∧ b__law_right_3 (fr0 a b B (.val (nD k)) s4 s6 s7 s8) = .ok .nx (fr0 a b B (.val (nD k)) j4 j6 j7 j8) := by
  have hB := h.2.2
  have e1 := f31 (a := a) (b := b) (s6 := s6) (s7 := s7) (s8 := s8) hB hk h4
  obtain ⟨j7, j8, k7, k8, e3⟩ := f33 (a := a) (b := b) (s4 := .val (.tup (((List.range B.length).filter fun i => ltB (bAt B i) (bAt B k)).map nD))) hB hk h7 h8
  have ei := inside_ok h hk
  have et := tight_ok h hk
  have hst : (hold B k).filter (strN B k) = (hold B k).filter fun to => !((hold B k).flatMap fun o => hold B o).contains to := by
    congr 1
    funext to
    exact str_tight B k to
  rw [← hst] at et
  have l2 : (2 : Nat) ≤ lim := by decide
  have c1 : ((List.range B.length).filter fun i => ltB (bAt B i) (bAt B k)).length ≤ 1000000 := by
    have := List.length_filter_le (fun i => ltB (bAt B i) (bAt B k)) (List.range B.length)
    rw [List.length_range] at this
    omega
  have c2 : ((hold B k).filter (strN B k)).length ≤ 1000000 := by
    have h1 := List.length_filter_le (strN B k) (hold B k)
    have h2 := hold_len B k
    omega
  generalize ((List.range B.length).filter fun i => ltB (bAt B i) (bAt B k)) = X at *
  generalize (hold B k).filter (strN B k) = Y at *
  have hs := same_ok (.tup [.tup (X.map nD), .tup (Y.map nD)]) (by
    have d1 : (X.map nD).length ≤ 1000000 := by rw [List.length_map]; exact c1
    have d2 : (Y.map nD).length ≤ 1000000 := by rw [List.length_map]; exact c2
    simp only [cmpOk, cmpOks, d1, d2, cmpOks_nats, decide_true, Bool.and_self, List.length_cons, List.length_nil]
    rfl)
  refine ⟨.val (.tup (X.map nD)), .val (.lst (Y.map nD)), j7, j8, rfl, rfl, k7, k8, ?_⟩
  simp only [b__law_right_3, sSeq_ap, e1]
  simp only [sAsg_ap, sDo_ap, eLst_ap, eNil_ap, bnd_ap, List.length_nil, Nat.zero_le, if_true, lift_some, sTg_ap, tgName_ap, List.getElem?_cons_succ, List.getElem?_cons_zero, canSet_light h6, List.set_cons_succ, List.set_cons_zero, e3]
  simp [s__law_right_3_4, ei, et, l2, bTuple, hs]
end K59
set_option Elab.async false
set_option linter.all false
set_option maxRecDepth 100000
set_option maxHeartbeats 4000000
namespace K59
open PySem L2 Wk
theorem st3 {a b : Int} {B : List (Int × Int)} (h : Bks B) : ∃ j3 j4 j6 j7 j8 : Wk.Slot, s__law_right_3 (fr0 a b B .no .no .no .no .no) = .ok .nx (fr0 a b B j3 j4 j6 j7 j8) := by
  obtain ⟨ρ', e, hm, j3, j4, j6, j7, j8, k3, k4, k6, k7, k8, rfl⟩ := for_inv (T := tgName 3) (s := b__law_right_3) (I := fun rem ρ => (∀ d ∈ rem, ∃ k, k < B.length ∧ d = nD k) ∧ ∃ j3 j4 j6 j7 j8 : Wk.Slot, j3.light = true ∧ j4.light = true ∧ j6.light = true ∧ j7.light = true ∧ j8.light = true ∧ ρ = fr0 a b B j3 j4 j6 j7 j8)
    (ds := (List.range B.length).map nD) (ρ := fr0 a b B .no .no .no .no .no) ⟨fun d hd => by obtain ⟨k, hk, rfl⟩ := List.mem_map.mp hd; exact ⟨k, List.mem_range.mp hk, rfl⟩, .no, .no, .no, .no, .no, rfl, rfl, rfl, rfl, rfl, rfl⟩ (by
      rintro d ds ρ ⟨hm, j3, j4, j6, j7, j8, k3, k4, k6, k7, k8, rfl⟩
      obtain ⟨k, hk, rfl⟩ := hm d (by simp)
      obtain ⟨i4, i6, i7, i8, m4, m6, m7, m8, e⟩ := body3 (a := a) (b := b) h hk k4 k6 k7 k8
      exact ⟨fr0 a b B (.val (nD k)) j4 j6 j7 j8, _, by simp [canSet_light k3], e, fun d hd => hm d (by simp [hd]), .val (nD k), i4, i6, i7, i8, rfl, m4, m6, m7, m8, rfl⟩)
  have hr := rng1_nat B.length (by have := h.2.2; omega)
  rw [range_nD] at hr
  exact ⟨j3, j4, j6, j7, j8, by simp only [s__law_right_3, sFor_ap, sDo_ap, iArgs_ap, bnd_ap]; simp [bLen, hr, e]⟩
theorem shs_lists {n : Nat} (f : Nat → List Nat) : ∀ os : List Nat, shs (n + 2) (os.map fun i => D.lst ((f i).map nD)) = true
  | [] => rfl
  | o :: os => by simp [shs, sh, shs_nats (n := n), shs_lists f os]
theorem lone_eq (B : List (Int × Int)) (i : Nat) : ((List.range B.length).filter fun o => (hold B o).contains i).isEmpty = !((List.range B.length).flatMap fun o => hold B o).contains i := by
  rw [Bool.eq_iff_iff, List.isEmpty_iff, List.filter_eq_nil_iff, Bool.not_eq_true', ← Bool.not_eq_true, List.contains_iff_mem, List.mem_flatMap]
  constructor
  · rintro h ⟨o, ho, hto⟩
    exact h o ho (List.contains_iff_mem.mpr hto)
  · intro h o ho hto
    exact h ⟨o, ho, List.contains_iff_mem.mp hto⟩
theorem st4 {a b : Int} {B : List (Int × Int)} {j3 j4 j6 j7 j8 : Wk.Slot} (h : Bks B) : s__law_right_4 (fr0 a b B j3 j4 j6 j7 j8) = .ok .nx (fr a b B j3 j4 j6 j7 j8 (.val (.tup ((loneN B).map nD))) .no .no .no .no .no .no .no .no) := by
  have hB := h.2.2
  have hr := rng1_nat B.length (by omega)
  rw [range_nD] at hr
  have inner : ∀ i, eLc (tgName 9) (iOf anyOf (eVar 2)) (cT (eCmp inD (eVar 5) (eVar 9))) (eVar 9) [9] [.pin (cupD a b), .val (.tup (B.map bD)), .val (hD B), j3, j4, .val (nD i), j6, j7, j8, .no, .no, .no, .no, .no, .no, .no, .no, .no, .no] =
      .ok (.lst (((List.range B.length).filter fun o => (hold B o).contains i).map fun o => .lst ((hold B o).map nD))) [.pin (cupD a b), .val (.tup (B.map bD)), .val (hD B), j3, j4, .val (nD i), j6, j7, j8, .no, .no, .no, .no, .no, .no, .no, .no, .no, .no] := fun i => by
    have lc := lc_map (f := fun o => D.lst ((hold B o).map nD)) (T := tgName 9) (c := cT (eCmp inD (eVar 5) (eVar 9))) (e := eVar 9) (vs := [9]) (ρ := [.pin (cupD a b), .val (.tup (B.map bD)), .val (hD B), j3, j4, .val (nD i), j6, j7, j8, .no, .no, .no, .no, .no, .no, .no, .no, .no, .no])
      (B := fun o => [.pin (cupD a b), .val (.tup (B.map bD)), .val (hD B), j3, j4, .val (nD i), j6, j7, j8, .val (.lst ((hold B o).map nD)), .no, .no, .no, .no, .no, .no, .no, .no, .no]) (p := fun o => (hold B o).contains i) (g := fun o => .lst ((hold B o).map nD)) (by simp [lightAt])
      (os := List.range B.length) fun o ho => ⟨by simp [wipeD], by simp [-List.contains_eq_mem, in_nats], fun _ => by simp, by simp [lightAt], by simp [mixD]⟩
    exact eLc_ok (by simp) (lim_big (by simp; omega)) lc
  have lc := lc_nats (T := tgName 5) (c := cAnd (cT (eCmp eqD (eOp ixD (eVar 2) (eVar 5)) (eLst eNil))) (cT (eCmp eqD (eLc (tgName 9) (iOf anyOf (eVar 2)) (cT (eCmp inD (eVar 5) (eVar 9))) (eVar 9) [9]) (eLst eNil)))) (e := eVar 5) (vs := [5]) (ρ := fr0 a b B j3 j4 j6 j7 j8)
    (B := fun i => [.pin (cupD a b), .val (.tup (B.map bD)), .val (hD B), j3, j4, .val (nD i), j6, j7, j8, .no, .no, .no, .no, .no, .no, .no, .no, .no, .no]) (p := fun i => (hold B i).isEmpty && !((List.range B.length).flatMap fun o => hold B o).contains i) (g := nD) (by simp [lightAt]) (os := List.range B.length) fun i hi => by
      have q : eqD (.lst ((hold B i).map nD)) (.lst []) = some (hold B i).isEmpty := by rw [eq_nil_of (shs_nats _), List.isEmpty_map]
      have q2 := at_hD (List.mem_range.mp hi)
      have q3 := inner i
      have q4 : eqD (.lst (((List.range B.length).filter fun o => (hold B o).contains i).map fun o => .lst ((hold B o).map nD))) (.lst []) = some (!((List.range B.length).flatMap fun o => hold B o).contains i) := by
        rw [eq_nil_of (shs_lists _ _), List.isEmpty_map, lone_eq]
      generalize (((List.range B.length).filter fun o => (hold B o).contains i).map fun o => D.lst ((hold B o).map nD)) = Z at *
      generalize ((List.range B.length).flatMap fun o => hold B o).contains i = z at *
      refine ⟨by simp [wipeD], ?_, fun _ => by simp, by simp [lightAt], by simp [mixD]⟩
      generalize hold B i = w at *
      cases hw : w.isEmpty <;> simp [-List.isEmpty_iff, -List.isEmpty_eq_false_iff, ixD, q2, q, hw, q3, q4]
  have e := eLc_ok (src := iArgs rng1 (eCons (eB bLen (eCons (eVar 1) eNil)) eNil)) (ρ := fr0 a b B j3 j4 j6 j7 j8) (ds := (List.range B.length).map nD) (by simp [bLen, hr]) (lim_big (by simp; omega)) lc
  have e' : eLc (tgName 5) (iArgs rng1 (eCons (eB bLen (eCons (eVar 1) eNil)) eNil)) (cAnd (cT (eCmp eqD (eOp ixD (eVar 2) (eVar 5)) (eLst eNil))) (cT (eCmp eqD (eLc (tgName 9) (iOf anyOf (eVar 2)) (cT (eCmp inD (eVar 5) (eVar 9))) (eVar 9) [9]) (eLst eNil)))) (eVar 5) [5] (fr0 a b B j3 j4 j6 j7 j8) = .ok (.lst ((loneN B).map nD)) (fr0 a b B j3 j4 j6 j7 j8) := e
  simp [s__law_right_4, e', bTuple]
theorem lone_le (B : List (Int × Int)) : (loneN B).length ≤ B.length := by
  have h := List.length_filter_le (fun i => (hold B i).isEmpty && !((List.range B.length).flatMap fun o => hold B o).contains i) (List.range B.length)
  rw [List.length_range] at h
  exact h
theorem st5 {a b : Int} {B : List (Int × Int)} {j3 j4 j6 j7 j8 : Wk.Slot} (h : Bks B) : s__law_right_5 (fr a b B j3 j4 j6 j7 j8 (.val (.tup ((loneN B).map nD))) .no .no .no .no .no .no .no .no) = .ok .nx (fr a b B j3 j4 j6 j7 j8 (.val (.tup ((loneN B).map nD))) .no .no .no .no .no .no .no .no) := by
  have e := lone_ok h
  have hl := lone_le B
  have hB := h.2.2
  generalize loneN B = Y at *
  have hs := same_ok (.tup (Y.map nD)) (by
    have d2 : (Y.map nD).length ≤ 1000000 := by rw [List.length_map]; omega
    simp only [cmpOk, d2, cmpOks_nats, decide_true, Bool.and_self])
  simp [s__law_right_5, e, hs]
theorem mem_bD {B : List (Int × Int)} {d : D} (h : d ∈ B.map bD) : ∃ p, p ∈ B ∧ d = bD p := by
  obtain ⟨p, hp, rfl⟩ := List.mem_map.mp h
  exact ⟨p, hp, rfl⟩
/-- fits_basket at a thing: what the law tells too -/
structure Tells (v : D) (g : Bool) : Prop where
  fb : f_fits_basket [.val v] = .ok (.bl g) [.no]
  lb : f__law_is_basket [.val v] = .ok (.bl g) [.no]
theorem tells_true {p : Int × Int} (h : Bk p) : Tells (bD p) true := by
  refine ⟨basket_ok h, ?_⟩
  obtain ⟨h1, h2, h3, h4⟩ := h
  have l2 : (2 : Nat) ≤ lim := by decide
  have q : eqD (.lst []) (.lst []) = some true := rfl
  simp [f__law_is_basket, s__law_is_basket, isiD, tyN, isT, bLen, PySem.PyData.eqv, Wk.ne_int, eLc, l2, lcGo, lightAt, wipeD, mixD, leD, h1, h2, h3, h4, q, outs]
theorem are_ok {p : Int × Int} (h : Bk p) {v : D} {g : Bool} (t : Tells v g) : f_are_baskets [.val (.tup [bD p, v])] = .ok (.bl g) [.no] := by
  have l2 : (2 : Nat) ≤ lim := by decide
  have e1 := basket_ok h
  have e2 := t.fb
  generalize bD p = u at *
  simp [f_are_baskets, s_are_baskets, f_fits_baskets, s_fits_baskets, f_is_tuple_of, s_is_tuple_of, isiD, tyN, isT, bLen, leD, outs, eLc, l2, lcGo, lightAt, wipeD, mixD, e1, e2, bAll, blsOf]
theorem isb_ok {v : D} {g : Bool} (t : Tells v g) : f_is_basket [.val v] = .ok (.bl g) [.no] := by
  simp [f_is_basket, s_is_basket, t.fb, outs]
end K59
set_option Elab.async false
set_option linter.all false
set_option maxRecDepth 100000
set_option maxHeartbeats 4000000
namespace K59
open PySem L2 Wk
theorem tl1 (x y : Int) : Tells (.lst [.int x, .int y]) false := ⟨by kernel_rfl, by kernel_rfl⟩
theorem tl2 (x : Int) : Tells (.tup [.int x]) false := ⟨by kernel_rfl, by kernel_rfl⟩
theorem tl3 (x y : Int) : Tells (.tup [.int x, .int y, .int 1]) false := ⟨by kernel_rfl, by kernel_rfl⟩
theorem tl4 : Tells (.tup [.int 0, .int 5]) false := ⟨by kernel_rfl, by kernel_rfl⟩
theorem tl5 : Tells (.tup [.int 5, .int 0]) false := ⟨by kernel_rfl, by kernel_rfl⟩
theorem tl6 : Tells (.tup [.int 100, .int 1]) false := ⟨by kernel_rfl, by kernel_rfl⟩
theorem tl7 : Tells (.tup [.int 1, .int 99]) true := ⟨by kernel_rfl, by kernel_rfl⟩
theorem tl8 : Tells (.tup [.bl true, .int 5]) false := ⟨by kernel_rfl, by kernel_rfl⟩
theorem tl9 : Tells (.tup [.int 5, .non]) false := ⟨by kernel_rfl, by kernel_rfl⟩
theorem tl10 : Tells .non false := ⟨by kernel_rfl, by kernel_rfl⟩
theorem tl11 : Tells (.int 5) false := ⟨by kernel_rfl, by kernel_rfl⟩
theorem tl12 : Tells (.str [97, 98]) false := ⟨by kernel_rfl, by kernel_rfl⟩
theorem tl13 : Tells (.tup []) false := ⟨by kernel_rfl, by kernel_rfl⟩
theorem tl14 (B : List (Int × Int)) : Tells (.tup (B.map bD)) false := by
  match B with
  | [] => exact tl13
  | [p] => exact ⟨by kernel_rfl, by kernel_rfl⟩
  | [p, q] => exact ⟨by kernel_rfl, by kernel_rfl⟩
  | p :: q :: r :: B =>
    have e1 : (2 : Int) ≤ (B.length : Int) + 1 + 1 + 1 := by omega
    have e2 : ¬ (B.length : Int) + 1 + 1 + 1 ≤ 2 := by omega
    have e3 : ((B.length : Int) + 1 + 1 + 1 == 2) = false := by rw [beq_eq_false_iff_ne]; omega
    exact ⟨by simp [f_fits_basket, s_fits_basket, f_is_tuple_of, s_is_tuple_of, isiD, tyN, isT, bLen, leD, outs, e1, e2], by simp [f__law_is_basket, s__law_is_basket, isiD, tyN, isT, bLen, Wk.ne_int, e3, outs]⟩
theorem b_at {B : List (Int × Int)} (h : Bks B) : Bk (bAt B 0) := by
  have h1 : 0 < B.length := h.2.1
  exact h.1 _ (by simp [bAt, List.getD, h1])
theorem st6 {a b : Int} {B : List (Int × Int)} {j3 j4 j6 j7 j8 s10 : Wk.Slot} (h : Bks B) : ∃ (p q : Int × Int) (a' b' : Int), Bk p ∧ Bk q ∧ s__law_right_6 (fr a b B j3 j4 j6 j7 j8 s10 .no .no .no .no .no .no .no .no) = .ok .nx (fr a' b' B j3 j4 j6 j7 j8 s10 (.val (bD p)) (.val (bD q)) .no .no .no .no .no .no) := by
  have hne : B.map bD ≠ [] := fun z => by have := congrArg List.length z; simp at this; have := h.2.1; subst_vars; simp at this
  have hl : (B.map bD).length < 1000000 := by rw [List.length_map]; have := h.2.2; omega
  obtain ⟨d1, a1, b1, m1, e1⟩ := somet_ok a b hne hl
  obtain ⟨d2, a2, b2, m2, e2⟩ := somet_ok a1 b1 hne hl
  obtain ⟨p, hp, rfl⟩ := mem_bD m1
  obtain ⟨q, hq, rfl⟩ := mem_bD m2
  exact ⟨p, q, a2, b2, h.1 p hp, h.1 q hq, by simp [s__law_right_6, e1, e2]⟩
theorem st78 {a b : Int} {B : List (Int × Int)} {p q : Int × Int} {j3 j4 j6 j7 j8 s10 : Wk.Slot} (hp : Bk p) (hq : Bk q) : sSeq s__law_right_7 s__law_right_8 (fr a b B j3 j4 j6 j7 j8 s10 (.val (bD p)) (.val (bD q)) .no .no .no .no .no .no) = .ok .nx (fr a b B j3 j4 j6 j7 j8 s10 (.val (bD p)) (.val (bD q)) (.val (.tup [.bl (ltB p q), .bl (ltB q p)])) .no .no .no .no .no) := by
  have l2 : (2 : Nat) ≤ lim := by decide
  have f1 := fitsin_ok hp hq
  have f2 := fitsin_ok hq hp
  have hs := same_ok (.tup [.bl (ltB p q), .bl (ltB q p)]) (by rfl)
  have e7 : s__law_right_7 (fr a b B j3 j4 j6 j7 j8 s10 (.val (bD p)) (.val (bD q)) .no .no .no .no .no .no) = .ok .nx (fr a b B j3 j4 j6 j7 j8 s10 (.val (bD p)) (.val (bD q)) (.val (.tup [.bl (ltB p q), .bl (ltB q p)])) .no .no .no .no .no) := by
    simp [s__law_right_7, f1, f2, l2]
  rw [sSeq_ap, e7]
  unfold ltB at hs ⊢
  by_cases h1 : p.1 < q.1
  · have h2 : ¬ q.1 < p.1 := by omega
    simp [h1, h2] at hs
    simp [s__law_right_8, ixD, at0, at1, lt_int, h1, h2, l2, hs]
  · by_cases h2 : q.1 < p.1
    · simp [h1, h2] at hs
      simp [s__law_right_8, ixD, at0, at1, lt_int, h1, h2, l2, hs]
    · simp [h1, h2] at hs
      simp [s__law_right_8, ixD, at0, at1, lt_int, h1, h2, l2, hs]
abbrev nearN (p : Int × Int) : List D := [bD p, .lst [.int p.1, .int p.2], .tup [.int p.1], .tup [.int p.1, .int p.2, .int 1], .tup [.int 0, .int 5], .tup [.int 5, .int 0], .tup [.int 100, .int 1], .tup [.int 1, .int 99], .tup [.bl true, .int 5], .tup [.int 5, .non]]
theorem st9 {a b : Int} {B : List (Int × Int)} {j3 j4 j6 j7 j8 s10 s11 s12 s13 : Wk.Slot} (h : Bks B) : sSeq s__law_right_9 s__law_right_10 (fr a b B j3 j4 j6 j7 j8 s10 s11 s12 s13 .no .no .no .no .no) = .ok .nx (fr a b B j3 j4 j6 j7 j8 s10 s11 s12 s13 (.val (bD (bAt B 0))) (.val (.lst (nearN (bAt B 0)))) .no .no .no) := by
  have h0 := atB (B := B) (i := 0) h.2.1
  have h0' : atI (B.map bD) 0 = some (bD (bAt B 0)) := h0
  generalize bAt B 0 = p at *
  have e9 : s__law_right_9 (fr a b B j3 j4 j6 j7 j8 s10 s11 s12 s13 .no .no .no .no .no) = .ok .nx (fr a b B j3 j4 j6 j7 j8 s10 s11 s12 s13 (.val (bD p)) .no .no .no .no) := by
    simp [s__law_right_9, ixD, h0']
  rw [sSeq_ap, e9]
  have l1 : (1 : Nat) ≤ lim := by decide
  have l2 : (2 : Nat) ≤ lim := by decide
  have l3 : (3 : Nat) ≤ lim := by decide
  have l10 : (10 : Nat) ≤ lim := by decide
  have hc : cut [D.int p.1, D.int p.2] none (some 1) = [.int p.1] := by kernel_rfl
  simp [s__law_right_10, bList, cutD, hc, addD, l1, l2, l3, l10]
theorem st11 {a b : Int} {B : List (Int × Int)} {j3 j4 j6 j7 j8 s10 s11 s12 s13 : Wk.Slot} (h : Bks B) : ∃ j16 j17 : Wk.Slot, j16.light = true ∧ s__law_right_11 (fr a b B j3 j4 j6 j7 j8 s10 s11 s12 s13 (.val (bD (bAt B 0))) (.val (.lst (nearN (bAt B 0)))) .no .no .no) =
    .ok .nx (fr a b B j3 j4 j6 j7 j8 s10 s11 s12 s13 (.val (bD (bAt B 0))) (.val (.lst (nearN (bAt B 0)))) j16 j17 .no) := by
  have hp := b_at h
  generalize bAt B 0 = p at *
  have l2 : (2 : Nat) ≤ lim := by decide
  obtain ⟨ρ', e, hm, j16, j17, k16, k17, rfl⟩ := for_inv (T := tgName 16) (s := b__law_right_11) (I := fun rem ρ => (∀ d ∈ rem, ∃ g, Tells d g) ∧ ∃ j16 j17 : Wk.Slot, j16.light = true ∧ j17.light = true ∧ ρ = fr a b B j3 j4 j6 j7 j8 s10 s11 s12 s13 (.val (bD p)) (.val (.lst (nearN p))) j16 j17 .no)
    (ds := nearN p ++ [.non, .int 5, .str [97, 98], .tup [], .tup (B.map bD)]) (ρ := fr a b B j3 j4 j6 j7 j8 s10 s11 s12 s13 (.val (bD p)) (.val (.lst (nearN p))) .no .no .no) ⟨by
      intro d hd
      simp only [nearN, List.cons_append, List.nil_append, List.mem_cons, List.not_mem_nil, or_false] at hd
      rcases hd with rfl | rfl | rfl | rfl | rfl | rfl | rfl | rfl | rfl | rfl | rfl | rfl | rfl | rfl | rfl
      · exact ⟨_, tells_true hp⟩
      · exact ⟨_, tl1 _ _⟩
      · exact ⟨_, tl2 _⟩
      · exact ⟨_, tl3 _ _⟩
      · exact ⟨_, tl4⟩
      · exact ⟨_, tl5⟩
      · exact ⟨_, tl6⟩
      · exact ⟨_, tl7⟩
      · exact ⟨_, tl8⟩
      · exact ⟨_, tl9⟩
      · exact ⟨_, tl10⟩
      · exact ⟨_, tl11⟩
      · exact ⟨_, tl12⟩
      · exact ⟨_, tl13⟩
      · exact ⟨_, tl14 B⟩, .no, .no, rfl, rfl, rfl⟩ (by
      rintro d ds ρ ⟨hm, j16, j17, k16, k17, rfl⟩
      obtain ⟨g, t⟩ := hm d (by simp)
      have t1 := isb_ok t
      have t2 := are_ok hp t
      have t3 := t.lb
      have hs := same_ok (.tup [.bl g, .bl g]) (by rfl)
      generalize nearN p = Z at *
      generalize bD p = u at *
      exact ⟨fr a b B j3 j4 j6 j7 j8 s10 s11 s12 s13 (.val u) (.val (.lst Z)) (.val d) j17 .no, fr a b B j3 j4 j6 j7 j8 s10 s11 s12 s13 (.val u) (.val (.lst Z)) (.val d) (.val (.bl g)) .no, by simp [canSet_light k16], by simp [b__law_right_11, s__law_right_11_1, s__law_right_11_2, t1, t2, t3, l2, hs, canSet_light k17], fun d hd => hm d (by simp [hd]), .val d, .val (.bl g), rfl, rfl, rfl⟩)
  have l5 : (5 : Nat) ≤ lim := by decide
  have l0 : (0 : Nat) ≤ lim := by decide
  have l15 : (15 : Nat) ≤ lim := by decide
  refine ⟨j16, j17, k16, ?_⟩
  simp only [s__law_right_11, sFor_ap, sDo_ap, iOf_ap, bnd_ap]
  simp [l5, addD, l15]
  exact e
end K59
set_option Elab.async false
set_option linter.all false
set_option maxRecDepth 100000
set_option maxHeartbeats 4000000
namespace K59
open PySem L2 Wk
theorem rep12 (u : D) : mulD (.tup [u]) (.int 12) = some (.tup (List.replicate 12 u)) := by kernel_rfl
theorem rep13 (u : D) : mulD (.tup [u]) (.int 13) = some (.tup (List.replicate 13 u)) := by kernel_rfl
theorem are12 {p : Int × Int} (h : Bk p) : f_are_baskets [.val (.tup (List.replicate 12 (bD p)))] = .ok (.bl true) [.no] := by
  have e := baskets_ok (B := List.replicate 12 p) ⟨fun q hq => by rw [List.eq_of_mem_replicate hq]; exact h, by simp, by simp⟩
  rw [List.map_replicate] at e
  generalize List.replicate 12 (bD p) = w at *
  simp [f_are_baskets, s_are_baskets, e, outs]
def no4 (p : Int × Int) : List D := [.tup [], .non, .lst [bD p], bD p, .tup (List.replicate 13 (bD p))]
theorem odd1 : f_are_baskets [.val (.tup [])] = .ok (.bl false) [.no] := by kernel_rfl
theorem odd2 : f_are_baskets [.val .non] = .ok (.bl false) [.no] := by kernel_rfl
theorem odd3 (u : D) : f_are_baskets [.val (.lst [u])] = .ok (.bl false) [.no] := by kernel_rfl
theorem odd4 (x y : Int) : f_are_baskets [.val (.tup [.int x, .int y])] = .ok (.bl false) [.no] := by kernel_rfl
theorem odd5 (u : D) : f_are_baskets [.val (.tup (List.replicate 13 u))] = .ok (.bl false) [.no] := by kernel_rfl
theorem st12 {a b : Int} {B : List (Int × Int)} {j3 j4 j6 j7 j8 s10 s11 s12 s13 s15 s16 s17 : Wk.Slot} {p : Int × Int} : s__law_right_12 (fr a b B j3 j4 j6 j7 j8 s10 s11 s12 s13 (.val (bD p)) s15 s16 s17 .no) = .ok .nx (fr a b B j3 j4 j6 j7 j8 s10 s11 s12 s13 (.val (bD p)) s15 s16 s17 (.val (.lst (no4 p)))) := by
  have l1 : (1 : Nat) ≤ lim := by decide
  have l5 : (5 : Nat) ≤ lim := by decide
  have r := rep13 (bD p)
  generalize hw : List.replicate 13 (bD p) = w at r
  simp [s__law_right_12, l1, l5, r, no4, hw]
theorem st13 {a b : Int} {B : List (Int × Int)} {j3 j4 j6 j7 j8 s10 s11 s12 s13 s15 s16 s17 : Wk.Slot} {p : Int × Int} (hp : Bk p) (h16 : s16.light = true) : s__law_right_13 (fr a b B j3 j4 j6 j7 j8 s10 s11 s12 s13 (.val (bD p)) s15 s16 s17 (.val (.lst (no4 p)))) = .ok (.rt (.bl true)) (fr a b B j3 j4 j6 j7 j8 s10 s11 s12 s13 (.val (bD p)) s15 s16 s17 (.val (.lst (no4 p)))) := by
  have l1 : (1 : Nat) ≤ lim := by decide
  have lc := lc_pure (T := tgName 16) (c := cT (eCmp isnD (eCall 1 f_are_baskets (eCons (eVar 16) eNil)) (eC (.bl false)))) (e := eVar 16) (vs := [16]) (ρ := fr a b B j3 j4 j6 j7 j8 s10 s11 s12 s13 (.val (bD p)) s15 s16 s17 (.val (.lst (no4 p))))
    (B := fun d => fr a b B j3 j4 j6 j7 j8 s10 s11 s12 s13 (.val (bD p)) s15 (.val d) s17 (.val (.lst (no4 p)))) (p := fun _ => false) (g := fun d => d) (by simp [lightAt, h16]) (ds := no4 p) fun d hd => by
      have e : f_are_baskets [.val d] = .ok (.bl false) [.no] := by
        simp only [no4, List.mem_cons, List.not_mem_nil, or_false] at hd
        rcases hd with rfl | rfl | rfl | rfl | rfl
        · exact odd1
        · exact odd2
        · exact odd3 _
        · exact odd4 _ _
        · exact odd5 _
      generalize no4 p = Z at *
      exact ⟨by simp [wipeD], by simp [e, isnD, isND], fun z => (by cases z), by simp [lightAt], by simp [mixD]⟩
  have hl : (no4 p).length ≤ lim := lim_big (by simp [no4])
  have e := eLc_ok (src := iOf anyOf (eVar 18)) (ρ := fr a b B j3 j4 j6 j7 j8 s10 s11 s12 s13 (.val (bD p)) s15 s16 s17 (.val (.lst (no4 p)))) (ds := no4 p) (by simp) hl lc
  have hf : (List.map (fun d : D => d) (List.filter (fun _ : D => false) (no4 p))) = [] := by simp
  rw [hf] at e
  have r := rep12 (bD p)
  have r2 := are12 hp
  have q : eqD (.lst []) (.lst []) = some true := rfl
  generalize List.replicate 12 (bD p) = w at *
  generalize bD p = u at *
  generalize no4 p = Z at *
  simp [s__law_right_13, l1, r, r2, isND, e, q]
theorem right_ok (a b : Int) : ∃ a' b', f__law_right [.pin (cupD a b)] = .ok (.bl true) [.pin (cupD a' b')] := by
  obtain ⟨B, a1, b1, h, e1⟩ := drawn a b
  have e2 := lholders_ok h.2.2
  obtain ⟨j3, j4, j6, j7, j8, e3⟩ := st3 (a := a1) (b := b1) h
  have e4 := st4 (a := a1) (b := b1) (j3 := j3) (j4 := j4) (j6 := j6) (j7 := j7) (j8 := j8) h
  have e5 := st5 (a := a1) (b := b1) (j3 := j3) (j4 := j4) (j6 := j6) (j7 := j7) (j8 := j8) h
  obtain ⟨p, q, a6, b6, hp, hq, e6⟩ := st6 (a := a1) (b := b1) (j3 := j3) (j4 := j4) (j6 := j6) (j7 := j7) (j8 := j8) (s10 := .val (.tup ((loneN B).map nD))) h
  have e7 := st78 (a := a6) (b := b6) (B := B) (j3 := j3) (j4 := j4) (j6 := j6) (j7 := j7) (j8 := j8) (s10 := .val (.tup ((loneN B).map nD))) hp hq
  have e9 := st9 (a := a6) (b := b6) (j3 := j3) (j4 := j4) (j6 := j6) (j7 := j7) (j8 := j8) (s10 := .val (.tup ((loneN B).map nD))) (s11 := .val (bD p)) (s12 := .val (bD q)) (s13 := .val (.tup [.bl (ltB p q), .bl (ltB q p)])) h
  obtain ⟨j16, j17, k16, e11⟩ := st11 (a := a6) (b := b6) (j3 := j3) (j4 := j4) (j6 := j6) (j7 := j7) (j8 := j8) (s10 := .val (.tup ((loneN B).map nD))) (s11 := .val (bD p)) (s12 := .val (bD q)) (s13 := .val (.tup [.bl (ltB p q), .bl (ltB q p)])) h
  have e12 := st12 (a := a6) (b := b6) (B := B) (j3 := j3) (j4 := j4) (j6 := j6) (j7 := j7) (j8 := j8) (s10 := .val (.tup ((loneN B).map nD))) (s11 := .val (bD p)) (s12 := .val (bD q)) (s13 := .val (.tup [.bl (ltB p q), .bl (ltB q p)])) (s15 := .val (.lst (nearN (bAt B 0)))) (s16 := j16) (s17 := j17) (p := bAt B 0)
  have e13 := st13 (a := a6) (b := b6) (B := B) (j3 := j3) (j4 := j4) (j6 := j6) (j7 := j7) (j8 := j8) (s10 := .val (.tup ((loneN B).map nD))) (s11 := .val (bD p)) (s12 := .val (bD q)) (s13 := .val (.tup [.bl (ltB p q), .bl (ltB q p)])) (s15 := .val (.lst (nearN (bAt B 0)))) (s16 := j16) (s17 := j17) (b_at h) k16
  have g1 : s__law_right_1 ([.pin (cupD a b)] ++ List.replicate 18 .no) = .ok .nx [.pin (cupD a1 b1), .val (.tup (B.map bD)), .no, .no, .no, .no, .no, .no, .no, .no, .no, .no, .no, .no, .no, .no, .no, .no, .no] := by
    simp [s__law_right_1, e1]
  have g2 : s__law_right_2 [.pin (cupD a1 b1), .val (.tup (B.map bD)), .no, .no, .no, .no, .no, .no, .no, .no, .no, .no, .no, .no, .no, .no, .no, .no, .no] = .ok .nx (fr0 a1 b1 B .no .no .no .no .no) := by
    simp [s__law_right_2, e2]
  refine ⟨a6, b6, ?_⟩
  have assoc : ∀ (s t u : SM) (ρ : EnvD), sSeq s (sSeq t u) ρ = sSeq (sSeq s t) u ρ := fun s t u ρ => by
    simp only [sSeq_ap]
    cases s ρ with
    | ok fl ρ' => cases fl <;> rfl
    | err _ _ => rfl
    | stuck => rfl
  simp only [f__law_right, runDef_ap, s__law_right]
  rw [sSeq_ap, g1]
  simp only []
  rw [sSeq_ap, g2]
  simp only []
  rw [sSeq_ap, e3]
  simp only []
  rw [sSeq_ap, e4]
  simp only []
  rw [sSeq_ap, e5]
  simp only []
  rw [sSeq_ap, e6]
  simp only []
  rw [assoc, sSeq_ap, e7]
  simp only []
  rw [assoc, sSeq_ap, e9]
  simp only []
  rw [sSeq_ap, e11]
  simp only []
  rw [sSeq_ap, e12]
  simp only []
  rw [e13]
  rfl
theorem tail_ok (x : D) (a b : Int) (j2 : Wk.Slot) : ∀ n : Nat, 1 ≤ n → n ≤ 12 → isTrue (sSeq s_law_4 (sSeq s_law_5 s_law_6) [.val x, .own (cupD a b), j2, .val (.int (n : Int)), .no, .no, .no]) = true
  | 0, h, _ => by omega
  | 1, _, _ => by kernel_rfl
  | 2, _, _ => by kernel_rfl
  | 3, _, _ => by kernel_rfl
  | 4, _, _ => by kernel_rfl
  | 5, _, _ => by kernel_rfl
  | 6, _, _ => by kernel_rfl
  | 7, _, _ => by kernel_rfl
  | 8, _, _ => by kernel_rfl
  | 9, _, _ => by kernel_rfl
  | 10, _, _ => by kernel_rfl
  | 11, _, _ => by kernel_rfl
  | 12, _, _ => by kernel_rfl
  | n + 13, _, h => by omega
theorem plain (ns : List Int) (h : ns.length ≤ 63) : ∃ ss, f_law [.val (.scr (ns.map D.int))] = .ok (.bl true) ss := by
  obtain ⟨a, b, e1⟩ := cup_all ns h
  generalize D.scr (ns.map D.int) = x at *
  have f1 : s_law_1 ([.val x] ++ List.replicate 6 .no) = .ok .nx [.val x, .own (cupD a b), .no, .no, .no, .no, .no] := by
    simp [s_law_1, e1]
  obtain ⟨ρ', e2, a2, b2, j2, k2, rfl⟩ := for_inv (T := tgName 2) (s := s_law_2_1) (I := fun _ ρ => ∃ (a b : Int) (j2 : Wk.Slot), j2.light = true ∧ ρ = [.val x, .own (cupD a b), j2, .no, .no, .no, .no]) (ds := rangeD 0 5) (ρ := [.val x, .own (cupD a b), .no, .no, .no, .no, .no]) ⟨a, b, .no, rfl, rfl⟩ (by
    rintro d ds ρ ⟨a, b, j2, k2, rfl⟩
    obtain ⟨a', b', e⟩ := right_ok a b
    exact ⟨[.val x, .own (cupD a b), .val d, .no, .no, .no, .no], [.val x, .own (cupD a' b'), .val d, .no, .no, .no, .no], by simp [canSet_light k2], by simp [s_law_2_1, e], a', b', .val d, rfl, rfl⟩)
  have f2 : s_law_2 [.val x, .own (cupD a b), .no, .no, .no, .no, .no] = .ok .nx [.val x, .own (cupD a2 b2), j2, .no, .no, .no, .no] := by
    have hr : rng1 [.int 5] = some (rangeD 0 5) := rng1_nat 5 (by decide)
    simp [s_law_2, hr, e2]
  obtain ⟨r, a3, b3, h0, h1, e3⟩ := roll_all a2 b2 12 (by decide) (by decide)
  obtain ⟨n, hn⟩ : ∃ n : Nat, 1 + r = (n : Int) := ⟨(1 + r).toNat, by omega⟩
  have f3 : s_law_3 [.val x, .own (cupD a2 b2), j2, .no, .no, .no, .no] = .ok .nx [.val x, .own (cupD a3 b3), j2, .val (.int (n : Int)), .no, .no, .no] := by
    simp [s_law_3, e3, addD, hn]
  obtain ⟨ρ4, e4⟩ := isTrue_ok (tail_ok x a3 b3 j2 n (by omega) (by omega))
  refine ⟨outs [.val x] ρ4, ?_⟩
  simp only [f_law, runDef_ap, s_law]
  rw [sSeq_ap, f1]
  simp only []
  rw [sSeq_ap, f2]
  simp only []
  rw [sSeq_ap, f3]
  simp only [e4]
end K59
open PySem PySem.W PyProof.Rows
theorem PySem.Challenge.cw_wickerwork_k59_whole_baskets_that_fit_holds : PySem.Challenge.rw_wickerwork_k59_whole_baskets_that_fit.Holds := by
  w_on; o_law; k_head; (case hw => w_witness2)
  k_fill
  refine K59.walk (l := PySem.Challenge.rw_wickerwork_k59_whole_baskets_that_fit) K59.plain rfl rfl (by kernel_rfl) (fun w h Y => PySem.W.kIn_of Y) ?c ?x
  case c => intro w; unfold He.SaysT; kernel_rfl
  case x => intro w; kernel_rfl
