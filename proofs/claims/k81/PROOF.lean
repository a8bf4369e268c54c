import PyProof.Rows.All
import KE.OsRunLaw
import HandS.ForMost
import HandS.Exc
import HandS.TryOnly
import HandS.ExcOwn
import HandS.Wide
import HandS.IsInst
import HandS.WordsExc
import HandS.TupAny
import HandS.WideBits
import HandS.SortInts
import HandS.Small
import HandS.ExcIs
import HandS.Rev
import HandS.Style
import HandS.Gcd
import HandS.Iter
import HandS.FStr
import HandS.Codes
import HandS.RaiseMore
import PyProof.StrOps2
import HandS.StrMore
import HandS.More
import HandS.TupMul
import PyProof.ListStr
import PyProof.Rows.ListStrD
import PyProof.CollectStr
import KE.DatumOrd
import PyProof.LongRange
import KE.GoesComp
import KE.KAsSuite
import PySem.Challenge.RW_tensorworks_k81_both_sides_of_each_bound
set_option Elab.async false
set_option linter.all false
set_option maxRecDepth 100000
/-! DLa: plain data, what stands for it in the heap, the slots of a def, runs with draws. -/
namespace DL
open PySem PySem.Spec PyProof.Rows L2

/-! ### data -/
inductive P where
  | non | bl (b : Bool) | int (i : Int) | str (x : Str) | tup (xs : List P) | fl (ns : List Int)
inductive D where
  | p (x : P) | lst (xs : List P) | ls (xs : List D) | tp (xs : List D) | dic (kvs : List (Key × P)) | dit (kvs : List (List Key × P)) | orc | scr (ns : List Int)
abbrev D.int (i : Int) : D := .p (.int i)
abbrev D.str (x : Str) : D := .p (.str x)
abbrev D.bl (b : Bool) : D := .p (.bl b)
abbrev D.non : D := .p .non

section
variable (K : PySem.W.Frag) (H : Hp)
mutual
def RepP : P → V → Prop
  | .non, v => v = .non
  | .bl b, v => v = .bl b
  | .int i, v => v = .int i
  | .str x, v => v = .str x
  | .fl ns, v => ∃ a o, v = .ref a ∧ H a = some (.frz o (.lst (ns.map V.int)))
  | .tup xs, v => ∃ a vs, v = .ref a ∧ SqT K H a vs ∧ RepPs xs vs
def RepPs : List P → List V → Prop
  | [], vs => vs = []
  | x :: xs, vs => ∃ v r, vs = v :: r ∧ RepP x v ∧ RepPs xs r
end
def RepKs {κ : Type} : List (κ × P) → List (κ × V) → Prop
  | [], ws => ws = []
  | (k, x) :: xs, ws => ∃ v r, ws = (k, v) :: r ∧ RepP K H x v ∧ RepKs xs r
/-- the list of draws at a: the script's copy at s, three ints -/
def OrcAt (a s : Addr) (h : Heap) : Prop := ∃ (i b z : Int) (t1 t2 t3 : Tok) (n : Nat), h.get? a = some { cls := .type "list", data := .seq #[.ref s, .int i t1, .int b t2, .int z t3] n } ∧ 0 ≤ i ∧ 0 ≤ b ∧ 0 ≤ z ∧ z < 2147483647
mutual
def RepD : D → V → List Addr → Prop
  | .p x, v, fp => RepP K H x v ∧ fp = []
  | .lst xs, v, fp => ∃ a vs, v = .ref a ∧ H a = some (.lst vs) ∧ fp = [a] ∧ RepPs K H xs vs
  | .ls xs, v, fp => ∃ a vs f, v = .ref a ∧ H a = some (.lst vs) ∧ fp = a :: f ∧ RepDs xs vs f
  | .tp xs, v, fp => ∃ a vs, v = .ref a ∧ SqT K H a vs ∧ RepDs xs vs fp
  | .dic kvs, v, fp => ∃ a ws, v = .ref a ∧ H a = some (.dK ws) ∧ fp = [a] ∧ RepKs K H kvs ws
  | .dit kvs, v, fp => ∃ a ws, v = .ref a ∧ H a = some (.dT ws) ∧ fp = [a] ∧ RepKs K H kvs ws
  | .scr ns, v, fp => fp = [] ∧ ∃ a, v = .ref a ∧ ((∃ o, H a = some (.frz o (.lst (ns.map V.int)))) ∨ ∃ (o : Obj) (its : Array Value) (n : Nat), K.lookup a = some o ∧ o.cls = .type "list" ∧ o.dict = none ∧ o.data = .seq its n ∧ its.size ≤ sizeLine ∧ Vals (ns.map V.int) its.toList)
  | .orc, v, fp => ∃ a s ns, v = .ref a ∧ fp = [a, s] ∧ H a = some (.ext (OrcAt a s)) ∧ H s = some (.lst ((ns : List Int).map V.int))
def RepDs : List D → List V → List Addr → Prop
  | [], vs, fp => vs = [] ∧ fp = []
  | x :: xs, vs, fp => ∃ v r f g, vs = v :: r ∧ fp = f ++ g ∧ RepD x v f ∧ RepDs xs r g
end
end

/-! ### what stays -/
/-- tuples and what is locked stay -/
structure KT (H H' : Hp) : Prop where
  tup : ∀ a xs, Rd H a (.tup xs) → Rd H' a (.tup xs)
  frz : ∀ a o u, H a = some (.frz o u) → H' a = some (.frz o u)
theorem Same.kt {H H' : Hp} (s : Same H H') : KT H H' := ⟨fun a xs h => by
  rcases h with h | ⟨o, h⟩
  · exact .inl (s _ _ h)
  · exact .inr ⟨o, s _ _ h⟩, fun a o u h => s _ _ h⟩
theorem KT.refl (H : Hp) : KT H H := ⟨fun _ _ h => h, fun _ _ _ h => h⟩
theorem KT.trans {H H1 H2 : Hp} (a : KT H H1) (b : KT H1 H2) : KT H H2 := ⟨fun x xs h => b.tup x xs (a.tup x xs h), fun x o u h => b.frz x o u (a.frz x o u h)⟩
theorem KT.upd {H : Hp} {a : Addr} {o u : HO} (h : H a = some o) (ho : Mut (some o)) : KT H (upd H a u) := by
  refine ⟨fun b xs q => ?_, fun b o' u' q => ?_⟩
  · have ne : b ≠ a := by
      rintro rfl
      rcases q with q | ⟨_, q⟩ <;> (rw [h] at q; cases q; exact ho)
    rcases q with q | ⟨w, q⟩
    · exact .inl (by rw [upd_ne ne]; exact q)
    · exact .inr ⟨w, by rw [upd_ne ne]; exact q⟩
  · have ne : b ≠ a := by
      rintro rfl
      rw [h] at q; cases q; exact ho
    rw [upd_ne ne]; exact q
section
variable {K : PySem.W.Frag} {H H' : Hp}
theorem KT.sqt (k : KT H H') {a : Addr} {vs : List V} (h : SqT K H a vs) : SqT K H' a vs := by
  rcases h with h | h
  · exact .inl (k.tup _ _ h)
  · exact .inr h
mutual
theorem RepP.kt (k : KT H H') : ∀ (x : P) (v : V), RepP K H x v → RepP K H' x v
  | .non, v, h => h
  | .bl b, v, h => h
  | .int i, v, h => h
  | .str x, v, h => h
  | .fl ns, v, h => by
    obtain ⟨a, o, e, q⟩ := h
    exact ⟨a, o, e, k.frz _ _ _ q⟩
  | .tup xs, v, h => by
    obtain ⟨a, vs, e, q, r⟩ := h
    exact ⟨a, vs, e, k.sqt q, RepPs.kt k xs vs r⟩
theorem RepPs.kt (k : KT H H') : ∀ (xs : List P) (vs : List V), RepPs K H xs vs → RepPs K H' xs vs
  | [], vs, h => h
  | x :: xs, vs, h => by
    obtain ⟨v, r, e, h1, h2⟩ := h
    exact ⟨v, r, e, RepP.kt k x v h1, RepPs.kt k xs r h2⟩
end
theorem RepKs.kt {κ : Type} (k : KT H H') : ∀ (xs : List (κ × P)) (ws : List (κ × V)), RepKs K H xs ws → RepKs K H' xs ws
  | [], vs, h => h
  | (c, x) :: xs, vs, h => by
    obtain ⟨v, r, e, h1, h2⟩ := h
    exact ⟨v, r, e, RepP.kt k x v h1, RepKs.kt k xs r h2⟩
mutual
theorem RepD.kt (k : KT H H') : ∀ (x : D) (v : V) (fp : List Addr), (∀ a ∈ fp, ∀ o, H a = some o → H' a = some o) → RepD K H x v fp → RepD K H' x v fp
  | .p x, v, fp, _, h => ⟨RepP.kt k x v h.1, h.2⟩
  | .lst xs, v, fp, s, h => by
    obtain ⟨a, vs, e, q, e2, r⟩ := h
    subst e2
    exact ⟨a, vs, e, s a (by simp) _ q, rfl, RepPs.kt k xs vs r⟩
  | .ls xs, v, fp, s, h => by
    obtain ⟨a, vs, f, e, q, e2, r⟩ := h
    subst e2
    exact ⟨a, vs, f, e, s a (by simp) _ q, rfl, RepDs.kt k xs vs f (fun b hb => s b (by simp [hb])) r⟩
  | .tp xs, v, fp, s, h => by
    obtain ⟨a, vs, e, q, r⟩ := h
    exact ⟨a, vs, e, k.sqt q, RepDs.kt k xs vs fp s r⟩
  | .dic kvs, v, fp, s, h => by
    obtain ⟨a, ws, e, q, e2, r⟩ := h
    subst e2
    exact ⟨a, ws, e, s a (by simp) _ q, rfl, RepKs.kt k kvs ws r⟩
  | .dit kvs, v, fp, s, h => by
    obtain ⟨a, ws, e, q, e2, r⟩ := h
    subst e2
    exact ⟨a, ws, e, s a (by simp) _ q, rfl, RepKs.kt k kvs ws r⟩
  | .scr ns, v, fp, s, h => by
    obtain ⟨e, a, e2, q⟩ := h
    refine ⟨e, a, e2, ?_⟩
    rcases q with ⟨o, q⟩ | q
    · exact .inl ⟨o, k.frz _ _ _ q⟩
    · exact .inr q
  | .orc, v, fp, s, h => by
    obtain ⟨a, z, ns, e, e2, q1, q2⟩ := h
    subst e2
    exact ⟨a, z, ns, e, rfl, s a (by simp) _ q1, s z (by simp) _ q2⟩
theorem RepDs.kt (k : KT H H') : ∀ (xs : List D) (vs : List V) (fp : List Addr), (∀ a ∈ fp, ∀ o, H a = some o → H' a = some o) → RepDs K H xs vs fp → RepDs K H' xs vs fp
  | [], vs, fp, _, h => h
  | x :: xs, vs, fp, s, h => by
    obtain ⟨v, r, f, g, e, e2, h1, h2⟩ := h
    subst e2
    exact ⟨v, r, f, g, e, rfl, RepD.kt k x v f (fun b hb => s b (by simp [hb])) h1, RepDs.kt k xs r g (fun b hb => s b (by simp [hb])) h2⟩
end
end

/-! ### slots -/
/-- a slot: nothing known, one's own data, data lent (none: an argument's; some i: slot i's list while a loop walks it), the exception that a suite handles -/
inductive S where
  | no | own (d : D) | bor (t : Option Nat) (d : D) | exn
abbrev Sl := List S
/-- lent heaps; ex: the handled exception's address -/
def Rgs (ex : Option Addr) := Option Nat → Hp
def SlotR (K : PySem.W.Frag) {ex : Option Addr} (Rg : Rgs ex) (H : Hp) : S → Option V → List Addr → Prop
  | .no, _, fp => fp = []
  | .own d, ov, fp => ∃ v, ov = some v ∧ RepD K H d v fp
  | .bor t d, ov, fp => fp = [] ∧ ∃ v g, ov = some v ∧ RepD K H d v g ∧ ∀ a ∈ g, Rg t a ≠ none
  | .exn, ov, fp => fp = [] ∧ ∃ a, ex = some a ∧ ov = some (.ref a)
def SlotsR (K : PySem.W.Frag) {ex : Option Addr} (Rg : Rgs ex) (H : Hp) : Sl → L2.St → List Addr → Prop
  | [], σ, fp => σ = [] ∧ fp = []
  | s :: δ, σ, fp => ∃ ov r f g, σ = ov :: r ∧ fp = f ++ g ∧ SlotR K Rg H s ov f ∧ SlotsR K Rg H δ r g
structure SRel (K : PySem.W.Frag) (B : Hp) {ex : Option Addr} (Rg : Rgs ex) (σ : L2.St) (H : Hp) (δ : Sl) : Prop where
  same : Same B H
  sub : ∀ t, Same (Rg t) B
  ex : ∃ fp, SlotsR K Rg H δ σ fp ∧ fp.Nodup ∧ ∀ a ∈ fp, B a = none
section
variable {K : PySem.W.Frag} {B H H' : Hp} {ex : Option Addr} {Rg : Rgs ex}
theorem SlotR.kt (k : KT H H') (rg : ∀ t a, Rg t a ≠ none → ∀ o, H a = some o → H' a = some o) {s : S} {ov : Option V} {fp : List Addr} (st : ∀ a ∈ fp, ∀ o, H a = some o → H' a = some o) (h : SlotR K Rg H s ov fp) : SlotR K Rg H' s ov fp := by
  cases s with
  | no => exact h
  | exn => exact h
  | own d => obtain ⟨v, e, r⟩ := h; exact ⟨v, e, RepD.kt k d v fp st r⟩
  | bor t d =>
    obtain ⟨e, v, g, e1, r, q⟩ := h
    exact ⟨e, v, g, e1, RepD.kt k d v g (fun a ha o ho => rg t a (q a ha) o ho) r, q⟩
theorem SlotsR.kt (k : KT H H') (rg : ∀ t a, Rg t a ≠ none → ∀ o, H a = some o → H' a = some o) : ∀ {δ : Sl} {σ : L2.St} {fp : List Addr}, (∀ a ∈ fp, ∀ o, H a = some o → H' a = some o) → SlotsR K Rg H δ σ fp → SlotsR K Rg H' δ σ fp
  | [], _, _, _, h => h
  | s :: δ, _, _, st, h => by
    obtain ⟨ov, r, f, g, e, e2, h1, h2⟩ := h
    subst e2
    exact ⟨ov, r, f, g, e, rfl, h1.kt k rg (fun a ha => st a (by simp [ha])), SlotsR.kt k rg (fun a ha => st a (by simp [ha])) h2⟩
theorem SRel.grow {σ : L2.St} {δ : Sl} (h : SRel K B Rg σ H δ) (s : Same H H') : SRel K B Rg σ H' δ := by
  obtain ⟨b, u, fp, q, n, f⟩ := h
  exact ⟨b.trans s, u, fp, q.kt (Same.kt s) (fun _ a _ o e => s a o e) (fun a _ o e => s a o e), n, f⟩
/-- a slot's value -/
theorem SlotsR.get : ∀ {δ : Sl} {σ : L2.St} {fp : List Addr} {i : Nat} {s : S}, SlotsR K Rg H δ σ fp → δ[i]? = some s → ∃ ov f, σ[i]? = some ov ∧ SlotR K Rg H s ov f ∧ ∀ a ∈ f, a ∈ fp
  | [], _, _, _, _, _, e => by simp at e
  | s :: δ, _, _, 0, s', h, e => by
    obtain ⟨ov, r, f, g, e1, e2, h1, h2⟩ := h
    subst e1 e2
    obtain rfl : s = s' := by simpa using e
    exact ⟨ov, f, rfl, h1, fun a ha => by simp [ha]⟩
  | s :: δ, _, _, i + 1, s', h, e => by
    obtain ⟨ov, r, f, g, e1, e2, h1, h2⟩ := h
    subst e1 e2
    obtain ⟨ov', f', q1, q2, q3⟩ := SlotsR.get (i := i) h2 (by simpa using e)
    exact ⟨ov', f', by simpa using q1, q2, fun a ha => by simp [q3 a ha]⟩
theorem SlotsR.len : ∀ {δ : Sl} {σ : L2.St} {fp : List Addr}, SlotsR K Rg H δ σ fp → δ.length = σ.length
  | [], _, _, h => by obtain ⟨rfl, _⟩ := h; rfl
  | s :: δ, _, _, h => by
    obtain ⟨ov, r, f, g, e1, e2, h1, h2⟩ := h
    subst e1
    simp [SlotsR.len h2]
/-- a slot is set: its old part goes, the new one comes -/
theorem SlotsR.set {v : Option V} {s : S} {f' : List Addr} (hs : SlotR K Rg H s v f') : ∀ {δ : Sl} {σ : L2.St} {fp : List Addr} (i : Nat), i < δ.length → SlotsR K Rg H δ σ fp → fp.Nodup → f'.Nodup → (∀ a ∈ f', a ∉ fp) →
    ∃ fp', SlotsR K Rg H (δ.set i s) (σ.set i v) fp' ∧ fp'.Nodup ∧ ∀ a ∈ fp', a ∈ fp ∨ a ∈ f'
  | [], _, _, i, hi, _, _, _, _ => by simp at hi
  | s0 :: δ, _, _, 0, _, h, n, n', d => by
    obtain ⟨ov, r, f, g, e1, e2, h1, h2⟩ := h
    subst e1 e2
    refine ⟨f' ++ g, ⟨v, r, f', g, rfl, rfl, hs, h2⟩, ?_, fun a ha => ?_⟩
    · rw [List.nodup_append] at n ⊢
      exact ⟨n', n.2.1, fun a ha b hb e => d a ha (by simp [e, hb])⟩
    · rcases List.mem_append.mp ha with q | q
      · exact .inr q
      · exact .inl (by simp [q])
  | s0 :: δ, _, _, i + 1, hi, h, n, n', d => by
    obtain ⟨ov, r, f, g, e1, e2, h1, h2⟩ := h
    subst e1 e2
    rw [List.nodup_append] at n
    obtain ⟨fp', q1, q2, q3⟩ := SlotsR.set hs (δ := δ) i (by simpa using hi) h2 n.2.1 n' (fun a ha hb => d a ha (by simp [hb]))
    refine ⟨f ++ fp', ⟨ov, r.set i v, f, fp', rfl, rfl, h1, q1⟩, ?_, fun a ha => ?_⟩
    · rw [List.nodup_append]
      refine ⟨n.1, q2, fun a ha b hb e => ?_⟩
      subst e
      rcases q3 a hb with q | q
      · exact n.2.2 a ha a q rfl
      · exact d a q (by simp [ha])
    · rcases List.mem_append.mp ha with q | q
      · exact .inl (by simp [q])
      · rcases q3 a q with z | z
        · exact .inl (by simp [z])
        · exact .inr z
end

/-! ### runs: a value, an error, stuck, or a draw -/
inductive Rn (ε α : Type) where
  | ok (a : α) | err (c : Str) (e : ε) | bad | pick (n : Nat) (k : Nat → Rn ε α)
namespace Rn
variable {ε ε' α β : Type}
def bind : Rn ε α → (α → Rn ε β) → Rn ε β
  | .ok a, f => f a
  | .err c e, _ => .err c e
  | .bad, _ => .bad
  | .pick n k, f => .pick n fun i => (k i).bind f
instance : Monad (Rn ε) where
  pure := .ok
  bind := bind
def mapErr (f : ε → ε') : Rn ε α → Rn ε' α
  | .ok a => .ok a
  | .err c e => .err c (f e)
  | .bad => .bad
  | .pick n k => .pick n fun i => (k i).mapErr f
/-- what is wanted of a run -/
def wp : Rn ε α → (α → Prop) → (Str → ε → Prop) → Prop
  | .ok a, Q, _ => Q a
  | .err c e, _, E => E c e
  | .bad, _, _ => False
  | .pick n k, Q, E => ∀ i, i < n → (k i).wp Q E
theorem wp_mono {w : Rn ε α} {Q Q' : α → Prop} {E E' : Str → ε → Prop} (h : w.wp Q E) (hq : ∀ a, Q a → Q' a) (he : ∀ c e, E c e → E' c e) : w.wp Q' E' := by
  induction w with
  | ok a => exact hq a h
  | err c e => exact he c e h
  | bad => exact h
  | pick n k ih => exact fun i hi => ih i (h i hi)
theorem wp_bind {w : Rn ε α} {f : α → Rn ε β} {Q : β → Prop} {E : Str → ε → Prop} : (w.bind f).wp Q E ↔ w.wp (fun a => (f a).wp Q E) E := by
  induction w with
  | ok a => exact Iff.rfl
  | err c e => exact Iff.rfl
  | bad => exact Iff.rfl
  | pick n k ih => exact ⟨fun h i hi => (ih i).mp (h i hi), fun h i hi => (ih i).mpr (h i hi)⟩
theorem wp_mapErr {w : Rn ε α} {f : ε → ε'} {Q : α → Prop} {E : Str → ε' → Prop} : (w.mapErr f).wp Q E ↔ w.wp Q (fun c e => E c (f e)) := by
  induction w with
  | ok a => exact Iff.rfl
  | err c e => exact Iff.rfl
  | bad => exact Iff.rfl
  | pick n k ih => exact ⟨fun h i hi => (ih i).mp (h i hi), fun h i hi => (ih i).mpr (h i hi)⟩
@[simp] theorem ok_bind (a : α) (f : α → Rn ε β) : (Rn.ok a : Rn ε α).bind f = f a := rfl
@[simp] theorem err_bind (c : Str) (e : ε) (f : α → Rn ε β) : (Rn.err c e : Rn ε α).bind f = .err c e := rfl
@[simp] theorem bad_bind (f : α → Rn ε β) : (Rn.bad : Rn ε α).bind f = .bad := rfl
@[simp] theorem pick_bind (n : Nat) (k : Nat → Rn ε α) (f : α → Rn ε β) : (Rn.pick n k).bind f = .pick n fun i => (k i).bind f := rfl
end Rn

/-- what an expression gives: new and one's own, or a look at what stands -/
inductive R where
  | own (d : D) | vw (d : D)
def R.d : R → D
  | .own d => d
  | .vw d => d
/-- the value of r, made from H on -/
def RepR (K : PySem.W.Frag) (H H' : Hp) : R → V → Prop
  | .own d, v => ∃ fp, RepD K H' d v fp ∧ fp.Nodup ∧ ∀ a ∈ fp, H a = none
  | .vw d, v => ∃ fp, RepD K H' d v fp
section
variable {K : PySem.W.Frag} {H H1 H2 : Hp} {r : R} {v : V}
theorem RepR.look (h : RepR K H H1 r v) : ∃ fp, RepD K H1 r.d v fp := by
  cases r with
  | own d => obtain ⟨fp, q, _⟩ := h; exact ⟨fp, q⟩
  | vw d => exact h
theorem RepR.grow (h : RepR K H H1 r v) (s : Same H1 H2) : RepR K H H2 r v := by
  cases r with
  | own d => obtain ⟨fp, q, n, f⟩ := h; exact ⟨fp, RepD.kt (Same.kt s) d v fp (fun a _ o e => s a o e) q, n, f⟩
  | vw d => obtain ⟨fp, q⟩ := h; exact ⟨fp, RepD.kt (Same.kt s) d v fp (fun a _ o e => s a o e) q⟩
theorem RepR.back {H0 : Hp} (h : RepR K H H1 r v) (s : Same H0 H) : RepR K H0 H1 r v := by
  cases r with
  | own d => obtain ⟨fp, q, n, f⟩ := h; exact ⟨fp, q, n, fun a ha => s.free (f a ha)⟩
  | vw d => exact h
theorem RepR.plain {x : P} (h : RepP K H1 x v) : RepR K H H1 (.own (.p x)) v := ⟨[], ⟨h, rfl⟩, List.nodup_nil, fun _ z => nomatch z⟩
theorem RepR.getP {x : P} (h : RepR K H H1 r v) (e : r.d = .p x) : RepP K H1 x v := by
  obtain ⟨fp, q⟩ := h.look
  rw [e] at q
  exact q.1
end

/-! ### readings -/
/-- the context of readings: the written part, the module's names, what is wanted of errors -/
structure DC where
  K : PySem.W.Frag
  mg : Str → Option Value
  W : WX
  ex : Option Addr
abbrev GE := Sl → Rn Unit R
def tD (c : DC) (g : GE) : TE := fun σ H Q => ∃ (B : Hp) (Rg : Rgs c.ex) (δ : Sl), SRel c.K B Rg σ H δ ∧
  (g δ).wp (fun r => ∀ v H', Same H H' → RepR c.K H H' r v → Q v H') fun cl _ => ∀ C H', c.mg cl = some (.ref C) → Same H H' → c.W (.ref C) none σ H'
theorem PE.imp {X : Cx} {e : Expr} {t t' : TE} (h : PE X e t) (m : ∀ σ H Q, t' σ H Q → t σ H Q) : PE X e t' := ⟨fun pins s σ H Q I q => h.run pins s σ H Q I (m σ H Q q)⟩
theorem PT.imp {X : Cx} {e : Expr} {t t' : TT} (h : PT X e t) (m : ∀ σ H Q, t' σ H Q → t σ H Q) : PT X e t' := ⟨fun pins s σ H Q I q => h.run pins s σ H Q I (m σ H Q q)⟩
theorem PSs.imp {X : Cx} {e : List Stmt} {t t' : TS} (h : PSs X e t) (m : ∀ D σ H, t' D σ H → t D σ H) : PSs X e t' := ⟨fun pins s σ H D I q => h.run pins s σ H D I (m D σ H q)⟩
theorem PS.imp {X : Cx} {e : Stmt} {t t' : TS} (h : PS X e t) (m : ∀ D σ H, t' D σ H → t D σ H) : PS X e t' := ⟨fun pins s σ H D I q => h.run pins s σ H D I (m D σ H q)⟩

def gOp2 (f : D → D → Rn Unit R) (a b : GE) : GE := fun δ => (a δ).bind fun x => (b δ).bind fun y => f x.d y.d
def gOp1 (f : D → Rn Unit R) (a : GE) : GE := fun δ => (a δ).bind fun x => f x.d
/-- the end of a value rule: f's run gives what r asks -/
def Gives (c : DC) (w : Rn Unit R) (H : Hp) (t : VK → Prop) : Prop := ∀ Q : VK, w.wp (fun r => ∀ v H', Same H H' → RepR c.K H H' r v → Q v H') (fun _ _ => False) → t Q

theorem tD_seq {c : DC} {σ : L2.St} {B H : Hp} {Rg : Rgs c.ex} {δ : Sl} {g : GE} {α : Type} {f : R → Rn Unit α} {Q : α → Hp → Hp → Prop} (S : SRel c.K B Rg σ H δ)
    (hQ : ∀ a H1 H2, Same H H1 → Q a H H2 → Q a H1 H2)
    (h : ((g δ).bind f).wp (fun a => ∀ H', Same H H' → Q a H H') fun cl _ => ∀ C H', c.mg cl = some (.ref C) → Same H H' → c.W (.ref C) none σ H')
    {Q' : VK} (k : ∀ r v H1, Same H H1 → RepR c.K H H1 r v → SRel c.K B Rg σ H1 δ → (f r).wp (fun a => ∀ H', Same H1 H' → Q a H1 H') (fun cl _ => ∀ C H', c.mg cl = some (.ref C) → Same H1 H' → c.W (.ref C) none σ H') → Q' v H1) :
    tD c g σ H Q' := by
  refine ⟨B, Rg, δ, S, Rn.wp_mono (Rn.wp_bind.mp h) (fun r q v H1 s1 rv => k r v H1 s1 rv (S.grow s1) (Rn.wp_mono q (fun r q H' s' => hQ _ _ _ s1 (q H' (s1.trans s'))) fun cl _ q C H' e s' => q C H' e (s1.trans s'))) fun _ _ q => q⟩
end DL
/-! DLb: derivations of expressions: names, constants, operators, tests, displays, subscripts. -/
namespace DL
open PySem PySem.Spec PyProof.Rows L2

/-- the handled exception's address, in an except suite -/
def exOf (X : Cx) : Option Addr := match X.pn with
  | [] => none
  | p :: _ => if X.calm = true then none else some p.1
theorem exOf_calm {X : Cx} (h : X.calm = true) : exOf X = none := by
  unfold exOf
  split
  · rfl
  · rw [if_pos h]
abbrev dc (X : Cx) (W : WX) : DC := ⟨X.K, X.mg, W, exOf X⟩
theorem dc_calm {X : Cx} {W : WX} (h : X.calm = true) : dc X W = ⟨X.K, X.mg, W, none⟩ := by unfold dc; rw [exOf_calm h]
def DE (W : WX) (X : Cx) (e : Expr) (g : GE) : Prop := PE X e (tD (dc X W) g)
abbrev GT := Sl → Rn Unit Bool
def tDT (c : DC) (g : GT) : TT := fun σ H Q => ∃ (B : Hp) (Rg : Rgs c.ex) (δ : Sl), SRel c.K B Rg σ H δ ∧
  (g δ).wp (fun b => ∀ H', Same H H' → Q b H') fun cl _ => ∀ C H', c.mg cl = some (.ref C) → Same H H' → c.W (.ref C) none σ H'
def DT (W : WX) (X : Cx) (e : Expr) (g : GT) : Prop := PT X e (tDT (dc X W) g)
def DW (W : WX) (X : Cx) (e : Expr) (g : GT) : Prop := PW X e (tDT (dc X W) g)
def RepRs (K : PySem.W.Frag) (H' : Hp) : List R → List V → List Addr → Prop
  | [], vs, fp => vs = [] ∧ fp = []
  | .own d :: rs, vs, fp => ∃ v r f g, vs = v :: r ∧ fp = f ++ g ∧ RepD K H' d v f ∧ RepRs K H' rs r g
  | .vw d :: rs, vs, fp => ∃ v r f, vs = v :: r ∧ RepD K H' d v f ∧ RepRs K H' rs r fp
abbrev GA := Sl → Rn Unit (List R)
def RepA (K : PySem.W.Frag) (H H' : Hp) (rs : List R) (vs : List V) : Prop := ∃ fp, RepRs K H' rs vs fp ∧ fp.Nodup ∧ ∀ a ∈ fp, H a = none
def tDA (c : DC) (g : GA) : TA := fun σ H Q => ∃ (B : Hp) (Rg : Rgs c.ex) (δ : Sl), SRel c.K B Rg σ H δ ∧
  (g δ).wp (fun rs => ∀ vs H', Same H H' → RepA c.K H H' rs vs → Q vs H') fun cl _ => ∀ C H', c.mg cl = some (.ref C) → Same H H' → c.W (.ref C) none σ H'
def DA (W : WX) (X : Cx) (es : List Expr) (g : GA) : Prop := PA X es (tDA (dc X W) g)
theorem PA.imp {X : Cx} {es : List Expr} {t t' : TA} (h : PA X es t) (m : ∀ σ H Q, t' σ H Q → t σ H Q) : PA X es t' := ⟨fun pos pins s σ H Q I q => h.run pos pins s σ H Q I (m σ H Q q)⟩
theorem PW.imp {X : Cx} {e : Expr} {t t' : TT} (h : PW X e t) (m : ∀ σ H Q, t' σ H Q → t σ H Q) : PW X e t' := ⟨fun wh pins s σ H Q I q => h.run wh pins s σ H Q I (m σ H Q q)⟩

section
variable {c : DC} {σ : L2.St} {H : Hp} {Q : VK}
/-- a value at once -/
theorem tD_in {B : Hp} {Rg : Rgs c.ex} {δ : Sl} {g : GE} (S : SRel c.K B Rg σ H δ) (h : (g δ).wp (fun r => ∀ v H', Same H H' → RepR c.K H H' r v → Q v H') fun cl _ => ∀ C H', c.mg cl = some (.ref C) → Same H H' → c.W (.ref C) none σ H') : tD c g σ H Q := ⟨B, Rg, δ, S, h⟩
/-- as tD_seq, where a value is wanted -/
theorem tD_val {B : Hp} {Rg : Rgs c.ex} {δ : Sl} {g : GE} {f : R → Rn Unit R} (S : SRel c.K B Rg σ H δ)
    (h : ((g δ).bind f).wp (fun r => ∀ v H', Same H H' → RepR c.K H H' r v → Q v H') fun cl _ => ∀ C H', c.mg cl = some (.ref C) → Same H H' → c.W (.ref C) none σ H')
    {Q' : VK} (k : ∀ r v H1, Same H H1 → RepR c.K H H1 r v → SRel c.K B Rg σ H1 δ → (f r).wp (fun r => ∀ v H', Same H1 H' → RepR c.K H1 H' r v → Q v H') (fun cl _ => ∀ C H', c.mg cl = some (.ref C) → Same H1 H' → c.W (.ref C) none σ H') → Q' v H1) : tD c g σ H Q' := by
  refine tD_seq (Q := fun r H H' => ∀ v, RepR c.K H H' r v → Q v H') S (fun r H1 H2 s q v rv => q v (rv.back s)) (Rn.wp_mono h (fun r q H' s v rv => q v H' s rv) fun _ _ q => q) fun r v H1 s1 rv S1 w => k r v H1 s1 rv S1 (Rn.wp_mono w (fun r q v H' s rv => q H' s v rv) fun _ _ q => q)
theorem tD_bool {B : Hp} {Rg : Rgs c.ex} {δ : Sl} {g : GE} {f : R → Rn Unit Bool} {Qb : Bool → Hp → Prop} (S : SRel c.K B Rg σ H δ)
    (h : ((g δ).bind f).wp (fun b => ∀ H', Same H H' → Qb b H') fun cl _ => ∀ C H', c.mg cl = some (.ref C) → Same H H' → c.W (.ref C) none σ H')
    {Q' : VK} (k : ∀ r v H1, Same H H1 → RepR c.K H H1 r v → SRel c.K B Rg σ H1 δ → (f r).wp (fun b => ∀ H', Same H1 H' → Qb b H') (fun cl _ => ∀ C H', c.mg cl = some (.ref C) → Same H1 H' → c.W (.ref C) none σ H') → Q' v H1) : tD c g σ H Q' :=
  tD_seq (Q := fun b _ H' => Qb b H') S (fun _ _ _ _ q => q) h k
theorem tDT_seq {B : Hp} {Rg : Rgs c.ex} {δ : Sl} {g : GT} {α : Type} {f : Bool → Rn Unit α} {Qa : α → Hp → Hp → Prop} (S : SRel c.K B Rg σ H δ)
    (hQ : ∀ a H1 H2, Same H H1 → Qa a H H2 → Qa a H1 H2)
    (h : ((g δ).bind f).wp (fun a => ∀ H', Same H H' → Qa a H H') fun cl _ => ∀ C H', c.mg cl = some (.ref C) → Same H H' → c.W (.ref C) none σ H')
    {Q' : Bool → Hp → Prop} (k : ∀ b H1, Same H H1 → SRel c.K B Rg σ H1 δ → (f b).wp (fun a => ∀ H', Same H1 H' → Qa a H1 H') (fun cl _ => ∀ C H', c.mg cl = some (.ref C) → Same H1 H' → c.W (.ref C) none σ H') → Q' b H1) : tDT c g σ H Q' :=
  ⟨B, Rg, δ, S, Rn.wp_mono (Rn.wp_bind.mp h) (fun b q H1 s1 => k b H1 s1 (S.grow s1) (Rn.wp_mono q (fun r q H' s' => hQ r H1 H' s1 (q H' (s1.trans s'))) fun cl _ q C H' e s' => q C H' e (s1.trans s'))) fun _ _ q => q⟩
end

section
variable {W : WX} {X : Cx} {a b e : Expr} {ga gb : GE} {pos : Pos}

/-! ### names, constants -/
def gVar (i : Nat) : GE := fun δ => match δ[i]? with
  | some (.own (.p x)) => .ok (.own (.p x))
  | some (.bor _ (.p x)) => .ok (.own (.p x))
  | some (.own d) => .ok (.vw d)
  | some (.bor _ d) => .ok (.vw d)
  | _ => .bad
theorem SRel.slot {K : PySem.W.Frag} {B H : Hp} {ex : Option Addr} {Rg : Rgs ex} {σ : L2.St} {δ : Sl} {i : Nat} {s : S} {d : D} (S0 : SRel K B Rg σ H δ) (e : δ[i]? = some s) (hs : s = .own d ∨ ∃ t, s = .bor t d) : ∃ v g, σ[i]? = some (some v) ∧ RepD K H d v g := by
  obtain ⟨_, _, fp, q, _, _⟩ := S0
  obtain ⟨ov, f, e1, r, _⟩ := q.get e
  rcases hs with rfl | ⟨t, rfl⟩
  · obtain ⟨v, rfl, r⟩ := r
    exact ⟨v, f, e1, r⟩
  · obtain ⟨_, v, g, rfl, r, _⟩ := r
    exact ⟨v, g, e1, r⟩
theorem gVar_cases {i : Nat} {δ : Sl} {Q : R → Prop} {E : Str → Unit → Prop} (h : (gVar i δ).wp Q E) : ∃ s d, δ[i]? = some s ∧ (s = .own d ∨ ∃ t, s = .bor t d) ∧ ((∃ x, d = .p x ∧ Q (.own d)) ∨ Q (.vw d)) := by
  unfold gVar at h
  split at h
  · rename_i x e; exact ⟨_, _, e, .inl rfl, .inl ⟨x, rfl, h⟩⟩
  · rename_i t x e; exact ⟨_, _, e, .inr ⟨t, rfl⟩, .inl ⟨x, rfl, h⟩⟩
  · rename_i d _ e; exact ⟨_, _, e, .inl rfl, .inr h⟩
  · rename_i t d _ e; exact ⟨_, _, e, .inr ⟨t, rfl⟩, .inr h⟩
  · exact h.elim
theorem de_var {i : Nat} {x : Str} (hN : X.N[i]? = some x) (hv : Vis X.env.scope x) (hd : (x == ("__debug__" : Str)) = false := by decide) (hcd : (x == ("__classdict__" : Str)) = false := by decide) : DE W X (.Name x pos) (gVar i) := by
  refine PE.imp (pe_var hN hv hd hcd) fun σ H Q ⟨B, Rg, δ, S0, h⟩ => ?_
  obtain ⟨s, d, e, hs, h⟩ := gVar_cases h
  obtain ⟨v, g, e1, r⟩ := S0.slot e hs
  refine ⟨v, e1, ?_⟩
  rcases h with ⟨x, rfl, h⟩ | h
  · exact h v H (Same.refl H) (RepR.plain r.1)
  · exact h v H (Same.refl H) ⟨g, r⟩
def gC (x : P) : GE := fun _ => .ok (.own (.p x))
theorem de_of {t : TE} {x : P} {v : V} (h : PE X e (tC v)) (r : ∀ H, RepP X.K H x v) : DE W X e (gC x) :=
  PE.imp h fun σ H Q ⟨B, Rg, δ, S0, h⟩ => h v H (Same.refl H) (RepR.plain (r H))
theorem de_int {i j} : DE W X (.Constant (.int i) j pos) (gC (.int i)) := de_of (t := tC (.int i)) pe_int fun _ => rfl
theorem de_bl {b j} : DE W X (.Constant (.bool b) j pos) (gC (.bl b)) := de_of (t := tC (.bl b)) pe_bl fun _ => rfl
theorem de_non {j} : DE W X (.Constant .none j pos) (gC .non) := de_of (t := tC .non) pe_non fun _ => rfl
theorem de_str {x j} : DE W X (.Constant (.str x) j pos) (gC (.str x)) := de_of (t := tC (.str x)) pe_str fun _ => rfl
/-- a module's constant -/
def GC (K : PySem.W.Frag) (mg : Str → Option Value) (x : Str) (p : P) : Prop := ∃ u v, mg x = some u ∧ RelV v u ∧ ∀ H, RepP K H p v
theorem de_glob {x : Str} {p : P} (g : GC X.K X.mg x p) (hg : Gl X x := by rfl) (hd : (x == ("__debug__" : Str)) = false := by decide) : DE W X (.Name x pos) (gC p) := by
  obtain ⟨u, v, e, r, q⟩ := g
  exact de_of (t := tC v) (pe_glob hg e r hd) q

/-! ### operators -/
def OpG (K : PySem.W.Frag) (r : R2) (f : D → D → Rn Unit R) : Prop := ∀ (H : Hp) (x y : D) (v u : V) (fx fy : List Addr) (Q : VK) (E : Str → Unit → Prop), RepD K H x v fx → RepD K H y u fy →
  (f x y).wp (fun r => ∀ v H', Same H H' → RepR K H H' r v → Q v H') E → r v u H Q
theorem op2_of {r : R2} {f : D → D → Rn Unit R} (hf : OpG X.K r f) (σ : L2.St) (H : Hp) (Q : VK) (h : tD (dc X W) (gOp2 f ga gb) σ H Q) : tOp r (tD (dc X W) ga) (tD (dc X W) gb) σ H Q := by
  obtain ⟨B, Rg, δ, S0, w⟩ := h
  refine tD_val S0 w fun r1 v1 H1 s1 rv1 S1 w1 => ?_
  refine tD_val S1 w1 fun r2 v2 H2 s2 rv2 S2 w2 => ?_
  obtain ⟨f1, q1⟩ := (rv1.grow s2).look
  obtain ⟨f2, q2⟩ := rv2.look
  exact hf H2 r1.d r2.d v1 v2 f1 f2 Q _ q1 q2 w2
theorem de_op2 {op : Operator} {r : R2} {f : D → D → Rn Unit R} (ho : OpR X (binaryOp op) r) (hf : OpG X.K r f) (ha : DE W X a ga) (hb : DE W X b gb) : DE W X (.BinOp a op b pos) (gOp2 f ga gb) :=
  PE.imp (pe_op ho ha hb) (op2_of hf)
theorem OpG.or {K : PySem.W.Frag} {r r' : R2} {f : D → D → Rn Unit R} (h : ∀ (H : Hp) (x y : D) (v u : V) (fx fy : List Addr) (Q : VK) (E : Str → Unit → Prop), RepD K H x v fx → RepD K H y u fy →
  (f x y).wp (fun r => ∀ v H', Same H H' → RepR K H H' r v → Q v H') E → r v u H Q ∨ r' v u H Q) : OpG K (fun x y H Q => r x y H Q ∨ r' x y H Q) f := h
/-- ints -/
def fInt (g : Int → Int → P) : D → D → Rn Unit R
  | .p (.int i), .p (.int j) => .ok (.own (.p (g i j)))
  | _, _ => .bad
def iSub : D → D → Rn Unit R := fInt fun i j => .int (i - j)
theorem fInt_cases {g : Int → Int → P} {x y : D} {Q : R → Prop} {E : Str → Unit → Prop} (h : (fInt g x y).wp Q E) : ∃ i j, x = .p (.int i) ∧ y = .p (.int j) ∧ Q (.own (.p (g i j))) := by
  unfold fInt at h
  split at h
  · exact ⟨_, _, rfl, rfl, h⟩
  · exact h.elim
theorem RepP.up {K : PySem.W.Frag} {H : Hp} {x : P} {v : V} {Q : VK} (h : ∀ v H', Same H H' → RepR K H H' (.own (.p x)) v → Q v H') (r : RepP K H x v) : Q v H := h v H (Same.refl H) (RepR.plain r)
theorem og_sub {K : PySem.W.Frag} : OpG K (rI0 fun i j => .int (i - j)) iSub := by
  intro H x y v u fx fy Q E rx ry h
  obtain ⟨i, j, rfl, rfl, q⟩ := fInt_cases h
  obtain rfl : v = .int i := rx.1
  obtain rfl : u = .int j := ry.1
  exact ⟨i, j, rfl, rfl, RepP.up q rfl⟩
theorem de_sub (ha : DE W X a ga) (hb : DE W X b gb) : DE W X (.BinOp a .Sub b pos) (gOp2 iSub ga gb) := de_op2 op_sub og_sub ha hb

/-- a new object -/
theorem RepD.up {K : PySem.W.Frag} {H : Hp} {d : D} {o : HO} {Q : VK} {p : Addr} (hp : H p = none) (h : ∀ v H', Same H H' → RepR K H H' (.own d) v → Q v H') (r : ∃ fp, RepD K (upd H p o) d (.ref p) fp ∧ fp.Nodup ∧ ∀ a ∈ fp, H a = none) : Q (.ref p) (upd H p o) :=
  h _ _ (fun b u e => by rw [upd_ne (ne_of_none e hp)]; exact e) r
theorem Same.new {H : Hp} {p : Addr} {o : HO} (hp : H p = none) : Same H (upd H p o) := fun b u e => by rw [upd_ne (ne_of_none e hp)]; exact e
theorem RepPs.len {K : PySem.W.Frag} {H : Hp} : ∀ {xs : List P} {vs : List V}, RepPs K H xs vs → vs.length = xs.length
  | [], vs, h => by
    obtain rfl : vs = [] := h
    rfl
  | x :: xs, vs, h => by
    obtain ⟨v, r, rfl, _, h2⟩ := h
    simp [RepPs.len h2]
theorem RepPs.append {K : PySem.W.Frag} {H : Hp} {ys : List P} {us : List V} (hy : RepPs K H ys us) : ∀ {xs : List P} {vs : List V}, RepPs K H xs vs → RepPs K H (xs ++ ys) (vs ++ us)
  | [], vs, h => by
    obtain rfl : vs = [] := h
    exact hy
  | x :: xs, vs, h => by
    obtain ⟨v, r, rfl, h1, h2⟩ := h
    exact ⟨v, r ++ us, rfl, h1, RepPs.append hy h2⟩
theorem RepPs.get {K : PySem.W.Frag} {H : Hp} : ∀ {xs : List P} {vs : List V} {i : Nat} {x : P}, RepPs K H xs vs → xs[i]? = some x → ∃ v, vs[i]? = some v ∧ RepP K H x v
  | [], _, i, _, _, e => by simp at e
  | x :: xs, vs, 0, y, h, e => by
    obtain ⟨v, r, rfl, h1, h2⟩ := h
    obtain rfl : x = y := by simpa using e
    exact ⟨v, rfl, h1⟩
  | x :: xs, vs, i + 1, y, h, e => by
    obtain ⟨v, r, rfl, h1, h2⟩ := h
    obtain ⟨u, q1, q2⟩ := RepPs.get (i := i) h2 (by simpa using e)
    exact ⟨u, by simpa using q1, q2⟩
theorem RepPs.drop {K : PySem.W.Frag} {H : Hp} : ∀ {xs : List P} {vs : List V} (n : Nat), RepPs K H xs vs → RepPs K H (xs.drop n) (vs.drop n)
  | _, _, 0, h => h
  | [], vs, n + 1, h => by
    obtain rfl : vs = [] := h
    exact rfl
  | x :: xs, vs, n + 1, h => by
    obtain ⟨v, r, rfl, _, h2⟩ := h
    exact RepPs.drop n h2
theorem RepPs.take {K : PySem.W.Frag} {H : Hp} : ∀ {xs : List P} {vs : List V} (n : Nat), RepPs K H xs vs → RepPs K H (xs.take n) (vs.take n)
  | _, _, 0, _ => rfl
  | [], vs, n + 1, h => by
    obtain rfl : vs = [] := h
    exact rfl
  | x :: xs, vs, n + 1, h => by
    obtain ⟨v, r, rfl, h1, h2⟩ := h
    exact ⟨v, _, rfl, h1, RepPs.take n h2⟩
theorem RepPs.int {K : PySem.W.Frag} {H : Hp} : ∀ {ns : List Int} {vs : List V}, RepPs K H (ns.map P.int) vs → vs = ns.map V.int
  | [], _, h => h
  | n :: ns, _, h => by
    obtain ⟨v, r, rfl, h1, h2⟩ := h
    obtain rfl : v = .int n := h1
    rw [RepPs.int h2]
    rfl
theorem RepPs.ofInt {K : PySem.W.Frag} {H : Hp} : ∀ (ns : List Int), RepPs K H (ns.map P.int) (ns.map V.int)
  | [] => rfl
  | n :: ns => ⟨_, _, rfl, rfl, RepPs.ofInt ns⟩
theorem RepPs.str {K : PySem.W.Frag} {H : Hp} : ∀ {ns : List Str} {vs : List V}, RepPs K H (ns.map P.str) vs → vs = ns.map V.str
  | [], _, h => h
  | n :: ns, _, h => by
    obtain ⟨v, r, rfl, h1, h2⟩ := h
    obtain rfl : v = .str n := h1
    rw [RepPs.str h2]
    rfl
theorem RepPs.ofStr {K : PySem.W.Frag} {H : Hp} : ∀ (ns : List Str), RepPs K H (ns.map P.str) (ns.map V.str)
  | [] => rfl
  | n :: ns => ⟨_, _, rfl, rfl, RepPs.ofStr ns⟩
theorem RepPs.bl {K : PySem.W.Frag} {H : Hp} : ∀ {ns : List Bool} {vs : List V}, RepPs K H (ns.map P.bl) vs → vs = ns.map V.bl
  | [], _, h => h
  | n :: ns, _, h => by
    obtain ⟨v, r, rfl, h1, h2⟩ := h
    obtain rfl : v = .bl n := h1
    rw [RepPs.bl h2]
    rfl

/-- + of ints, texts, tuples, lists -/
def fAdd : D → D → Rn Unit R
  | .p (.int i), .p (.int j) => .ok (.own (.p (.int (i + j))))
  | .p (.str i), .p (.str j) => if i.length + j.length ≤ sizeLine then .ok (.own (.p (.str (i ++ j)))) else .bad
  | .p (.tup xs), .p (.tup ys) => if xs.length + ys.length ≤ sizeLine then .ok (.own (.p (.tup (xs ++ ys)))) else .bad
  | .lst xs, .lst ys => if xs.length + ys.length ≤ sizeLine then .ok (.own (.lst (xs ++ ys))) else .bad
  | _, _ => .bad
def rAddA (K : PySem.W.Frag) : R2 := fun x y H Q => (rI0 (fun i j => .int (i + j)) x y H Q) ∨ (∃ i j, x = .str i ∧ y = .str j ∧ i.length + j.length ≤ sizeLine ∧ Q (.str (i ++ j)) H) ∨ rCatA K x y H Q ∨ rCat x y H Q
theorem op_addA : OpR X (binaryOp .Add) (rAddA X.K) := op_add.or (op_add_str.or (op_catA.or op_cat))
theorem og_add {K : PySem.W.Frag} : OpG K (rAddA K) fAdd := by
  intro H x y v u fx fy Q E rx ry h
  unfold fAdd at h
  split at h
  · rename_i i j
    obtain rfl : v = .int i := rx.1
    obtain rfl : u = .int j := ry.1
    exact .inl ⟨i, j, rfl, rfl, RepP.up h rfl⟩
  · rename_i i j
    obtain rfl : v = .str i := rx.1
    obtain rfl : u = .str j := ry.1
    split at h
    · rename_i hz
      exact .inr (.inl ⟨i, j, rfl, rfl, hz, RepP.up h rfl⟩)
    · exact h.elim
  · rename_i xs ys
    split at h
    · rename_i hz
      obtain ⟨⟨a, vs, rfl, qa, ra⟩, _⟩ := rx
      obtain ⟨⟨b, us, rfl, qb, rb⟩, _⟩ := ry
      refine .inr (.inr (.inl ⟨a, b, vs, us, rfl, rfl, qa, qb, by rw [ra.len, rb.len]; exact hz, fun z => ?_, fun _ z => ?_, fun _ _ p hp => ?_⟩))
      · subst z
        cases xs with
        | nil => exact RepP.up h ⟨b, us, rfl, qb, rb⟩
        | cons x xs => obtain ⟨_, _, z, _⟩ := ra; cases z
      · subst z
        cases ys with
        | nil => rw [List.append_nil] at h; exact RepP.up h ⟨a, vs, rfl, qa, ra⟩
        | cons x xs => obtain ⟨_, _, z, _⟩ := rb; cases z
      · refine RepD.up hp h ⟨[], ⟨⟨p, vs ++ us, rfl, .inl (.inl upd_same), ?_⟩, rfl⟩, List.nodup_nil, fun _ z => nomatch z⟩
        exact RepPs.kt (Same.kt (Same.new hp)) _ _ (rb.append ra)
    · exact h.elim
  · rename_i xs ys
    split at h
    · rename_i hz
      obtain ⟨a, vs, rfl, qa, _, ra⟩ := rx
      obtain ⟨b, us, rfl, qb, _, rb⟩ := ry
      refine .inr (.inr (.inr ⟨a, b, vs, us, rfl, rfl, qa, qb, by rw [ra.len, rb.len]; exact hz, fun p hp => ?_⟩))
      refine RepD.up hp h ⟨[p], ⟨p, vs ++ us, rfl, upd_same, rfl, RepPs.kt (Same.kt (Same.new hp)) _ _ (rb.append ra)⟩, by simp, fun b hb => by
        obtain rfl : b = p := by simpa using hb
        exact hp⟩
    · exact h.elim
  · exact h.elim
theorem de_add (ha : DE W X a ga) (hb : DE W X b gb) : DE W X (.BinOp a .Add b pos) (gOp2 fAdd ga gb) := de_op2 op_addA og_add ha hb

/-- ints under a condition -/
def fIntC (C : Int → Int → Prop) [∀ i j, Decidable (C i j)] (g : Int → Int → Int) : D → D → Rn Unit R
  | .p (.int i), .p (.int j) => if C i j then .ok (.own (.p (.int (g i j)))) else .bad
  | _, _ => .bad
theorem og_intC {K : PySem.W.Frag} {C : Int → Int → Prop} [∀ i j, Decidable (C i j)] {g : Int → Int → Int} : OpG K (rI C fun i j => .int (g i j)) (fIntC C g) := by
  intro H x y v u fx fy Q E rx ry h
  unfold fIntC at h
  split at h
  · rename_i i j
    split at h
    · rename_i hc
      obtain rfl : v = .int i := rx.1
      obtain rfl : u = .int j := ry.1
      exact ⟨i, j, rfl, rfl, hc, RepP.up h rfl⟩
    · exact h.elim
  · exact h.elim
instance : ∀ i j, Decidable (CMulW i j) := fun i j => by unfold CMulW; infer_instance
instance : ∀ i j, Decidable (CDivW i j) := fun i j => by unfold CDivW; infer_instance
instance : ∀ i j, Decidable (CDivN i j) := fun i j => by unfold CDivN; infer_instance
instance : ∀ i j, Decidable (CPow i j) := fun i j => by unfold CPow; infer_instance
instance : ∀ i j, Decidable (CShl i j) := fun i j => by unfold CShl; infer_instance
/-- * of ints; of a list or text by an int comes later -/
def fMul : D → D → Rn Unit R
  | .lst xs, .p (.int k) => if -(2 ^ 63) ≤ k ∧ k < 2 ^ 63 ∧ xs.length * k.toNat ≤ sizeLine then .ok (.own (.lst (List.replicate k.toNat xs).flatten)) else .bad
  | x, y => fIntC CMulW (fun i j => i * j) x y
theorem RepPs.rep {K : PySem.W.Frag} {H : Hp} {xs : List P} {vs : List V} (h : RepPs K H xs vs) : ∀ n : Nat, RepPs K H (List.replicate n xs).flatten (List.replicate n vs).flatten
  | 0 => rfl
  | n + 1 => by
    rw [List.replicate_succ, List.replicate_succ, List.flatten_cons, List.flatten_cons]
    exact RepPs.append (RepPs.rep h n) h
theorem op_mulA : OpR X (binaryOp .Mult) (fun x y H Q => rRep x y H Q ∨ rI CMulW (fun i j => .int (i * j)) x y H Q) := op_rep.or op_mulW
theorem og_mul {K : PySem.W.Frag} : OpG K (fun x y H Q => rRep x y H Q ∨ rI CMulW (fun i j => .int (i * j)) x y H Q) fMul := by
  intro H x y v u fx fy Q E rx ry h
  unfold fMul at h
  split at h
  · rename_i xs k
    split at h
    · rename_i hz
      obtain ⟨a, vs, rfl, qa, _, ra⟩ := rx
      obtain rfl : u = .int k := ry.1
      refine .inl ⟨a, k, vs, rfl, rfl, qa, hz.1, hz.2.1, by rw [ra.len]; exact hz.2.2, fun p hp => ?_⟩
      refine RepD.up hp h ⟨[p], ⟨p, _, rfl, upd_same, rfl, RepPs.kt (Same.kt (Same.new hp)) _ _ (ra.rep k.toNat)⟩, by simp, fun b hb => by
        obtain rfl : b = p := by simpa using hb
        exact hp⟩
    · exact h.elim
  · exact .inr (og_intC H x y v u fx fy Q E rx ry h)
theorem de_mul (ha : DE W X a ga) (hb : DE W X b gb) : DE W X (.BinOp a .Mult b pos) (gOp2 fMul ga gb) := de_op2 op_mulA og_mul ha hb
/-- // -/
def fDiv : D → D → Rn Unit R
  | .p (.int i), .p (.int j) => if CDivW i j then .ok (.own (.p (.int (i / j)))) else if CDivN i j then .ok (.own (.p (.int (i.fdiv j)))) else .bad
  | _, _ => .bad
theorem op_divA : OpR X (binaryOp .FloorDiv) (fun x y H Q => rI CDivW (fun i j => .int (i / j)) x y H Q ∨ rI CDivN (fun i j => .int (i.fdiv j)) x y H Q) := op_fdivW.or op_fdivN
theorem og_div {K : PySem.W.Frag} : OpG K (fun x y H Q => rI CDivW (fun i j => .int (i / j)) x y H Q ∨ rI CDivN (fun i j => .int (i.fdiv j)) x y H Q) fDiv := by
  intro H x y v u fx fy Q E rx ry h
  unfold fDiv at h
  split at h
  · rename_i i j
    obtain rfl : v = .int i := rx.1
    obtain rfl : u = .int j := ry.1
    split at h
    · rename_i hc
      exact .inl ⟨i, j, rfl, rfl, hc, RepP.up h rfl⟩
    · split at h
      · rename_i hc
        exact .inr ⟨i, j, rfl, rfl, hc, RepP.up h rfl⟩
      · exact h.elim
  · exact h.elim
theorem de_div (ha : DE W X a ga) (hb : DE W X b gb) : DE W X (.BinOp a .FloorDiv b pos) (gOp2 fDiv ga gb) := de_op2 op_divA og_div ha hb
def fMod : D → D → Rn Unit R
  | .p (.int i), .p (.int j) => if 0 < j then .ok (.own (.p (.int (i % j)))) else if j ≠ 0 then .ok (.own (.p (.int (i.fmod j)))) else .bad
  | _, _ => .bad
theorem op_modA : OpR X (binaryOp .Mod) (fun x y H Q => rI (fun _ j => 0 < j) (fun i j => .int (i % j)) x y H Q ∨ rI (fun _ j => j ≠ 0) (fun i j => .int (i.fmod j)) x y H Q) := op_mod.or op_modN
theorem og_mod {K : PySem.W.Frag} : OpG K (fun x y H Q => rI (fun _ j => 0 < j) (fun i j => .int (i % j)) x y H Q ∨ rI (fun _ j => j ≠ 0) (fun i j => .int (i.fmod j)) x y H Q) fMod := by
  intro H x y v u fx fy Q E rx ry h
  unfold fMod at h
  split at h
  · rename_i i j
    obtain rfl : v = .int i := rx.1
    obtain rfl : u = .int j := ry.1
    split at h
    · rename_i hc
      exact .inl ⟨i, j, rfl, rfl, hc, RepP.up h rfl⟩
    · split at h
      · rename_i hc
        exact .inr ⟨i, j, rfl, rfl, hc, RepP.up h rfl⟩
      · exact h.elim
  · exact h.elim
theorem de_mod (ha : DE W X a ga) (hb : DE W X b gb) : DE W X (.BinOp a .Mod b pos) (gOp2 fMod ga gb) := de_op2 op_modA og_mod ha hb
theorem de_pow (ha : DE W X a ga) (hb : DE W X b gb) : DE W X (.BinOp a .Pow b pos) (gOp2 (fIntC CPow fun i j => i ^ j.toNat) ga gb) := de_op2 op_pow og_intC ha hb
theorem de_shl (ha : DE W X a ga) (hb : DE W X b gb) : DE W X (.BinOp a .LShift b pos) (gOp2 (fIntC CShl fun i j => i * 2 ^ j.toNat) ga gb) := de_op2 op_shlW og_intC ha hb
theorem de_shr (ha : DE W X a ga) (hb : DE W X b gb) : DE W X (.BinOp a .RShift b pos) (gOp2 (fIntC (fun _ j => 0 ≤ j) fun i j => i / 2 ^ j.toNat) ga gb) := de_op2 op_shr og_intC ha hb
def fNeg : D → Rn Unit R
  | .p (.int i) => .ok (.own (.p (.int (-i))))
  | _ => .bad
theorem de_neg (ha : DE W X a ga) : DE W X (.UnaryOp .USub a pos) (gOp1 fNeg ga) := by
  refine PE.imp (pe_un un_neg ha) fun σ H Q ⟨B, Rg, δ, S0, w⟩ => ?_
  refine tD_val S0 w fun r1 v1 H1 s1 rv1 S1 w1 => ?_
  unfold fNeg at w1
  split at w1
  · rename_i i e
    obtain rfl : v1 = .int i := rv1.getP e
    exact ⟨i, rfl, RepP.up w1 rfl⟩
  · exact w1.elim
end
end DL
/-! DLc: derivations of tests, displays, subscripts, slices, arguments. -/
namespace DL
open PySem PySem.Spec PyProof.Rows L2

/-! ### equality of data -/
mutual
def P.py : P → PyData
  | .non => .none
  | .bl b => .bool b
  | .int i => .int i
  | .str x => .str x
  | .fl ns => .list (ns.map PyData.int)
  | .tup xs => .tuple (P.pys xs)
def P.pys : List P → List PyData
  | [] => []
  | x :: xs => x.py :: P.pys xs
end
section
variable {K : PySem.W.Frag} {H : Hp}
theorem dp_ints : ∀ ns : List Int, DpAll K H (ns.map V.int) (ns.map PyData.int)
  | [] => .nil
  | n :: ns => .cons (.int n) (dp_ints ns)
mutual
theorem RepP.dp : ∀ (x : P) (v : V), RepP K H x v → Dp K H v x.py
  | .non, v, h => by
    obtain rfl : v = .non := h
    exact .non
  | .bl b, v, h => by
    obtain rfl : v = .bl b := h
    exact .bl b
  | .int i, v, h => by
    obtain rfl : v = .int i := h
    exact .int i
  | .str x, v, h => by
    obtain rfl : v = .str x := h
    exact .str x
  | .fl ns, v, h => by
    obtain ⟨a, o, rfl, q⟩ := h
    exact .lst (.inl (.inr ⟨o, q⟩)) (dp_ints ns)
  | .tup xs, v, h => by
    obtain ⟨a, vs, rfl, q, r⟩ := h
    exact .tup q (RepPs.dp xs vs r)
theorem RepPs.dp : ∀ (xs : List P) (vs : List V), RepPs K H xs vs → DpAll K H vs (P.pys xs)
  | [], vs, h => by
    obtain rfl : vs = [] := h
    exact .nil
  | x :: xs, vs, h => by
    obtain ⟨v, r, rfl, h1, h2⟩ := h
    exact .cons (RepP.dp x v h1) (RepPs.dp xs r h2)
end
end
/-- what may be compared by == -/
def D.py? : D → Option PyData
  | .p x => some x.py
  | .lst xs => some (.list (P.pys xs))
  | _ => none
def P.scal : P → P → Bool
  | .non, .non => true
  | .non, .int _ => true
  | .int _, .non => true
  | .non, .bl _ => true
  | .bl _, .non => true
  | .non, .str _ => true
  | .str _, .non => true
  | .int _, .int _ => true
  | .bl _, .bl _ => true
  | .str _, .str _ => true
  | .int _, .str _ => true
  | .str _, .int _ => true
  | .bl _, .str _ => true
  | .str _, .bl _ => true
  | _, _ => false
def P.seq : P → P → Bool
  | .non, .non => true
  | .int i, .int j => decide (i = j)
  | .bl a, .bl b => decide (a = b)
  | .str a, .str b => decide (a = b)
  | _, _ => false
def fEqB (neg : Bool) (x y : D) : Rn Unit Bool :=
  match x, y with
  | .p a, .p b => if P.scal a b = true then .ok (if neg then !P.seq a b else P.seq a b)
    else if SeqAt.shaped a.py = true ∧ SeqAt.shaped b.py = true then .ok (if neg then !PyData.eqv a.py b.py else PyData.eqv a.py b.py) else .bad
  | x, y => match x.py?, y.py? with
    | some a, some b => if SeqAt.shaped a = true ∧ SeqAt.shaped b = true then .ok (if neg then !PyData.eqv a b else PyData.eqv a b) else .bad
    | _, _ => .bad
def fB (f : D → D → Rn Unit Bool) (x y : D) : Rn Unit R := (f x y).bind fun b => .ok (.own (.p (.bl b)))
section
variable {K : PySem.W.Frag} {H : Hp}
theorem D.py_dp {x : D} {v : V} {fp : List Addr} {d : PyData} (r : RepD K H x v fp) (e : x.py? = some d) : Dp K H v d := by
  cases x with
  | p x =>
    obtain rfl : x.py = d := by simpa [D.py?] using e
    exact RepP.dp x v r.1
  | lst xs =>
    obtain rfl : PyData.list (P.pys xs) = d := by simpa [D.py?] using e
    obtain ⟨a, vs, rfl, q, _, r⟩ := r
    exact .lst (SqL.of q) (RepPs.dp xs vs r)
  | _ => cases e
theorem scal_ok {a b : P} {v u : V} (ra : RepP K H a v) (rb : RepP K H b u) (h : P.scal a b = true) : L2.scal v u = true ∧ decide (v = u) = P.seq a b := by
  cases a <;> cases b <;> first
    | (exfalso; revert h; simp [P.scal]; done)
    | (obtain rfl := (ra : v = _); obtain rfl := (rb : u = _); exact ⟨rfl, by simp [P.seq]⟩)
end
def rEqA (K : PySem.W.Frag) : R2 := fun x y H Q => rEq x y H Q ∨ rEqD K x y H Q
def rNeA (K : PySem.W.Frag) : R2 := fun x y H Q => rNe x y H Q ∨ rNeD K x y H Q
section
variable {K : PySem.W.Frag}
theorem og_eqx (neg : Bool) : OpG K (if neg then rNeA K else rEqA K) (fB (fEqB neg)) := by
  intro H x y v u fx fy Q E rx ry h
  have h' := Rn.wp_bind.mp h
  unfold fEqB at h'
  have dd : ∀ {a b : PyData}, x.py? = some a → y.py? = some b → (if SeqAt.shaped a = true ∧ SeqAt.shaped b = true then Rn.ok (if neg then !PyData.eqv a b else PyData.eqv a b) else Rn.bad : Rn Unit Bool).wp (fun b => ((Rn.ok (R.own (D.p (.bl b))) : Rn Unit R)).wp (fun r => ∀ v H', Same H H' → RepR K H H' r v → Q v H') E) E →
      (if neg then rNeA K else rEqA K) v u H Q := by
    intro a b ea eb q
    split at q
    · rename_i hs
      cases neg with
      | true => exact .inr ⟨a, b, D.py_dp rx ea, D.py_dp ry eb, hs.1, hs.2, RepP.up q rfl⟩
      | false => exact .inr ⟨a, b, D.py_dp rx ea, D.py_dp ry eb, hs.1, hs.2, RepP.up q rfl⟩
    · exact q.elim
  split at h'
  · rename_i a b
    split at h'
    · rename_i hs
      obtain ⟨z1, z2⟩ := scal_ok rx.1 ry.1 hs
      cases neg with
      | true => exact .inl ⟨z1, by rw [z2]; exact RepP.up h' rfl⟩
      | false => exact .inl ⟨z1, by rw [z2]; exact RepP.up h' rfl⟩
    · exact dd rfl rfl h'
  · split at h'
    · rename_i a b ea eb
      exact dd ea eb h'
    · exact h'.elim
theorem og_eq : OpG K (rEqA K) (fB (fEqB false)) := og_eqx (K := K) false
theorem og_ne : OpG K (rNeA K) (fB (fEqB true)) := og_eqx (K := K) true
/-- < and its kin of ints -/
def fIntB (g : Int → Int → Bool) : D → D → Rn Unit Bool
  | .p (.int i), .p (.int j) => .ok (g i j)
  | _, _ => .bad
theorem og_intB {g : Int → Int → Bool} : OpG K (rI0 fun i j => .bl (g i j)) (fB (fIntB g)) := by
  intro H x y v u fx fy Q E rx ry h
  have h' := Rn.wp_bind.mp h
  unfold fIntB at h'
  split at h'
  · rename_i i j
    obtain rfl : v = .int i := rx.1
    obtain rfl : u = .int j := ry.1
    exact ⟨i, j, rfl, rfl, RepP.up h' rfl⟩
  · exact h'.elim
abbrev fLt := fIntB fun i j => decide (i < j)
abbrev fLe := fIntB fun i j => decide (i ≤ j)
abbrev fGt := fIntB fun i j => decide (j < i)
abbrev fGe := fIntB fun i j => decide (j ≤ i)
/-- is None -/
def fIsN (neg : Bool) : D → D → Rn Unit Bool
  | x, .p .non => match x with
    | .p .non => .ok (!neg)
    | _ => .ok neg
  | _, _ => .bad
theorem RepD.notN {H : Hp} {x : D} {v : V} {fp : List Addr} (r : RepD K H x v fp) (h : x ≠ .p .non) : v ≠ .non := by
  cases x with
  | p x =>
    cases x with
    | non => exact absurd rfl h
    | bl b => obtain rfl : v = .bl b := r.1; exact fun z => nomatch z
    | int b => obtain rfl : v = .int b := r.1; exact fun z => nomatch z
    | str b => obtain rfl : v = .str b := r.1; exact fun z => nomatch z
    | tup b => obtain ⟨⟨a, _, rfl, _⟩, _⟩ := r; exact fun z => nomatch z
    | fl b => obtain ⟨⟨a, _, rfl, _⟩, _⟩ := r; exact fun z => nomatch z
  | lst xs => obtain ⟨a, _, rfl, _⟩ := r; exact fun z => nomatch z
  | ls xs => obtain ⟨a, _, _, rfl, _⟩ := r; exact fun z => nomatch z
  | tp xs => obtain ⟨a, _, rfl, _⟩ := r; exact fun z => nomatch z
  | dic xs => obtain ⟨a, _, rfl, _⟩ := r; exact fun z => nomatch z
  | dit xs => obtain ⟨a, _, rfl, _⟩ := r; exact fun z => nomatch z
  | orc => obtain ⟨a, _, _, rfl, _⟩ := r; exact fun z => nomatch z
  | scr ns => obtain ⟨_, a, rfl, _⟩ := r; exact fun z => nomatch z
theorem og_isN : OpG K (fun x y H Q => y = .non ∧ Q (.bl (decide (x = .non))) H) (fB (fIsN false)) := by
  intro H x y v u fx fy Q E rx ry h
  have h' := Rn.wp_bind.mp h
  unfold fIsN at h'
  split at h'
  · obtain rfl : u = .non := ry.1
    refine ⟨rfl, ?_⟩
    split at h'
    · obtain rfl : v = .non := rx.1
      exact RepP.up h' rfl
    · rename_i hn
      rw [decide_eq_false (rx.notN hn)]
      exact RepP.up h' rfl
  · exact h'.elim
theorem og_notN : OpG K (fun x y H Q => y = .non ∧ Q (.bl (!decide (x = .non))) H) (fB (fIsN true)) := by
  intro H x y v u fx fy Q E rx ry h
  have h' := Rn.wp_bind.mp h
  unfold fIsN at h'
  split at h'
  · obtain rfl : u = .non := ry.1
    refine ⟨rfl, ?_⟩
    split at h'
    · obtain rfl : v = .non := rx.1
      exact RepP.up h' rfl
    · rename_i hn
      rw [decide_eq_false (rx.notN hn)]
      exact RepP.up h' rfl
  · exact h'.elim
end

/-! ### tests -/
def D.bool? : R → Rn Unit Bool := fun r => match r.d with
  | .p (.bl b) => .ok b
  | _ => .bad
/-- the bool that an expression gives -/
def gTB (g : GE) : GT := fun δ => (g δ).bind D.bool?
section
variable {W : WX} {X : Cx} {a b e : Expr} {ga gb gc : GE} {ta tb : GT} {pos : Pos}
theorem tDT_of {c : DC} {g : GE} {σ : L2.St} {H : Hp} {Q : Bool → Hp → Prop} (h : tDT c (gTB g) σ H Q) : tD c g σ H fun x H' => ∃ k, x = .bl k ∧ Q k H' := by
  obtain ⟨B, Rg, δ, S0, w⟩ := h
  refine ⟨B, Rg, δ, S0, Rn.wp_mono (Rn.wp_bind.mp w) (fun r q v H' s rv => ?_) fun _ _ q => q⟩
  unfold D.bool? at q
  split at q
  · rename_i k e
    obtain rfl : v = .bl k := rv.getP e
    exact ⟨k, rfl, q H' s⟩
  · exact q.elim
theorem de_cmp {op : CmpOp} {r : R2} {f : D → D → Rn Unit R} (ho : OpR X (compareOp op) r) (hf : OpG X.K r f) (ha : DE W X a ga) (hb : DE W X b gb) (hm : behindInMarks op b = false) : DE W X (.Compare a [op] [b] pos) (gOp2 f ga gb) :=
  PE.imp (pe_cmpR ho ha hb hm) (op2_of hf)
theorem dt_cmp {op : CmpOp} {r : R2} {f : D → D → Rn Unit R} (ho : OpR X (compareOp op) r) (hf : OpG X.K r f) (ha : DE W X a ga) (hb : DE W X b gb) (hm : behindInMarks op b = false) : DT W X (.Compare a [op] [b] pos) (gTB (gOp2 f ga gb)) :=
  PT.imp (pt_cmpR ho ha hb hm) fun σ H Q h => op2_of hf σ H _ (tDT_of h)
/-- a op b op' c -/
def gChain (f f' : D → D → Rn Unit Bool) (ga gb gc : GE) : GE := fun δ => (ga δ).bind fun x => (gb δ).bind fun y => (f x.d y.d).bind fun k => if k = true then (gc δ).bind fun z => fB f' y.d z.d else .ok (.own (.p (.bl false)))
theorem chain_of {r r' : R2} {f f' : D → D → Rn Unit Bool} (hf : OpG X.K r (fB f)) (hf' : OpG X.K r' (fB f')) (σ : L2.St) (H : Hp) (Q : VK) (h : tD (dc X W) (gChain f f' ga gb gc) σ H Q) :
    tChain r r' (tD (dc X W) ga) (tD (dc X W) gb) (tD (dc X W) gc) σ H Q := by
  obtain ⟨B, Rg, δ, S0, w⟩ := h
  refine tD_val S0 w fun r1 v1 H1 s1 rv1 S1 w1 => ?_
  refine tD_val S1 w1 fun r2 v2 H2 s2 rv2 S2 w2 => ?_
  obtain ⟨f1, q1⟩ := (rv1.grow s2).look
  obtain ⟨f2, q2⟩ := rv2.look
  refine hf H2 r1.d r2.d v1 v2 f1 f2 _ (fun cl _ => ∀ C H', (dc X W).mg cl = some (.ref C) → Same H2 H' → (dc X W).W (.ref C) none σ H') q1 q2 (Rn.wp_bind.mpr (Rn.wp_mono (Rn.wp_bind.mp w2) (fun k q v H3 s3 rv3 => ?_) fun _ _ q => q))
  obtain rfl : v = .bl k := rv3.getP rfl
  refine ⟨k, rfl, ?_⟩
  cases k with
  | false =>
    rw [if_neg (by decide)] at q ⊢
    exact q _ _ s3 (RepR.plain rfl)
  | true =>
    rw [if_pos rfl] at q ⊢
    refine tD_val (S2.grow s3) (Rn.wp_mono q (fun r q v H' s rv => q v H' (s3.trans s) (rv.back s3)) fun cl _ q C H' e s => q C H' e (s3.trans s)) fun r4 v4 H4 s4 rv4 S4 w4 => ?_
    obtain ⟨f4, q4⟩ := rv4.look
    obtain ⟨f2', q2'⟩ := ((rv2.grow s3).grow s4).look
    exact hf' H4 r2.d r4.d v2 v4 f2' f4 Q _ q2' q4 w4
theorem de_chain {op op' : CmpOp} {c : Expr} {r r' : R2} {f f' : D → D → Rn Unit Bool} (ho : OpR X (compareOp op) r) (hf : OpG X.K r (fB f)) (ho' : OpR X (compareOp op') r') (hf' : OpG X.K r' (fB f')) (ha : DE W X a ga) (hb : DE W X b gb) (hc : DE W X c gc)
    (hm : lastMarks [op, op'] [b, c] = false := by with_unfolding_all rfl) : DE W X (.Compare a [op, op'] [b, c] pos) (gChain f f' ga gb gc) := PE.imp (pe_chain ho ho' ha hb hc hm) (chain_of hf hf')
theorem dt_chain {op op' : CmpOp} {c : Expr} {r r' : R2} {f f' : D → D → Rn Unit Bool} (ho : OpR X (compareOp op) r) (hf : OpG X.K r (fB f)) (ho' : OpR X (compareOp op') r') (hf' : OpG X.K r' (fB f')) (ha : DE W X a ga) (hb : DE W X b gb) (hc : DE W X c gc)
    (hm : lastMarks [op, op'] [b, c] = false := by with_unfolding_all rfl) : DT W X (.Compare a [op, op'] [b, c] pos) (gTB (gChain f f' ga gb gc)) := PT.imp (pt_chain ho ho' ha hb hc hm) fun σ H Q h => chain_of hf hf' σ H _ (tDT_of h)
/-- truth of a value -/
def fTru : D → Rn Unit Bool
  | .p .non => .ok false
  | .p (.bl b) => .ok b
  | .p (.int i) => .ok (i != 0)
  | .p (.str x) => if x.length ≤ sizeLine then .ok ((x.length : Int) != 0) else .bad
  | .p (.tup xs) => .ok (!xs.isEmpty)
  | .lst xs => .ok (!xs.isEmpty)
  | .dic xs => .ok (!xs.isEmpty)
  | _ => .bad
def gTru (g : GE) : GT := fun δ => (g δ).bind fun r => fTru r.d
theorem RepPs.isEmpty {K : PySem.W.Frag} {H : Hp} {xs : List P} {vs : List V} (h : RepPs K H xs vs) : xs.isEmpty = vs.isEmpty := by
  have := h.len
  cases xs <;> cases vs <;> simp_all
theorem RepKs.isEmpty {K : PySem.W.Frag} {H : Hp} {κ : Type} {xs : List (κ × P)} {vs : List (κ × V)} (h : RepKs K H xs vs) : xs.isEmpty = vs.isEmpty := by
  cases xs with
  | nil => obtain rfl : vs = [] := h; rfl
  | cons x xs => obtain ⟨k, x⟩ := x; obtain ⟨_, _, rfl, _⟩ := h; rfl
theorem dt_tru (ha : DE W X a ga) (he : ∀ whole, isTrue a X.env whole = (do let v ← whole; standAt a.pos; holding [v] (truthy v)) := by intro _; rfl) : DT W X a (gTru ga) := by
  refine PT.imp (pt_truth ha he) fun σ H Q ⟨B, Rg, δ, S0, w⟩ => ?_
  refine tD_bool S0 w fun r1 v1 H1 s1 rv1 S1 w1 => ?_
  obtain ⟨f1, q1⟩ := rv1.look
  generalize r1.d = d at q1 w1
  unfold fTru at w1
  split at w1
  · obtain rfl : v1 = .non := q1.1
    exact ⟨_, rfl, w1 H1 (Same.refl _)⟩
  · rename_i b
    obtain rfl : v1 = .bl b := q1.1
    exact ⟨_, rfl, w1 H1 (Same.refl _)⟩
  · rename_i b
    obtain rfl : v1 = .int b := q1.1
    exact ⟨_, rfl, w1 H1 (Same.refl _)⟩
  · rename_i b
    obtain rfl : v1 = .str b := q1.1
    split at w1
    · rename_i hz
      exact ⟨_, ⟨hz, rfl⟩, w1 H1 (Same.refl _)⟩
    · exact w1.elim
  · rename_i xs
    obtain ⟨⟨p, vs, rfl, q, r⟩, _⟩ := q1
    exact ⟨_, .inr (.inl ⟨vs, q, by rw [r.isEmpty]⟩), w1 H1 (Same.refl _)⟩
  · rename_i xs
    obtain ⟨p, vs, rfl, q, _, r⟩ := q1
    exact ⟨_, .inl ⟨vs, SqL.of q, by rw [r.isEmpty]⟩, w1 H1 (Same.refl _)⟩
  · rename_i xs
    obtain ⟨p, vs, rfl, q, _, r⟩ := q1
    exact ⟨_, .inr (.inr ⟨vs, q, by rw [r.isEmpty]⟩), w1 H1 (Same.refl _)⟩
  · exact w1.elim
def gAnd (ta tb : GT) : GT := fun δ => (ta δ).bind fun k => if k = true then tb δ else .ok false
def gOr (ta tb : GT) : GT := fun δ => (ta δ).bind fun k => if k = true then .ok true else tb δ
def gNot (ta : GT) : GT := fun δ => (ta δ).bind fun k => .ok (!k)
theorem and_of {c : DC} (σ : L2.St) (H : Hp) (Q : Bool → Hp → Prop) (h : tDT c (gAnd ta tb) σ H Q) : tAnd (tDT c ta) (tDT c tb) σ H Q := by
  obtain ⟨B, Rg, δ, S0, w⟩ := h
  refine tDT_seq (Qa := fun b _ H' => Q b H') S0 (fun _ _ _ _ q => q) w fun k H1 s1 S1 w1 => ?_
  cases k with
  | true =>
    rw [if_pos rfl] at w1 ⊢
    exact ⟨B, Rg, δ, S1, w1⟩
  | false =>
    rw [if_neg (by decide)] at w1 ⊢
    exact w1 H1 (Same.refl _)
theorem or_of {c : DC} (σ : L2.St) (H : Hp) (Q : Bool → Hp → Prop) (h : tDT c (gOr ta tb) σ H Q) : tOr (tDT c ta) (tDT c tb) σ H Q := by
  obtain ⟨B, Rg, δ, S0, w⟩ := h
  refine tDT_seq (Qa := fun b _ H' => Q b H') S0 (fun _ _ _ _ q => q) w fun k H1 s1 S1 w1 => ?_
  cases k with
  | true =>
    rw [if_pos rfl] at w1 ⊢
    exact w1 H1 (Same.refl _)
  | false =>
    rw [if_neg (by decide)] at w1 ⊢
    exact ⟨B, Rg, δ, S1, w1⟩
theorem dw_and1 (ha : DT W X a ta) : DW W X (.BoolOp .And [a] pos) ta := pw_and1 ha
theorem dw_or1 (ha : DT W X a ta) : DW W X (.BoolOp .Or [a] pos) ta := pw_or1 ha
theorem dw_and {rest : List Expr} (ha : DT W X a ta) (hb : DW W X (.BoolOp .And (b :: rest) pos) tb) : DW W X (.BoolOp .And (a :: b :: rest) pos) (gAnd ta tb) := PW.imp (pw_and ha hb) and_of
theorem dw_or {rest : List Expr} (ha : DT W X a ta) (hb : DW W X (.BoolOp .Or (b :: rest) pos) tb) : DW W X (.BoolOp .Or (a :: b :: rest) pos) (gOr ta tb) := PW.imp (pw_or ha hb) or_of
theorem dt_w (h : DW W X a ta) : DT W X a ta := h.pt
theorem dt_not (ha : DT W X a ta) : DT W X (.UnaryOp .Not a pos) (gNot ta) := by
  refine PT.imp (pt_not ha) fun σ H Q ⟨B, Rg, δ, S0, w⟩ => ?_
  exact tDT_seq (Qa := fun b _ H' => Q b H') S0 (fun _ _ _ _ q => q) w fun k H1 s1 S1 w1 => w1 H1 (Same.refl _)
/-- .. as values -/
def gAndV (ga gb : GE) : GE := fun δ => (ga δ).bind fun r => (D.bool? r).bind fun k => if k = true then gb δ else .ok (.own (.p (.bl false)))
def gOrV (ga gb : GE) : GE := fun δ => (ga δ).bind fun r => (D.bool? r).bind fun k => if k = true then .ok (.own (.p (.bl true))) else gb δ
def gNotV (ga : GE) : GE := fun δ => (ga δ).bind fun r => (D.bool? r).bind fun k => .ok (.own (.p (.bl !k)))
theorem bool_cases {K : PySem.W.Frag} {H H1 : Hp} {r : R} {v : V} {α : Type} {f : Bool → Rn Unit α} {Q : α → Prop} {E : Str → Unit → Prop} (rv : RepR K H H1 r v) (h : ((D.bool? r).bind f).wp Q E) : ∃ k, v = .bl k ∧ (f k).wp Q E := by
  unfold D.bool? at h
  split at h
  · rename_i k e
    exact ⟨k, rv.getP e, h⟩
  · exact h.elim
theorem de_one {op} (ha : DE W X a ga) : DE W X (.BoolOp op [a] pos) ga := pe_one ha
theorem de_and {rest : List Expr} (ha : DE W X a ga) (hb : DE W X (.BoolOp .And (b :: rest) pos) gb) : DE W X (.BoolOp .And (a :: b :: rest) pos) (gAndV ga gb) := by
  refine PE.imp (pe_and ha hb) fun σ H Q ⟨B, Rg, δ, S0, w⟩ => ?_
  refine tD_val S0 w fun r1 v1 H1 s1 rv1 S1 w1 => ?_
  obtain ⟨k, rfl, w1⟩ := bool_cases rv1 w1
  refine ⟨k, rfl, ?_⟩
  cases k with
  | true =>
    rw [if_pos rfl] at w1 ⊢
    exact ⟨B, Rg, δ, S1, w1⟩
  | false =>
    rw [if_neg (by decide)] at w1 ⊢
    exact RepP.up w1 rfl
theorem de_or {rest : List Expr} (ha : DE W X a ga) (hb : DE W X (.BoolOp .Or (b :: rest) pos) gb) : DE W X (.BoolOp .Or (a :: b :: rest) pos) (gOrV ga gb) := by
  refine PE.imp (pe_or ha hb) fun σ H Q ⟨B, Rg, δ, S0, w⟩ => ?_
  refine tD_val S0 w fun r1 v1 H1 s1 rv1 S1 w1 => ?_
  obtain ⟨k, rfl, w1⟩ := bool_cases rv1 w1
  refine ⟨k, rfl, ?_⟩
  cases k with
  | true =>
    rw [if_pos rfl] at w1 ⊢
    exact RepP.up w1 rfl
  | false =>
    rw [if_neg (by decide)] at w1 ⊢
    exact ⟨B, Rg, δ, S1, w1⟩
theorem de_not (ha : DE W X a ga) : DE W X (.UnaryOp .Not a pos) (gNotV ga) := by
  refine PE.imp (pe_not ha) fun σ H Q ⟨B, Rg, δ, S0, w⟩ => ?_
  refine tD_val S0 w fun r1 v1 H1 s1 rv1 S1 w1 => ?_
  obtain ⟨k, rfl, w1⟩ := bool_cases rv1 w1
  exact ⟨k, rfl, RepP.up w1 rfl⟩
def gIf (t : GT) (ga gb : GE) : GE := fun δ => (t δ).bind fun k => if k = true then ga δ else gb δ
theorem de_if {c : Expr} (hc : DT W X c ta) (ha : DE W X a ga) (hb : DE W X b gb) : DE W X (.IfExp c a b pos) (gIf ta ga gb) := by
  refine PE.imp (pe_ifExp hc ha hb) fun σ H Q ⟨B, Rg, δ, S0, w⟩ => ?_
  refine tDT_seq (Qa := fun r H H' => ∀ v, RepR (dc X W).K H H' r v → Q v H') S0 (fun r H1 H2 s q v rv => q v (rv.back s)) (Rn.wp_mono w (fun r q H' s v rv => q v H' s rv) fun _ _ q => q) fun k H1 s1 S1 w1 => ?_
  have w2 := Rn.wp_mono (Q' := fun r => ∀ v H', Same H1 H' → RepR (dc X W).K H1 H' r v → Q v H') w1 (fun r q v H' s rv => q H' s v rv) fun _ _ q => q
  cases k with
  | true =>
    rw [if_pos rfl] at w2 ⊢
    exact ⟨B, Rg, δ, S1, w2⟩
  | false =>
    rw [if_neg (by decide)] at w2 ⊢
    exact ⟨B, Rg, δ, S1, w2⟩
end
end DL
/-! DLd: derivations of arguments, displays, subscripts, slices, built-ins by name. -/
namespace DL
open PySem PySem.Spec PyProof.Rows L2

def LookL (K : PySem.W.Frag) (H : Hp) : List D → List V → Prop
  | [], vs => vs = []
  | d :: ds, vs => ∃ v r, vs = v :: r ∧ (∃ fp, RepD K H d v fp) ∧ LookL K H ds r
section
variable {K : PySem.W.Frag} {H H' : Hp}
theorem RepRs.look : ∀ {rs : List R} {vs : List V} {fp : List Addr}, RepRs K H rs vs fp → LookL K H (rs.map R.d) vs
  | [], _, _, h => h.1
  | .own d :: rs, _, _, h => by
    obtain ⟨v, r, f, g, rfl, rfl, h1, h2⟩ := h
    exact ⟨v, r, rfl, ⟨f, h1⟩, RepRs.look h2⟩
  | .vw d :: rs, _, _, h => by
    obtain ⟨v, r, f, rfl, h1, h2⟩ := h
    exact ⟨v, r, rfl, ⟨f, h1⟩, RepRs.look h2⟩
theorem RepRs.grow (s : Same H H') : ∀ {rs : List R} {vs : List V} {fp : List Addr}, RepRs K H rs vs fp → RepRs K H' rs vs fp
  | [], _, _, h => h
  | .own d :: rs, _, _, h => by
    obtain ⟨v, r, f, g, rfl, rfl, h1, h2⟩ := h
    exact ⟨v, r, f, g, rfl, rfl, RepD.kt (Same.kt s) d v f (fun a _ o e => s a o e) h1, RepRs.grow s h2⟩
  | .vw d :: rs, _, _, h => by
    obtain ⟨v, r, f, rfl, h1, h2⟩ := h
    exact ⟨v, r, f, rfl, RepD.kt (Same.kt s) d v f (fun a _ o e => s a o e) h1, RepRs.grow s h2⟩
theorem RepA.grow {H0 : Hp} {rs : List R} {vs : List V} (h : RepA K H0 H rs vs) (s : Same H H') : RepA K H0 H' rs vs := by
  obtain ⟨fp, q, n, f⟩ := h
  exact ⟨fp, q.grow s, n, f⟩
theorem RepA.back {H0 H1 : Hp} {rs : List R} {vs : List V} (h : RepA K H1 H rs vs) (s : Same H0 H1) : RepA K H0 H rs vs := by
  obtain ⟨fp, q, n, f⟩ := h
  exact ⟨fp, q, n, fun a ha => s.free (f a ha)⟩
end
section
variable {K : PySem.W.Frag} {H : Hp}
mutual
theorem RepD.mem : ∀ {x : D} {v : V} {fp : List Addr}, RepD K H x v fp → ∀ a ∈ fp, H a ≠ none
  | .p x, v, fp, h => fun a ha => by rw [h.2] at ha; cases ha
  | .lst xs, v, fp, h => fun b hb => by
    obtain ⟨a, vs, e, q, rfl, r⟩ := h
    obtain rfl : b = a := by simpa using hb
    rw [q]; exact fun z => nomatch z
  | .ls xs, v, fp, h => fun b hb => by
    obtain ⟨a, vs, f, e, q, rfl, r⟩ := h
    rcases List.mem_cons.mp hb with rfl | hb
    · rw [q]; exact fun z => nomatch z
    · exact RepDs.mem r b hb
  | .tp xs, v, fp, h => by
    obtain ⟨a, vs, e, q, r⟩ := h
    exact RepDs.mem r
  | .dic kvs, v, fp, h => fun b hb => by
    obtain ⟨a, vs, e, q, rfl, r⟩ := h
    obtain rfl : b = a := by simpa using hb
    rw [q]; exact fun z => nomatch z
  | .dit kvs, v, fp, h => fun b hb => by
    obtain ⟨a, vs, e, q, rfl, r⟩ := h
    obtain rfl : b = a := by simpa using hb
    rw [q]; exact fun z => nomatch z
  | .scr ns, v, fp, h => fun a ha => by rw [h.1] at ha; cases ha
  | .orc, v, fp, h => fun b hb => by
    obtain ⟨a, z, ns, e, rfl, q1, q2⟩ := h
    rcases List.mem_cons.mp hb with rfl | hb
    · rw [q1]; exact fun z => nomatch z
    · obtain rfl : b = z := by simpa using hb
      rw [q2]; exact fun z => nomatch z
theorem RepDs.mem : ∀ {xs : List D} {vs : List V} {fp : List Addr}, RepDs K H xs vs fp → ∀ a ∈ fp, H a ≠ none
  | [], vs, fp, h => fun a ha => by rw [h.2] at ha; cases ha
  | x :: xs, vs, fp, h => fun b hb => by
    obtain ⟨v, r, f, g, e, rfl, h1, h2⟩ := h
    rcases List.mem_append.mp hb with z | z
    · exact RepD.mem h1 b z
    · exact RepDs.mem h2 b z
end
end
section
variable {K : PySem.W.Frag} {H : Hp}
/-- what stands for ever -/
def Fast (H : Hp) (a : Addr) : Prop := (∃ xs, H a = some (.tup xs)) ∨ ∃ o u, H a = some (.frz o u)
theorem not_fast {a : Addr} {o : HO} (h : H a = some o) (hm : Mut (some o)) : ¬ Fast H a := fun q => by
  rcases q with ⟨_, q⟩ | ⟨_, _, q⟩ <;> (rw [h] at q; cases q; exact hm)
mutual
theorem RepD.ntup : ∀ {x : D} {v : V} {fp : List Addr}, RepD K H x v fp → ∀ a ∈ fp, ¬ Fast H a
  | .p x, v, fp, h => fun a ha => by rw [h.2] at ha; cases ha
  | .lst xs, v, fp, h => fun b hb => by
    obtain ⟨a, vs, e, q, rfl, r⟩ := h
    obtain rfl : b = a := by simpa using hb
    exact not_fast q trivial
  | .ls xs, v, fp, h => fun b hb => by
    obtain ⟨a, vs, f, e, q, rfl, r⟩ := h
    rcases List.mem_cons.mp hb with rfl | hb
    · exact not_fast q trivial
    · exact RepDs.ntup r b hb
  | .tp xs, v, fp, h => by
    obtain ⟨a, vs, e, q, r⟩ := h
    exact RepDs.ntup r
  | .dic kvs, v, fp, h => fun b hb => by
    obtain ⟨a, vs, e, q, rfl, r⟩ := h
    obtain rfl : b = a := by simpa using hb
    exact not_fast q trivial
  | .dit kvs, v, fp, h => fun b hb => by
    obtain ⟨a, vs, e, q, rfl, r⟩ := h
    obtain rfl : b = a := by simpa using hb
    exact not_fast q trivial
  | .scr ns, v, fp, h => fun a ha => by rw [h.1] at ha; cases ha
  | .orc, v, fp, h => fun b hb => by
    obtain ⟨a, z, ns, e, rfl, q1, q2⟩ := h
    rcases List.mem_cons.mp hb with rfl | hb
    · exact not_fast q1 trivial
    · obtain rfl : b = z := by simpa using hb
      exact not_fast q2 trivial
theorem RepDs.ntup : ∀ {xs : List D} {vs : List V} {fp : List Addr}, RepDs K H xs vs fp → ∀ a ∈ fp, ¬ Fast H a
  | [], vs, fp, h => fun a ha => by rw [h.2] at ha; cases ha
  | x :: xs, vs, fp, h => fun b hb => by
    obtain ⟨v, r, f, g, e, rfl, h1, h2⟩ := h
    rcases List.mem_append.mp hb with z | z
    · exact RepD.ntup h1 b z
    · exact RepDs.ntup h2 b z
end
end
section
variable {W : WX} {X : Cx} {a b e : Expr} {es : List Expr} {ga gb gc : GE} {gs : GA} {pos : Pos}
def gNil : GA := fun _ => .ok []
def gCons (ga : GE) (gs : GA) : GA := fun δ => (ga δ).bind fun r => (gs δ).bind fun rs => .ok (r :: rs)
theorem da_nil : DA W X [] gNil := PA.imp pa_nil fun σ H Q ⟨B, Rg, δ, S0, w⟩ => w [] H (Same.refl H) ⟨[], ⟨rfl, rfl⟩, List.nodup_nil, fun _ z => nomatch z⟩
theorem da_cons (ha : DE W X a ga) (hs : DA W X es gs) (he : starEach (a :: es) X.env = (false, eval a X.env) :: starEach es X.env := by rfl) : DA W X (a :: es) (gCons ga gs) := by
  refine PA.imp (pa_cons ha hs he) fun σ H Q ⟨B, Rg, δ, S0, w⟩ => ?_
  refine ⟨B, Rg, δ, S0, Rn.wp_mono (Rn.wp_bind.mp w) (fun r q v H1 s1 rv => ?_) fun _ _ q => q⟩
  refine ⟨B, Rg, δ, S0.grow s1, Rn.wp_mono (Rn.wp_bind.mp q) (fun rs q vs H2 s2 ra => q (v :: vs) H2 (s1.trans s2) ?_) fun cl _ q C H' e s => q C H' e (s1.trans s)⟩
  obtain ⟨fp, q1, n1, f1⟩ := ra
  cases r with
  | vw d =>
    obtain ⟨g, q2⟩ := rv.grow s2
    exact ⟨fp, ⟨v, vs, g, rfl, q2, q1⟩, n1, fun a ha => s1.free (f1 a ha)⟩
  | own d =>
    obtain ⟨g, q2, n2, f2⟩ := rv
    refine ⟨g ++ fp, ⟨v, vs, g, fp, rfl, rfl, RepD.kt (Same.kt s2) d v g (fun a _ o e => s2 a o e) q2, q1⟩, ?_, fun a ha => ?_⟩
    · rw [List.nodup_append]
      refine ⟨n2, n1, fun a ha b hb e => ?_⟩
      subst e
      exact q2.mem a ha (f1 a hb)
    · rcases List.mem_append.mp ha with z | z
      · exact f2 a z
      · exact s1.free (f1 a z)
/-! ### displays -/
def plains : List R → Option (List P)
  | [] => some []
  | r :: rs => match r.d, plains rs with
    | .p x, some xs => some (x :: xs)
    | _, _ => none
def owns : List R → Option (List D)
  | [] => some []
  | .own d :: rs => (owns rs).map (d :: ·)
  | .vw (.p x) :: rs => (owns rs).map (.p x :: ·)
  | .vw _ :: _ => none
theorem plains_ok {K : PySem.W.Frag} {H : Hp} : ∀ {rs : List R} {vs : List V} {fp : List Addr} {xs : List P}, RepRs K H rs vs fp → plains rs = some xs → RepPs K H xs vs
  | [], _, _, _, h, e => by
    obtain rfl : ([] : List P) = _ := by simpa [plains] using e
    exact h.1
  | r :: rs, vs, fp, xs, h, e => by
    unfold plains at e
    split at e
    · rename_i x ys e1 e2
      obtain rfl := Option.some.inj e
      cases r with
      | own d =>
        obtain rfl : d = .p x := e1
        obtain ⟨v, r, f, g, rfl, rfl, h1, h2⟩ := h
        exact ⟨v, r, rfl, h1.1, plains_ok h2 e2⟩
      | vw d =>
        obtain rfl : d = .p x := e1
        obtain ⟨v, r, f, rfl, h1, h2⟩ := h
        exact ⟨v, r, rfl, h1.1, plains_ok h2 e2⟩
    · cases e
theorem owns_ok {K : PySem.W.Frag} {H : Hp} : ∀ {rs : List R} {vs : List V} {fp : List Addr} {xs : List D}, RepRs K H rs vs fp → owns rs = some xs → RepDs K H xs vs fp
  | [], _, _, _, h, e => by
    obtain rfl : ([] : List D) = _ := by simpa [owns] using e
    exact h
  | .own d :: rs, vs, fp, xs, h, e => by
    unfold owns at e
    cases e2 : owns rs with
    | none => rw [e2] at e; cases e
    | some ys =>
      rw [e2] at e
      obtain rfl := Option.some.inj e
      obtain ⟨v, r, f, g, rfl, rfl, h1, h2⟩ := h
      exact ⟨v, r, f, g, rfl, rfl, h1, owns_ok h2 e2⟩
  | .vw d :: rs, vs, fp, xs, h, e => by
    cases d with
    | p x =>
      simp only [owns] at e
      cases e2 : owns rs with
      | none => rw [e2] at e; cases e
      | some ys =>
        rw [e2] at e
        obtain rfl := Option.some.inj e
        obtain ⟨v, r, f, rfl, h1, h2⟩ := h
        exact ⟨v, r, [], fp, rfl, rfl, ⟨h1.1, rfl⟩, owns_ok h2 e2⟩
    | _ => simp [owns] at e
theorem RepRs.len {K : PySem.W.Frag} {H : Hp} : ∀ {rs : List R} {vs : List V} {fp : List Addr}, RepRs K H rs vs fp → vs.length = rs.length
  | [], _, _, h => by
    obtain ⟨rfl, _⟩ := h
    rfl
  | .own d :: rs, _, _, h => by
    obtain ⟨v, r, f, g, rfl, rfl, h1, h2⟩ := h
    simp [RepRs.len h2]
  | .vw d :: rs, _, _, h => by
    obtain ⟨v, r, f, rfl, h1, h2⟩ := h
    simp [RepRs.len h2]
def gTup (gs : GA) : GE := fun δ => (gs δ).bind fun rs => if rs.length ≤ 1000 then match plains rs with
  | some xs => .ok (.own (.p (.tup xs)))
  | none => match owns rs with
    | some ds => .ok (.own (.tp ds))
    | none => .bad else .bad
def gLst (gs : GA) : GE := fun δ => (gs δ).bind fun rs => if rs.length ≤ 1000 then match plains rs with
  | some xs => .ok (.own (.lst xs))
  | none => match owns rs with
    | some ds => .ok (.own (.ls ds))
    | none => .bad else .bad
theorem de_tup {k : Nat} (hs : DA W X es gs) : DE W X (.Tuple es k pos) (gTup gs) := by
  refine PE.imp (pe_tup hs) fun σ H Q ⟨B, Rg, δ, S0, w⟩ => ?_
  refine ⟨B, Rg, δ, S0, Rn.wp_mono (Rn.wp_bind.mp w) (fun rs q vs H1 s1 ra => ?_) fun _ _ q => q⟩
  obtain ⟨fp, q1, n1, f1⟩ := ra
  split at q
  · rename_i hz
    refine ⟨by rw [q1.len, sizeLine_eq]; omega, fun p hp => ?_⟩
    split at q
    · rename_i xs e
      exact q _ _ (s1.trans (Same.new hp)) (RepR.plain ⟨p, vs, rfl, .inl (.inl upd_same), RepPs.kt (Same.kt (Same.new hp)) _ _ (plains_ok q1 e)⟩)
    · split at q
      · rename_i ds e
        refine q _ _ (s1.trans (Same.new hp)) ⟨fp, ⟨p, vs, rfl, .inl (.inl upd_same), RepDs.kt (Same.kt (Same.new hp)) _ _ _ (fun a _ o e => Same.new hp a o e) (owns_ok q1 e)⟩, n1, f1⟩
      · exact q.elim
  · exact q.elim
theorem de_lst (hs : DA W X es gs) : DE W X (.List es pos) (gLst gs) := by
  refine PE.imp (pe_lst hs) fun σ H Q ⟨B, Rg, δ, S0, w⟩ => ?_
  refine ⟨B, Rg, δ, S0, Rn.wp_mono (Rn.wp_bind.mp w) (fun rs q vs H1 s1 ra => ?_) fun _ _ q => q⟩
  obtain ⟨fp, q1, n1, f1⟩ := ra
  split at q
  · rename_i hz
    refine ⟨by rw [q1.len, sizeLine_eq]; omega, fun p hp => ?_⟩
    split at q
    · rename_i xs e
      exact q _ _ (s1.trans (Same.new hp)) ⟨[p], ⟨p, vs, rfl, upd_same, rfl, RepPs.kt (Same.kt (Same.new hp)) _ _ (plains_ok q1 e)⟩, by simp, fun b hb => by
        obtain rfl : b = p := by simpa using hb
        exact s1.free hp⟩
    · split at q
      · rename_i ds e
        have r2 := owns_ok q1 e
        refine q _ _ (s1.trans (Same.new hp)) ⟨p :: fp, ⟨p, vs, fp, rfl, upd_same, rfl, RepDs.kt (Same.kt (Same.new hp)) _ _ _ (fun a _ o e => Same.new hp a o e) r2⟩, ?_, fun b hb => ?_⟩
        · rw [List.nodup_cons]
          exact ⟨fun z => RepDs.mem r2 p z hp, n1⟩
        · rcases List.mem_cons.mp hb with rfl | hb
          · exact s1.free hp
          · exact f1 b hb
      · exact q.elim
  · exact q.elim
end
end DL
/-! DLe: subscripts, slices, built-ins by name. -/
namespace DL
open PySem PySem.Spec PyProof.Rows L2

section
variable {K : PySem.W.Frag} {H : Hp}
/-! ### subscripts -/
def keyP : P → Option Key
  | .int i => some (.inl i)
  | .str x => some (.inr x)
  | _ => none
def valP {κ : Type} [DecidableEq κ] (kvs : List (κ × P)) (k : κ) : Option P := (kvs.find? fun kv => decide (kv.1 = k)).map (·.2)
theorem keyP_kV {x : P} {v : V} {k : Key} (r : RepP K H x v) (e : keyP x = some k) : v = kV k := by
  cases x with
  | int i =>
    obtain rfl := Option.some.inj e
    exact r
  | str i =>
    obtain rfl := Option.some.inj e
    exact r
  | _ => cases e
theorem RepKs.get {κ : Type} [DecidableEq κ] {k : κ} : ∀ {kvs : List (κ × P)} {ws : List (κ × V)}, RepKs K H kvs ws → match valP kvs k with
    | some x => ∃ v, valV ws k = some v ∧ RepP K H x v
    | none => valV ws k = none
  | [], ws, h => by
    obtain rfl : ws = [] := h
    rfl
  | (c, x) :: kvs, ws, h => by
    obtain ⟨v, r, rfl, h1, h2⟩ := h
    by_cases e : c = k
    · have e1 : valP ((c, x) :: kvs) k = some x := by simp [valP, List.find?_cons, e]
      rw [e1]
      exact ⟨v, valV_pos e, h1⟩
    · have e1 : valP ((c, x) :: kvs) k = valP kvs k := by simp [valP, List.find?_cons, e]
      rw [e1, valV_neg (p := (c, v)) e]
      exact RepKs.get h2
def fIx : D → D → Rn Unit R
  | .p (.tup xs), .p (.int i) => match atI xs i with
    | some x => .ok (.own (.p x))
    | none => .bad
  | .p (.str z), .p (.int i) => if z.length ≤ sizeLine then match atI z.cps.toList i with
    | some c => .ok (.own (.p (.str ⟨#[c]⟩)))
    | none => .bad else .bad
  | .lst xs, .p (.int i) => match atI xs i with
    | some x => .ok (.own (.p x))
    | none => .bad
  | .ls xs, .p (.int i) => match atI xs i with
    | some x => .ok (.vw x)
    | none => .bad
  | .tp xs, .p (.int i) => match atI xs i with
    | some x => .ok (.vw x)
    | none => .bad
  | .dic kvs, .p x => match keyP x with
    | some k => match valP kvs k with
      | some y => .ok (.own (.p y))
      | none => .bad
    | none => .bad
  | _, _ => .bad
theorem RepPs.at {xs : List P} {vs : List V} {i : Int} {x : P} (h : RepPs K H xs vs) (e : atI xs i = some x) : ∃ v, atI vs i = some v ∧ RepP K H x v := by
  unfold atI at e ⊢
  rw [h.len]
  cases z : ixN xs.length i with
  | none => rw [z] at e; cases e
  | some j =>
    rw [z] at e
    exact RepPs.get h e
theorem RepDs.len : ∀ {xs : List D} {vs : List V} {fp : List Addr}, RepDs K H xs vs fp → vs.length = xs.length
  | [], _, _, h => by
    obtain ⟨rfl, _⟩ := h
    rfl
  | x :: xs, _, _, h => by
    obtain ⟨v, r, f, g, rfl, rfl, h1, h2⟩ := h
    simp [RepDs.len h2]
theorem RepDs.get : ∀ {xs : List D} {vs : List V} {fp : List Addr} {i : Nat} {x : D}, RepDs K H xs vs fp → xs[i]? = some x → ∃ v f, vs[i]? = some v ∧ RepD K H x v f
  | [], _, _, i, _, _, e => by simp at e
  | x :: xs, _, _, 0, y, h, e => by
    obtain ⟨v, r, f, g, rfl, rfl, h1, h2⟩ := h
    obtain rfl : x = y := by simpa using e
    exact ⟨v, f, rfl, h1⟩
  | x :: xs, _, _, i + 1, y, h, e => by
    obtain ⟨v, r, f, g, rfl, rfl, h1, h2⟩ := h
    obtain ⟨u, f', q1, q2⟩ := RepDs.get (i := i) h2 (by simpa using e)
    exact ⟨u, f', by simpa using q1, q2⟩
theorem RepDs.at {xs : List D} {vs : List V} {fp : List Addr} {i : Int} {x : D} (h : RepDs K H xs vs fp) (e : atI xs i = some x) : ∃ v f, atI vs i = some v ∧ RepD K H x v f := by
  unfold atI at e ⊢
  rw [h.len]
  cases z : ixN xs.length i with
  | none => rw [z] at e; cases e
  | some j =>
    rw [z] at e
    exact RepDs.get h e
end
def rIxA (K : PySem.W.Frag) : R2 := fun x y H Q => rIx K x y H Q ∨ ∃ a v, x = .ref a ∧ DGet H a y (some v) ∧ Q v H
theorem ix_dict {X : Cx} (hu : X.A.units + 1 < cLine) : IxR X (fun x y H Q => ∃ a v, x = .ref a ∧ DGet H a y (some v) ∧ Q v H) := by
  intro value slice pins s σ H x y v u Q I rx ry h hs
  obtain ⟨a, w, rfl, g, q⟩ := h
  obtain rfl : v = Value.ref a := rx
  exact tail_any (dict_typeIs I g) PySem.F.slot_dict_getitem.lookup (d_getItem hu I g ry fun w' s3 I3 rw' => ⟨w, H, I3, rw', q⟩) hs
theorem og_ix {K : PySem.W.Frag} : OpG K (rIxA K) fIx := by
  intro H x y v u fx fy Q E rx ry h
  unfold fIx at h
  split at h
  · rename_i xs i
    obtain ⟨⟨a, vs, rfl, q, r⟩, _⟩ := rx
    obtain rfl : u = .int i := ry.1
    split at h
    · rename_i x e
      obtain ⟨w, e1, r1⟩ := r.at e
      exact .inl (.inr (.inl ⟨a, vs, i, w, rfl, rfl, q, e1, RepP.up h r1⟩))
    · exact h.elim
  · rename_i z i
    obtain rfl : v = .str z := rx.1
    obtain rfl : u = .int i := ry.1
    split at h
    · rename_i hz
      split at h
      · rename_i c e
        exact .inl (.inr (.inr ⟨z, i, c, rfl, rfl, hz, e, RepP.up h rfl⟩))
      · exact h.elim
    · exact h.elim
  · rename_i xs i
    obtain ⟨a, vs, rfl, q, _, r⟩ := rx
    obtain rfl : u = .int i := ry.1
    split at h
    · rename_i x e
      obtain ⟨w, e1, r1⟩ := r.at e
      exact .inl (.inl ⟨a, vs, i, w, rfl, rfl, SqL.of q, e1, RepP.up h r1⟩)
    · exact h.elim
  · rename_i xs i
    obtain ⟨a, vs, f, rfl, q, _, r⟩ := rx
    obtain rfl : u = .int i := ry.1
    split at h
    · rename_i x e
      obtain ⟨w, f', e1, r1⟩ := r.at e
      exact .inl (.inl ⟨a, vs, i, w, rfl, rfl, SqL.of q, e1, h w H (Same.refl H) ⟨f', r1⟩⟩)
    · exact h.elim
  · rename_i xs i
    obtain ⟨a, vs, rfl, q, r⟩ := rx
    obtain rfl : u = .int i := ry.1
    split at h
    · rename_i x e
      obtain ⟨w, f', e1, r1⟩ := r.at e
      exact .inl (.inr (.inl ⟨a, vs, i, w, rfl, rfl, q, e1, h w H (Same.refl H) ⟨f', r1⟩⟩))
    · exact h.elim
  · rename_i kvs x
    obtain ⟨a, ws, rfl, q, _, r⟩ := rx
    split at h
    · rename_i k ek
      obtain rfl : u = kV k := keyP_kV ry.1 ek
      split at h
      · rename_i y ey
        have g := RepKs.get (k := k) r
        rw [ey] at g
        obtain ⟨w, e1, r1⟩ := g
        exact .inr ⟨a, w, rfl, by rw [← e1]; exact DGet.k q, RepP.up h r1⟩
      · exact h.elim
    · exact h.elim
  · exact h.elim
section
variable {W : WX} {X : Cx} {a b e : Expr} {es : List Expr} {ga gb gc : GE} {gs : GA} {pos : Pos}
theorem de_ix (hu : X.A.units + 1 < cLine) (ha : DE W X a ga) (hb : DE W X b gb) (hs : PlainIx b := by exact fun _ _ => rfl) : DE W X (.Subscript a b pos) (gOp2 fIx ga gb) :=
  PE.imp (pe_ix (ix_seq.or (ix_dict hu)) ha hb hs) (op2_of og_ix)

/-! ### slices -/
abbrev GO := Sl → Rn Unit (Option Int)
def gNoPart : GO := fun _ => .ok none
def gPart (g : GE) : GO := fun δ => (g δ).bind fun r => match r.d with
  | .p (.int i) => .ok (some i)
  | _ => .bad
def tDO (c : DC) (g : GO) : TO := fun σ H Q => ∃ (B : Hp) (Rg : Rgs c.ex) (δ : Sl), SRel c.K B Rg σ H δ ∧ (g δ).wp (fun o => ∀ H', Same H H' → Q o H') fun cl _ => ∀ C H', c.mg cl = some (.ref C) → Same H H' → c.W (.ref C) none σ H'
def DO (W : WX) (X : Cx) (o : Option Expr) (g : GO) : Prop := PO X o (tDO (dc X W) g)
theorem PO.imp {X : Cx} {o : Option Expr} {t t' : TO} (h : PO X o t) (m : ∀ σ H Q, t' σ H Q → t σ H Q) : PO X o t' := ⟨fun pins s σ H Q I q => h.run pins s σ H Q I (m σ H Q q)⟩
theorem do_none : DO W X none gNoPart := PO.imp po_none fun σ H Q ⟨B, Rg, δ, S0, w⟩ => w H (Same.refl H)
theorem do_some (h : DE W X e ga) : DO W X (some e) (gPart ga) := by
  refine PO.imp (po_some h) fun σ H Q ⟨B, Rg, δ, S0, w⟩ => ?_
  refine ⟨B, Rg, δ, S0, Rn.wp_mono (Rn.wp_bind.mp w) (fun r q v H1 s1 rv => ?_) fun _ _ q => q⟩
  split at q
  · rename_i i e
    obtain rfl : v = .int i := rv.getP e
    exact ⟨i, rfl, q H1 s1⟩
  · exact q.elim
def cutP {α : Type} (xs : List α) (lo hi : Option Int) : List α := (xs.drop (HT.sIx xs.length 0 lo)).take (HT.sIx xs.length xs.length hi - HT.sIx xs.length 0 lo)
def fSl : D → Option Int → Option Int → Rn Unit R
  | .p (.tup xs), lo, hi => .ok (.own (.p (.tup (cutP xs lo hi))))
  | .p (.str z), lo, hi => if z.length ≤ sizeLine then .ok (.own (.p (.str (cutS z lo hi)))) else .bad
  | .lst xs, lo, hi => .ok (.own (.lst (cutP xs lo hi)))
  | _, _, _ => .bad
def gSl (ga : GE) (gl gh : GO) : GE := fun δ => (ga δ).bind fun r => (gl δ).bind fun lo => (gh δ).bind fun hi => fSl r.d lo hi
theorem RepPs.cut {K : PySem.W.Frag} {H : Hp} {xs : List P} {vs : List V} (h : RepPs K H xs vs) (lo hi : Option Int) : RepPs K H (cutP xs lo hi) (cutV vs lo hi) := by
  unfold cutP cutV
  rw [h.len]
  exact (h.drop _).take _
theorem cut_whole {α : Type} (xs : List α) {lo hi : Option Int} (h : HT.sIx xs.length 0 lo = 0 ∧ HT.sIx xs.length xs.length hi = xs.length) : cutP xs lo hi = xs := by
  unfold cutP
  rw [h.1, h.2, Nat.sub_zero, List.drop_zero, List.take_length]
theorem de_slice {lo hi : Option Expr} {gl gh : GO} {p2 : Pos} (ha : DE W X e ga) (hl : DO W X lo gl) (hh : DO W X hi gh) : DE W X (.Subscript e (.Slice lo hi none p2) pos) (gSl ga gl gh) := by
  refine PE.imp (pe_slice (sl_list.or (sl_tupA.or sl_str)) ha hl hh) fun σ H Q ⟨B, Rg, δ, S0, w⟩ => ?_
  refine ⟨B, Rg, δ, S0, Rn.wp_mono (Rn.wp_bind.mp w) (fun r q v H1 s1 rv => ?_) fun _ _ q => q⟩
  refine ⟨B, Rg, δ, S0.grow s1, Rn.wp_mono (Rn.wp_bind.mp q) (fun lo q H2 s2 => ?_) fun cl _ q C H' e s => q C H' e (s1.trans s)⟩
  refine ⟨B, Rg, δ, (S0.grow s1).grow s2, Rn.wp_mono (Rn.wp_bind.mp q) (fun hi q H3 s3 => ?_) fun cl _ q C H' e s => q C H' e (s1.trans (s2.trans s))⟩
  have s13 := s1.trans (s2.trans s3)
  obtain ⟨fp, q1⟩ := ((rv.grow s2).grow s3).look
  generalize r.d = d at q1 q
  unfold fSl at q
  split at q
  · rename_i lo hi xs
    obtain ⟨⟨p, vs, rfl, q2, r2⟩, _⟩ := q1
    refine .inr (.inl ⟨p, vs, rfl, q2, fun z => ?_, fun _ p' hp => ?_⟩)
    · rw [r2.len] at z
      rw [cut_whole xs z] at q
      exact q _ H3 s13 (RepR.plain ⟨p, vs, rfl, q2, r2⟩)
    · exact q _ _ (s13.trans (Same.new hp)) (RepR.plain ⟨p', _, rfl, .inl (.inl upd_same), RepPs.kt (Same.kt (Same.new hp)) _ _ (r2.cut _ _)⟩)
  · rename_i lo hi z
    obtain rfl : v = .str z := q1.1
    split at q
    · rename_i hz
      exact .inr (.inr ⟨z, rfl, hz, q _ H3 s13 (RepR.plain rfl)⟩)
    · exact q.elim
  · rename_i lo hi xs
    obtain ⟨p, vs, rfl, q2, _, r2⟩ := q1
    refine .inl ⟨p, vs, rfl, SqL.of q2, fun p' hp => ?_⟩
    exact q _ _ (s13.trans (Same.new hp)) ⟨[p'], ⟨p', _, rfl, upd_same, rfl, RepPs.kt (Same.kt (Same.new hp)) _ _ (r2.cut _ _)⟩, by simp, fun b hb => by
      obtain rfl : b = p' := by simpa using hb
      exact s13.free hp⟩
  · exact q.elim

/-! ### built-ins by name -/
def CallG (K : PySem.W.Frag) (r : List V → Hp → VK → Prop) (f : List D → Rn Unit R) : Prop := ∀ (H : Hp) (ds : List D) (vs : List V) (Q : VK) (E : Str → Unit → Prop), LookL K H ds vs →
  (f ds).wp (fun r => ∀ v H', Same H H' → RepR K H H' r v → Q v H') E → r vs H Q
def gCall (f : List D → Rn Unit R) (gs : GA) : GE := fun δ => (gs δ).bind fun rs => f (rs.map R.d)
theorem call_of {r : List V → Hp → VK → Prop} {f : List D → Rn Unit R} (hf : CallG X.K r f) (σ : L2.St) (H : Hp) (Q : VK) (h : tD (dc X W) (gCall f gs) σ H Q) : tCB r (tDA (dc X W) gs) σ H Q := by
  obtain ⟨B, Rg, δ, S0, w⟩ := h
  refine ⟨B, Rg, δ, S0, Rn.wp_mono (Rn.wp_bind.mp w) (fun rs q vs H1 s1 ra => ?_) fun _ _ q => q⟩
  obtain ⟨fp, q1, _⟩ := ra
  exact hf H1 _ vs Q (fun cl _ => ∀ C H', (dc X W).mg cl = some (.ref C) → Same H H' → (dc X W).W (.ref C) none σ H') q1.look (Rn.wp_mono q (fun r q v H' s rv => q v H' (s1.trans s) (rv.back s1)) fun _ _ q => q)
theorem de_callB {id : String} {x : Str} {p : Pos} {r : List V → Hp → VK → Prop} {f : List D → Rn Unit R} (hc : CallR X (.builtin id) r) (hf : CallG X.K r f) (hm : X.mg x = none) (hv : bootBuiltins x = some (.builtin id)) (ha : DA W X (e :: es) gs)
    (hg : Gl X x := by rfl) (hn : x ≠ "__name__" := by decide) (hdb : (x == ("__debug__" : Str)) = false := by decide) (he : starEach (e :: es) X.env = (false, eval e X.env) :: starEach es X.env := by rfl) (hpl : (backTo pos (starEach es X.env)).any (·.1) = false := by rfl) :
    DE W X (.Call (.Name x p) (e :: es) [] pos) (gCall f gs) := PE.imp (pe_callB hc hg hm hv ha hn hdb he hpl) (call_of hf)
theorem de_callTy {T : String} {x : Str} {p : Pos} {r : List V → Hp → VK → Prop} {f : List D → Rn Unit R} (hc : CallR X (.type T) r) (hf : CallG X.K r f) (hm : X.mg x = none) (hv : bootBuiltins x = some (.type T)) (ha : DA W X (e :: es) gs)
    (hg : Gl X x := by rfl) (hn : x ≠ "__name__" := by decide) (hdb : (x == ("__debug__" : Str)) = false := by decide) (he : starEach (e :: es) X.env = (false, eval e X.env) :: starEach es X.env := by rfl) (hpl : (backTo pos (starEach es X.env)).any (·.1) = false := by rfl) :
    DE W X (.Call (.Name x p) (e :: es) [] pos) (gCall f gs) := PE.imp (pe_callTy hc hg hm hv ha hn hdb he hpl) (call_of hf)
end
section
variable {K : PySem.W.Frag} {H : Hp}
theorem LookL.one {d : D} {vs : List V} (h : LookL K H [d] vs) : ∃ v fp, vs = [v] ∧ RepD K H d v fp := by
  obtain ⟨v, r, rfl, ⟨fp, q⟩, rfl⟩ := h
  exact ⟨v, fp, rfl, q⟩
theorem LookL.two {d e : D} {vs : List V} (h : LookL K H [d, e] vs) : ∃ v u fp gp, vs = [v, u] ∧ RepD K H d v fp ∧ RepD K H e u gp := by
  obtain ⟨v, r, rfl, ⟨fp, q⟩, u, r', rfl, ⟨gp, q'⟩, rfl⟩ := h
  exact ⟨v, u, fp, gp, rfl, q, q'⟩
def fLen : List D → Rn Unit R
  | [.p (.str z)] => if z.length ≤ sizeLine then .ok (.own (.p (.int z.length))) else .bad
  | [.p (.tup xs)] => .ok (.own (.p (.int xs.length)))
  | [.lst xs] => .ok (.own (.p (.int xs.length)))
  | [.ls xs] => .ok (.own (.p (.int xs.length)))
  | [.tp xs] => .ok (.own (.p (.int xs.length)))
  | [.dic xs] => .ok (.own (.p (.int xs.length)))
  | _ => .bad
theorem RepKs.len {κ : Type} : ∀ {xs : List (κ × P)} {vs : List (κ × V)}, RepKs K H xs vs → vs.length = xs.length
  | [], vs, h => by
    obtain rfl : vs = [] := h
    rfl
  | (k, x) :: xs, vs, h => by
    obtain ⟨v, r, rfl, _, h2⟩ := h
    simp [RepKs.len h2]
theorem call_lenA {X : Cx} : CallR X (.builtin "len") (fun xs H Q => (∃ x n, xs = [x] ∧ LenV X.K x H n ∧ Q (.int n) H) ∨ ∃ a kvs, xs = [V.ref a] ∧ H a = some (.dK kvs) ∧ Q (.int kvs.length) H) := call_len.or call_lenD
theorem cg_len : CallG K (fun xs H Q => (∃ x n, xs = [x] ∧ LenV K x H n ∧ Q (.int n) H) ∨ ∃ a kvs, xs = [V.ref a] ∧ H a = some (.dK kvs) ∧ Q (.int kvs.length) H) fLen := by
  intro H ds vs Q E hl h
  unfold fLen at h
  split at h
  · rename_i z
    obtain ⟨v, fp, rfl, r⟩ := hl.one
    obtain rfl : v = .str z := r.1
    split at h
    · rename_i hz
      exact .inl ⟨.str z, z.length, rfl, ⟨hz, rfl⟩, RepP.up h rfl⟩
    · exact h.elim
  · rename_i xs
    obtain ⟨v, fp, rfl, r⟩ := hl.one
    obtain ⟨⟨a, vs, rfl, q, r⟩, _⟩ := r
    exact .inl ⟨.ref a, xs.length, rfl, .inr ⟨vs, q, r.len.symm⟩, RepP.up h rfl⟩
  · rename_i xs
    obtain ⟨v, fp, rfl, r⟩ := hl.one
    obtain ⟨a, vs, rfl, q, _, r⟩ := r
    exact .inl ⟨.ref a, xs.length, rfl, .inl ⟨vs, SqL.of q, r.len.symm⟩, RepP.up h rfl⟩
  · rename_i xs
    obtain ⟨v, fp, rfl, r⟩ := hl.one
    obtain ⟨a, vs, _, rfl, q, _, r⟩ := r
    exact .inl ⟨.ref a, xs.length, rfl, .inl ⟨vs, SqL.of q, r.len.symm⟩, RepP.up h rfl⟩
  · rename_i xs
    obtain ⟨v, fp, rfl, r⟩ := hl.one
    obtain ⟨a, vs, rfl, q, r⟩ := r
    exact .inl ⟨.ref a, xs.length, rfl, .inr ⟨vs, q, r.len.symm⟩, RepP.up h rfl⟩
  · rename_i xs
    obtain ⟨v, fp, rfl, r⟩ := hl.one
    obtain ⟨a, vs, rfl, q, _, r⟩ := r
    exact .inr ⟨a, vs, rfl, q, by rw [r.len]; exact RepP.up h rfl⟩
  · exact h.elim
theorem up_lst {xs : List P} {vs : List V} {Q : VK} (h : ∀ v H', Same H H' → RepR K H H' (.own (.lst xs)) v → Q v H') (r : RepPs K H xs vs) {p : Addr} (hp : H p = none) : Q (.ref p) (upd H p (.lst vs)) :=
  h _ _ (Same.new hp) ⟨[p], ⟨p, vs, rfl, upd_same, rfl, RepPs.kt (Same.kt (Same.new hp)) _ _ r⟩, by simp, fun b hb => by
    obtain rfl : b = p := by simpa using hb
    exact hp⟩
theorem up_tup {xs : List P} {vs : List V} {Q : VK} (h : ∀ v H', Same H H' → RepR K H H' (.own (.p (.tup xs))) v → Q v H') (r : RepPs K H xs vs) {p : Addr} (hp : H p = none) : Q (.ref p) (upd H p (.tup vs)) :=
  h _ _ (Same.new hp) (RepR.plain ⟨p, vs, rfl, .inl (.inl upd_same), RepPs.kt (Same.kt (Same.new hp)) _ _ r⟩)
def fTuple : List D → Rn Unit R
  | [.p (.tup xs)] => .ok (.own (.p (.tup xs)))
  | [.lst xs] => .ok (.own (.p (.tup xs)))
  | _ => .bad
theorem cg_tuple : CallG K (fun xs H Q => ∃ p ys, xs = [.ref p] ∧ ((SqL K H p ys ∧ ∀ l, H l = none → Q (.ref l) (upd H l (.tup ys))) ∨ (SqT K H p ys ∧ Q (.ref p) H))) fTuple := by
  intro H ds vs Q E hl h
  unfold fTuple at h
  split at h
  · rename_i xs
    obtain ⟨v, fp, rfl, r⟩ := hl.one
    obtain ⟨⟨a, vs, rfl, q, r⟩, _⟩ := r
    exact ⟨a, vs, rfl, .inr ⟨q, RepP.up h ⟨a, vs, rfl, q, r⟩⟩⟩
  · rename_i xs
    obtain ⟨v, fp, rfl, r⟩ := hl.one
    obtain ⟨a, vs, rfl, q, _, r⟩ := r
    exact ⟨a, vs, rfl, .inl ⟨SqL.of q, fun l hl => up_tup h r hl⟩⟩
  · exact h.elim
def fList : List D → Rn Unit R
  | [.p (.tup xs)] => .ok (.own (.lst xs))
  | [.lst xs] => .ok (.own (.lst xs))
  | _ => .bad
theorem cg_list : CallG K (fun xs H Q => ∃ p ys, xs = [.ref p] ∧ (SqL K H p ys ∨ SqT K H p ys) ∧ ∀ l, H l = none → Q (.ref l) (upd H l (.lst ys))) fList := by
  intro H ds vs Q E hl h
  unfold fList at h
  split at h
  · rename_i xs
    obtain ⟨v, fp, rfl, r⟩ := hl.one
    obtain ⟨⟨a, vs, rfl, q, r⟩, _⟩ := r
    exact ⟨a, vs, rfl, .inr q, fun l hl => up_lst h r hl⟩
  · rename_i xs
    obtain ⟨v, fp, rfl, r⟩ := hl.one
    obtain ⟨a, vs, rfl, q, _, r⟩ := r
    exact ⟨a, vs, rfl, .inl (SqL.of q), fun l hl => up_lst h r hl⟩
  · exact h.elim
def fAbs : List D → Rn Unit R
  | [.p (.int i)] => .ok (.own (.p (.int (if i < 0 then -i else i))))
  | _ => .bad
theorem cg_abs : CallG K (fun xs H Q => ∃ i, xs = [.int i] ∧ Q (.int (if i < 0 then -i else i)) H) fAbs := by
  intro H ds vs Q E hl h
  unfold fAbs at h
  split at h
  · rename_i i
    obtain ⟨v, fp, rfl, r⟩ := hl.one
    obtain rfl : v = .int i := r.1
    exact ⟨i, rfl, RepP.up h rfl⟩
  · exact h.elim
def fInt1 : List D → Rn Unit R
  | [.p (.int i)] => .ok (.own (.p (.int i)))
  | [.p (.bl k)] => .ok (.own (.p (.int (if k then 1 else 0))))
  | _ => .bad
theorem cg_int : CallG K (fun xs H Q => (∃ i, xs = [.int i] ∧ Q (.int i) H) ∨ ∃ k, xs = [.bl k] ∧ Q (.int (if k then 1 else 0)) H) fInt1 := by
  intro H ds vs Q E hl h
  unfold fInt1 at h
  split at h
  · rename_i i
    obtain ⟨v, fp, rfl, r⟩ := hl.one
    obtain rfl : v = .int i := r.1
    exact .inl ⟨i, rfl, RepP.up h rfl⟩
  · rename_i i
    obtain ⟨v, fp, rfl, r⟩ := hl.one
    obtain rfl : v = .bl i := r.1
    exact .inr ⟨i, rfl, RepP.up h rfl⟩
  · exact h.elim
def fMax2 : List D → Rn Unit R
  | [.p (.int i), .p (.int j)] => .ok (.own (.p (.int (if j > i then j else i))))
  | _ => .bad
def fMin2 : List D → Rn Unit R
  | [.p (.int i), .p (.int j)] => .ok (.own (.p (.int (if j < i then j else i))))
  | _ => .bad
theorem cg_max2 : CallG K (fun xs H Q => ∃ i j, xs = [.int i, .int j] ∧ Q (.int (if j > i then j else i)) H) fMax2 := by
  intro H ds vs Q E hl h
  unfold fMax2 at h
  split at h
  · rename_i i j
    obtain ⟨v, u, fp, gp, rfl, r, r'⟩ := hl.two
    obtain rfl : v = .int i := r.1
    obtain rfl : u = .int j := r'.1
    exact ⟨i, j, rfl, RepP.up h rfl⟩
  · exact h.elim
theorem cg_min2 : CallG K (fun xs H Q => ∃ i j, xs = [.int i, .int j] ∧ Q (.int (if j < i then j else i)) H) fMin2 := by
  intro H ds vs Q E hl h
  unfold fMin2 at h
  split at h
  · rename_i i j
    obtain ⟨v, u, fp, gp, rfl, r, r'⟩ := hl.two
    obtain rfl : v = .int i := r.1
    obtain rfl : u = .int j := r'.1
    exact ⟨i, j, rfl, RepP.up h rfl⟩
  · exact h.elim
/-- the ints of plain data -/
def pInts : List P → Option (List Int)
  | [] => some []
  | .int i :: xs => (pInts xs).map (i :: ·)
  | _ => none
theorem pInts_ok : ∀ {xs : List P} {ns : List Int}, pInts xs = some ns → xs = ns.map P.int
  | [], ns, e => by
    obtain rfl : ([] : List Int) = ns := by simpa [pInts] using e
    rfl
  | x :: xs, ns, e => by
    cases x with
    | int i =>
      simp only [pInts] at e
      cases z : pInts xs with
      | none => rw [z] at e; cases e
      | some ms =>
        rw [z] at e
        obtain rfl := Option.some.inj e
        rw [pInts_ok z]
        rfl
    | _ => simp [pInts] at e
@[simp] theorem pInts_map (ns : List Int) : pInts (ns.map P.int) = some ns := by
  induction ns with
  | nil => rfl
  | cons n ns ih => simp [pInts, ih]
def pBls : List P → Option (List Bool)
  | [] => some []
  | .bl i :: xs => (pBls xs).map (i :: ·)
  | _ => none
theorem pBls_ok : ∀ {xs : List P} {ns : List Bool}, pBls xs = some ns → xs = ns.map P.bl
  | [], ns, e => by
    obtain rfl : ([] : List Bool) = ns := by simpa [pBls] using e
    rfl
  | x :: xs, ns, e => by
    cases x with
    | bl i =>
      simp only [pBls] at e
      cases z : pBls xs with
      | none => rw [z] at e; cases e
      | some ms =>
        rw [z] at e
        obtain rfl := Option.some.inj e
        rw [pBls_ok z]
        rfl
    | _ => simp [pBls] at e
@[simp] theorem pBls_map (ns : List Bool) : pBls (ns.map P.bl) = some ns := by
  induction ns with
  | nil => rfl
  | cons n ns ih => simp [pBls, ih]
def pStrs : List P → Option (List Str)
  | [] => some []
  | .str i :: xs => (pStrs xs).map (i :: ·)
  | _ => none
theorem pStrs_ok : ∀ {xs : List P} {ns : List Str}, pStrs xs = some ns → xs = ns.map P.str
  | [], ns, e => by
    obtain rfl : ([] : List Str) = ns := by simpa [pStrs] using e
    rfl
  | x :: xs, ns, e => by
    cases x with
    | str i =>
      simp only [pStrs] at e
      cases z : pStrs xs with
      | none => rw [z] at e; cases e
      | some ms =>
        rw [z] at e
        obtain rfl := Option.some.inj e
        rw [pStrs_ok z]
        rfl
    | _ => simp [pStrs] at e
@[simp] theorem pStrs_map (ns : List Str) : pStrs (ns.map P.str) = some ns := by
  induction ns with
  | nil => rfl
  | cons n ns ih => simp [pStrs, ih]
def fSum : List D → Rn Unit R
  | [.lst xs] => match pInts xs with
    | some ns => .ok (.own (.p (.int ns.sum)))
    | none => .bad
  | _ => .bad
theorem cg_sum : CallG K (rSum K) fSum := by
  intro H ds vs Q E hl h
  unfold fSum at h
  split at h
  · rename_i xs
    split at h
    · rename_i ns e
      obtain ⟨v, fp, rfl, r⟩ := hl.one
      obtain ⟨a, vs, rfl, q, _, r⟩ := r
      obtain rfl := pInts_ok e
      obtain rfl := r.int
      exact ⟨a, ns, rfl, SqL.of q, RepP.up h rfl⟩
    · exact h.elim
  · exact h.elim
def fAnyAll (f : List Bool → Bool) : List D → Rn Unit R
  | [.lst xs] => match pBls xs with
    | some ns => .ok (.own (.p (.bl (f ns))))
    | none => .bad
  | _ => .bad
theorem cg_any : CallG K (rAny K) (fAnyAll fun bs => bs.any id) := by
  intro H ds vs Q E hl h
  unfold fAnyAll at h
  split at h
  · rename_i xs
    split at h
    · rename_i ns e
      obtain ⟨v, fp, rfl, r⟩ := hl.one
      obtain ⟨a, vs, rfl, q, _, r⟩ := r
      obtain rfl := pBls_ok e
      obtain rfl := r.bl
      exact ⟨a, ns, rfl, SqL.of q, RepP.up h rfl⟩
    · exact h.elim
  · exact h.elim
theorem cg_all : CallG K (rAll K) (fAnyAll fun bs => bs.all id) := by
  intro H ds vs Q E hl h
  unfold fAnyAll at h
  split at h
  · rename_i xs
    split at h
    · rename_i ns e
      obtain ⟨v, fp, rfl, r⟩ := hl.one
      obtain ⟨a, vs, rfl, q, _, r⟩ := r
      obtain rfl := pBls_ok e
      obtain rfl := r.bl
      exact ⟨a, ns, rfl, SqL.of q, RepP.up h rfl⟩
    · exact h.elim
  · exact h.elim
/-- the greatest, the least of ints -/
def maxL : List Int → Int
  | [] => 0
  | x :: xs => xs.foldl (fun a b => if b > a then b else a) x
def minL : List Int → Int
  | [] => 0
  | x :: xs => xs.foldl (fun a b => if b < a then b else a) x
theorem maxL_fold (xs : List Int) : ∀ x m, m ∈ x :: xs → (∀ y ∈ x :: xs, y ≤ m) → xs.foldl (fun a b => if b > a then b else a) x = m := by
  induction xs with
  | nil => intro x m h1 h2; simp at h1; exact h1.symm
  | cons y xs ih =>
    intro x m h1 h2
    rw [List.foldl_cons]
    refine ih _ m ?_ fun z hz => ?_
    · have hx := h2 x (by simp)
      have hy := h2 y (by simp)
      simp only [List.mem_cons] at h1 ⊢
      rcases h1 with h | h | h
      · by_cases c : y > x
        · omega
        · rw [if_neg c]; exact .inl h
      · by_cases c : y > x
        · rw [if_pos c]; exact .inl h
        · rw [if_neg c]; left; omega
      · exact .inr h
    · have hx := h2 x (by simp)
      have hy := h2 y (by simp)
      simp only [List.mem_cons] at hz
      rcases hz with h | h
      · subst h
        by_cases c : y > x
        · rw [if_pos c]; exact hy
        · rw [if_neg c]; exact hx
      · exact h2 z (by simp [h])
theorem minL_fold (xs : List Int) : ∀ x m, m ∈ x :: xs → (∀ y ∈ x :: xs, m ≤ y) → xs.foldl (fun a b => if b < a then b else a) x = m := by
  induction xs with
  | nil => intro x m h1 h2; simp at h1; exact h1.symm
  | cons y xs ih =>
    intro x m h1 h2
    rw [List.foldl_cons]
    refine ih _ m ?_ fun z hz => ?_
    · have hx := h2 x (by simp)
      have hy := h2 y (by simp)
      simp only [List.mem_cons] at h1 ⊢
      rcases h1 with h | h | h
      · by_cases c : y < x
        · omega
        · rw [if_neg c]; exact .inl h
      · by_cases c : y < x
        · rw [if_pos c]; exact .inl h
        · rw [if_neg c]; left; omega
      · exact .inr h
    · have hx := h2 x (by simp)
      have hy := h2 y (by simp)
      simp only [List.mem_cons] at hz
      rcases hz with h | h
      · subst h
        by_cases c : y < x
        · rw [if_pos c]; exact hy
        · rw [if_neg c]; exact hx
      · exact h2 z (by simp [h])
def fMaxL : List D → Rn Unit R
  | [.lst xs] => match pInts xs with
    | some ns => if 0 < ns.length then .ok (.own (.p (.int (maxL ns)))) else .bad
    | none => .bad
  | ds => fMax2 ds
def fMinL : List D → Rn Unit R
  | [.lst xs] => match pInts xs with
    | some ns => if 0 < ns.length then .ok (.own (.p (.int (minL ns)))) else .bad
    | none => .bad
  | ds => fMin2 ds
theorem cg_max : CallG K (fun xs H Q => rMax K xs H Q ∨ ∃ i j, xs = [.int i, .int j] ∧ Q (.int (if j > i then j else i)) H) fMaxL := by
  intro H ds vs Q E hl h
  unfold fMaxL at h
  split at h
  · rename_i xs
    split at h
    · rename_i ns e
      split at h
      · rename_i hn
        obtain ⟨v, fp, rfl, r⟩ := hl.one
        obtain ⟨a, vs, rfl, q, _, r⟩ := r
        obtain rfl := pInts_ok e
        obtain rfl := r.int
        refine .inl ⟨a, ns, rfl, SqL.of q, hn, fun m h1 h2 => ?_⟩
        cases ns with
        | nil => cases h1
        | cons x ns =>
          rw [← maxL_fold ns x m h1 h2]
          exact RepP.up h rfl
      · exact h.elim
    · exact h.elim
  · exact .inr (cg_max2 H ds vs Q E hl h)
theorem cg_min : CallG K (fun xs H Q => rMin K xs H Q ∨ ∃ i j, xs = [.int i, .int j] ∧ Q (.int (if j < i then j else i)) H) fMinL := by
  intro H ds vs Q E hl h
  unfold fMinL at h
  split at h
  · rename_i xs
    split at h
    · rename_i ns e
      split at h
      · rename_i hn
        obtain ⟨v, fp, rfl, r⟩ := hl.one
        obtain ⟨a, vs, rfl, q, _, r⟩ := r
        obtain rfl := pInts_ok e
        obtain rfl := r.int
        refine .inl ⟨a, ns, rfl, SqL.of q, hn, fun m h1 h2 => ?_⟩
        cases ns with
        | nil => cases h1
        | cons x ns =>
          rw [← minL_fold ns x m h1 h2]
          exact RepP.up h rfl
      · exact h.elim
    · exact h.elim
  · exact .inr (cg_min2 H ds vs Q E hl h)
end
section
variable {W : WX} {X : Cx} {a b e : Expr} {es : List Expr} {ga gb gc : GE} {gs : GA} {pos p : Pos}
theorem de_len (hm : X.mg "len" = none) (ha : DA W X (e :: es) gs) (hg : Gl X "len" := by rfl) (he : starEach (e :: es) X.env = (false, eval e X.env) :: starEach es X.env := by rfl) (hpl : (backTo pos (starEach es X.env)).any (·.1) = false := by rfl) : DE W X (.Call (.Name "len" p) (e :: es) [] pos) (gCall fLen gs) :=
  de_callB call_lenA cg_len hm PySem.boot_len ha hg (he := he) (hpl := hpl)
end
end DL
/-! DLf: statements, defs, calls. -/
namespace DL
open PySem PySem.Spec PyProof.Rows L2

section
variable {K : PySem.W.Frag} {B H H' : Hp} {ex : Option Addr} {Rg : Rgs ex}
theorem SlotsR.mem : ∀ {δ : Sl} {σ : L2.St} {fp : List Addr}, SlotsR K Rg H δ σ fp → ∀ a ∈ fp, H a ≠ none
  | [], _, _, h => fun a ha => by rw [h.2] at ha; cases ha
  | s :: δ, _, _, h => fun b hb => by
    obtain ⟨ov, r, f, g, rfl, rfl, h1, h2⟩ := h
    rcases List.mem_append.mp hb with z | z
    · cases s with
      | no => rw [h1] at z; cases z
      | own d => obtain ⟨v, _, q⟩ := h1; exact q.mem b z
      | bor t d => rw [h1.1] at z; cases z
      | exn => rw [h1.1] at z; cases z
    · exact SlotsR.mem h2 b z
theorem SlotsR.ntup : ∀ {δ : Sl} {σ : L2.St} {fp : List Addr}, SlotsR K Rg H δ σ fp → ∀ a ∈ fp, ¬ Fast H a
  | [], _, _, h => fun a ha => by rw [h.2] at ha; cases ha
  | s :: δ, _, _, h => fun b hb => by
    obtain ⟨ov, r, f, g, rfl, rfl, h1, h2⟩ := h
    rcases List.mem_append.mp hb with z | z
    · cases s with
      | no => rw [h1] at z; cases z
      | own d => obtain ⟨v, _, q⟩ := h1; exact q.ntup b z
      | bor t d => rw [h1.1] at z; cases z
      | exn => rw [h1.1] at z; cases z
    · exact SlotsR.ntup h2 b z
/-- a name is stored: new data -/
theorem SRel.set {σ : L2.St} {δ : Sl} {i : Nat} {v : V} {d : D} {fp : List Addr} (S0 : SRel K B Rg σ H δ) (s : Same H H') (r : RepD K H' d v fp) (n : fp.Nodup) (f : ∀ a ∈ fp, H a = none) : SRel K B Rg (σ.set i (some v)) H' (δ.set i (.own d)) := by
  have S1 := S0.grow s
  obtain ⟨b, u, gp, q, gn, gf⟩ := S1
  have hl := q.len
  by_cases hi : i < δ.length
  · obtain ⟨b0, u0, fp0, z0, n0, f0⟩ := S0
    have z1 := z0.kt (Same.kt s) (fun _ a _ o e => s a o e) (fun a _ o e => s a o e)
    obtain ⟨fp', q1, q2, q3⟩ := SlotsR.set (v := some v) (s := .own d) (f' := fp) ⟨v, rfl, r⟩ i hi z1 n0 n (fun a ha hb => z0.mem a hb (f a ha))
    refine ⟨b, u, fp', q1, q2, fun a ha => ?_⟩
    rcases q3 a ha with z | z
    · exact f0 a z
    · exact b0.free (f a z)
  · rw [List.set_eq_of_length_le (by omega), List.set_eq_of_length_le (by omega)]
    exact ⟨b, u, gp, q, gn, gf⟩
/-- a slot is forgotten -/
theorem SlotsR.drop1 : ∀ {δ : Sl} {σ : L2.St} {fp : List Addr} (i : Nat), SlotsR K Rg H δ σ fp → fp.Nodup → ∃ fp', SlotsR K Rg H (δ.set i .no) σ fp' ∧ fp'.Nodup ∧ ∀ a ∈ fp', a ∈ fp
  | [], _, _, i, h, n => ⟨_, by simpa using h, n, fun _ z => z⟩
  | s :: δ, _, _, 0, h, n => by
    obtain ⟨ov, r, f, g, rfl, rfl, h1, h2⟩ := h
    rw [List.nodup_append] at n
    exact ⟨g, ⟨ov, r, [], g, rfl, rfl, rfl, h2⟩, n.2.1, fun a ha => by simp [ha]⟩
  | s :: δ, _, _, i + 1, h, n => by
    obtain ⟨ov, r, f, g, rfl, rfl, h1, h2⟩ := h
    rw [List.nodup_append] at n
    obtain ⟨fp', q1, q2, q3⟩ := SlotsR.drop1 i h2 n.2.1
    refine ⟨f ++ fp', ⟨ov, r, f, fp', rfl, rfl, h1, q1⟩, ?_, fun a ha => ?_⟩
    · rw [List.nodup_append]
      exact ⟨n.1, q2, fun a ha b hb e => n.2.2 a ha b (q3 b hb) e⟩
    · rcases List.mem_append.mp ha with z | z
      · simp [z]
      · simp [q3 a z]
/-- a slot's data is changed in place -/
theorem SlotsR.change {d : D} : ∀ {δ : Sl} {σ : L2.St} {fp : List Addr} (i : Nat), SlotsR K Rg H δ σ fp → fp.Nodup → δ[i]? = some (.own d) →
    (∀ t a, Rg t a ≠ none → a ∉ fp) →
    ∃ v f, σ[i]? = some (some v) ∧ RepD K H d v f ∧ (∀ a ∈ f, a ∈ fp) ∧ f.Nodup ∧
      ∀ (H' : Hp) (d' : D) (f' : List Addr), KT H H' → (∀ a o, a ∉ f → H a = some o → H' a = some o) → RepD K H' d' v f' → f'.Nodup → (∀ a ∈ f', a ∈ f ∨ H a = none) →
        ∃ fp', SlotsR K Rg H' (δ.set i (.own d')) σ fp' ∧ fp'.Nodup ∧ ∀ a ∈ fp', a ∈ fp ∨ a ∈ f'
  | [], _, _, i, _, _, e, _ => by simp at e
  | s :: δ, _, _, 0, h, n, e, hr => by
    obtain ⟨ov, r, f, g, rfl, rfl, h1, h2⟩ := h
    obtain rfl : s = .own d := by simpa using e
    obtain ⟨v, rfl, rd⟩ := h1
    rw [List.nodup_append] at n
    refine ⟨v, f, rfl, rd, fun a ha => by simp [ha], n.1, fun H' d' f' kt kp rd' n' hf => ?_⟩
    have h2' : SlotsR K Rg H' δ r g := SlotsR.kt kt (fun t a ra o e => kp a o (fun z => hr t a ra (by simp [z])) e) (fun a ha o e => kp a o (fun z => n.2.2 a z a ha rfl) e) h2
    refine ⟨f' ++ g, ⟨some v, r, f', g, rfl, rfl, ⟨v, rfl, rd'⟩, h2'⟩, ?_, fun a ha => ?_⟩
    · rw [List.nodup_append]
      refine ⟨n', n.2.1, fun a ha b hb e => ?_⟩
      subst e
      rcases hf a ha with z | z
      · exact n.2.2 a z a hb rfl
      · exact h2.mem a hb z
    · rcases List.mem_append.mp ha with z | z
      · exact .inr z
      · exact .inl (by simp [z])
  | s :: δ, _, _, i + 1, h, n, e, hr => by
    obtain ⟨ov, r, f, g, rfl, rfl, h1, h2⟩ := h
    rw [List.nodup_append] at n
    obtain ⟨v, fi, e1, rd, sub, ni, k⟩ := SlotsR.change i h2 n.2.1 (by simpa using e) (fun t a ra z => hr t a ra (by simp [z]))
    refine ⟨v, fi, by simpa using e1, rd, fun a ha => by simp [sub a ha], ni, fun H' d' f' kt kp rd' n' hf => ?_⟩
    obtain ⟨fp', q1, q2, q3⟩ := k H' d' f' kt kp rd' n' hf
    have h1' : SlotR K Rg H' s ov f := SlotR.kt kt (fun t a ra o e => kp a o (fun z => hr t a ra (by simp [sub a z])) e) (fun a ha o e => kp a o (fun z => n.2.2 a ha a (sub a z) rfl) e) h1
    refine ⟨f ++ fp', ⟨ov, r, f, fp', rfl, rfl, h1', q1⟩, ?_, fun a ha => ?_⟩
    · rw [List.nodup_append]
      refine ⟨n.1, q2, fun a ha b hb e => ?_⟩
      subst e
      rcases q3 a hb with z | z
      · exact n.2.2 a ha a z rfl
      · rcases hf a z with z | z
        · exact n.2.2 a ha a (sub a z) rfl
        · cases s with
          | no => rw [h1] at ha; cases ha
          | own d => obtain ⟨_, _, q⟩ := h1; exact q.mem a ha z
          | bor t d => rw [h1.1] at ha; cases ha
          | exn => rw [h1.1] at ha; cases ha
    · rcases List.mem_append.mp ha with z | z
      · exact .inl (by simp [z])
      · rcases q3 a z with z | z
        · exact .inl (by simp [z])
        · exact .inr z
/-- slot i's data is changed in place, at its addresses f alone -/
theorem SRel.change {σ : L2.St} {δ : Sl} {i : Nat} {d : D} (S0 : SRel K B Rg σ H δ) (e : δ[i]? = some (.own d)) : ∃ v f, σ[i]? = some (some v) ∧ RepD K H d v f ∧ f.Nodup ∧ (∀ a ∈ f, B a = none) ∧
    ∀ (H' : Hp) (d' : D) (f' : List Addr), KT H H' → (∀ a o, a ∉ f → H a = some o → H' a = some o) → RepD K H' d' v f' → f'.Nodup → (∀ a ∈ f', a ∈ f ∨ H a = none) → SRel K B Rg σ H' (δ.set i (.own d')) := by
  obtain ⟨b, u, fp, q, n, f⟩ := S0
  have hr : ∀ t a, Rg t a ≠ none → a ∉ fp := fun t a ra z => by
    cases e : Rg t a with
    | none => exact ra e
    | some o => have := u t a o e; rw [f a z] at this; cases this
  obtain ⟨v, fi, e1, rd, sub, ni, k⟩ := SlotsR.change i q n e hr
  refine ⟨v, fi, e1, rd, ni, fun a ha => f a (sub a ha), fun H' d' f' kt kp rd' n' hf => ?_⟩
  obtain ⟨fp', q1, q2, q3⟩ := k H' d' f' kt kp rd' n' hf
  refine ⟨fun a o z => kp a o (fun y => by rw [f a (sub a y)] at z; cases z) (b a o z), u, fp', q1, q2, fun a ha => ?_⟩
  rcases q3 a ha with z | z
  · exact f a z
  · rcases hf a z with z | z
    · exact f a (sub a z)
    · exact b.free z
end
end DL
/-! DLg: statements, defs, calls. -/
namespace DL
open PySem PySem.Spec PyProof.Rows L2

inductive Fl where
  | nx (δ : Sl) | ret (d : D) | bk (δ : Sl) | ct (δ : Sl)
abbrev GS := Sl → Rn Sl Fl
def postR (K : PySem.W.Frag) (B : Hp) (d : D) (Q : VK) : Prop := ∀ v H', Same B H' → (∃ fp, RepD K H' d v fp ∧ fp.Nodup ∧ ∀ a ∈ fp, B a = none) → Q v H'
def postF (K : PySem.W.Frag) (B : Hp) {ex : Option Addr} (Rg : Rgs ex) (D : Ends) : Fl → Prop
  | .nx δ => ∀ σ H, SRel K B Rg σ H δ → D.nx σ H
  | .bk δ => ∀ σ H, SRel K B Rg σ H δ → D.bk σ H
  | .ct δ => ∀ σ H, SRel K B Rg σ H δ → D.ct σ H
  | .ret d => postR K B d D.rt
def postE (c : DC) (B : Hp) (Rg : Rgs c.ex) : Str → Sl → Prop := fun cl δ => ∀ C σ H, c.mg cl = some (.ref C) → SRel c.K B Rg σ H δ → c.W (.ref C) none σ H
def tDS (c : DC) (g : GS) : TS := fun D σ H => ∃ (B : Hp) (Rg : Rgs c.ex) (δ : Sl), SRel c.K B Rg σ H δ ∧ (g δ).wp (postF c.K B Rg D) (postE c B Rg)
def DS (W : WX) (X : Cx) (st : Stmt) (g : GS) : Prop := PS X st (tDS (dc X W) g)
def DSs (W : WX) (X : Cx) (sts : List Stmt) (g : GS) : Prop := PSs X sts (tDS (dc X W) g)
/-- an expression's run within a statement -/
def lift {α : Type} (w : Rn Unit α) (δ : Sl) : Rn Sl α := w.mapErr fun _ => δ
section
variable {c : DC} {σ : L2.St} {H B : Hp} {Rg : Rgs c.ex} {δ : Sl} {D : Ends}
theorem tDS_val {g : GE} {f : R → Rn Sl Fl} (S : SRel c.K B Rg σ H δ) (h : ((lift (g δ) δ).bind f).wp (postF c.K B Rg D) (postE c B Rg)) {Q' : VK}
    (k : ∀ r v H1, Same H H1 → RepR c.K H H1 r v → SRel c.K B Rg σ H1 δ → (f r).wp (postF c.K B Rg D) (postE c B Rg) → Q' v H1) : tD c g σ H Q' :=
  ⟨B, Rg, δ, S, Rn.wp_mono (Rn.wp_mapErr.mp (Rn.wp_bind.mp h)) (fun r q v H1 s1 rv => k r v H1 s1 rv (S.grow s1) q) fun cl _ q C H' e s => q C σ H' e (S.grow s)⟩
theorem tDS_bool {g : GT} {f : Bool → Rn Sl Fl} (S : SRel c.K B Rg σ H δ) (h : ((lift (g δ) δ).bind f).wp (postF c.K B Rg D) (postE c B Rg)) {Q' : Bool → Hp → Prop}
    (k : ∀ b H1, Same H H1 → SRel c.K B Rg σ H1 δ → (f b).wp (postF c.K B Rg D) (postE c B Rg) → Q' b H1) : tDT c g σ H Q' :=
  ⟨B, Rg, δ, S, Rn.wp_mono (Rn.wp_mapErr.mp (Rn.wp_bind.mp h)) (fun r q H1 s1 => k r H1 s1 (S.grow s1) q) fun cl _ q C H' e s => q C σ H' e (S.grow s)⟩
theorem tDS_args {g : GA} {f : List R → Rn Sl Fl} (S : SRel c.K B Rg σ H δ) (h : ((lift (g δ) δ).bind f).wp (postF c.K B Rg D) (postE c B Rg)) {Q' : List V → Hp → Prop}
    (k : ∀ rs vs H1, Same H H1 → RepA c.K H H1 rs vs → SRel c.K B Rg σ H1 δ → (f rs).wp (postF c.K B Rg D) (postE c B Rg) → Q' vs H1) : tDA c g σ H Q' :=
  ⟨B, Rg, δ, S, Rn.wp_mono (Rn.wp_mapErr.mp (Rn.wp_bind.mp h)) (fun r q vs H1 s1 rv => k r vs H1 s1 rv (S.grow s1) q) fun cl _ q C H' e s => q C σ H' e (S.grow s)⟩
end
def gNext : GS := fun δ => .ok (.nx δ)
def gSeq (a b : GS) : GS := fun δ => (a δ).bind fun
  | .nx δ' => b δ'
  | fl => .ok fl
section
variable {W : WX} {X : Cx} {a b e : Expr} {es : List Expr} {ga gb gc : GE} {gs : GA} {gt : GT} {g1 g2 : GS} {st : Stmt} {sts : List Stmt} {pos : Pos}
theorem dss_nil : DSs W X [] gNext := PSs.imp pss_nil fun D σ H ⟨B, Rg, δ, S0, w⟩ => w σ H S0
theorem dss_cons (h1 : DS W X st g1) (h2 : DSs W X sts g2) : DSs W X (st :: sts) (gSeq g1 g2) := by
  refine PSs.imp (pss_cons h1 h2) fun D σ H ⟨B, Rg, δ, S0, w⟩ => ?_
  refine ⟨B, Rg, δ, S0, Rn.wp_mono (Rn.wp_bind.mp w) (fun fl q => ?_) fun _ _ q => q⟩
  cases fl with
  | nx δ' => exact fun σ' H' S' => ⟨B, Rg, δ', S', q⟩
  | ret d => exact q
  | bk δ' => exact q
  | ct δ' => exact q
theorem dss_one (h1 : DS W X st g1) : DSs W X [st] g1 := pss_one h1
theorem ds_pass : DS W X (.Pass pos) gNext := PS.imp ps_pass fun D σ H ⟨B, Rg, δ, S0, w⟩ => w σ H S0
def gBk : GS := fun δ => .ok (.bk δ)
def gCt : GS := fun δ => .ok (.ct δ)
theorem ds_break : DS W X (.Break pos) gBk := PS.imp ps_break fun D σ H ⟨B, Rg, δ, S0, w⟩ => w σ H S0
theorem ds_continue : DS W X (.Continue pos) gCt := PS.imp ps_continue fun D σ H ⟨B, Rg, δ, S0, w⟩ => w σ H S0
def gIfS (t : GT) (a b : GS) : GS := fun δ => (lift (t δ) δ).bind fun k => if k = true then a δ else b δ
theorem ds_if {s1 s2 : List Stmt} (hc : DT W X e gt) (ha : DSs W X s1 g1) (hb : DSs W X s2 g2) : DS W X (.If e s1 s2 pos) (gIfS gt g1 g2) := by
  refine PS.imp (ps_if hc ha hb) fun D σ H ⟨B, Rg, δ, S0, w⟩ => ?_
  refine tDS_bool S0 w fun k H1 s1 S1 q => ?_
  cases k with
  | true => rw [if_pos rfl] at q ⊢; exact ⟨B, Rg, δ, S1, q⟩
  | false => rw [if_neg (by decide)] at q ⊢; exact ⟨B, Rg, δ, S1, q⟩
def gRet (ga : GE) : GS := fun δ => (lift (ga δ) δ).bind fun
  | .own d => .ok (.ret d)
  | .vw _ => .bad
theorem ds_ret (ha : DE W X e ga) : DS W X (.Return (some e) pos) (gRet ga) := by
  refine PS.imp (ps_ret ha) fun D σ H ⟨B, Rg, δ, S0, w⟩ => ?_
  refine tDS_val S0 w fun r v H1 s1 rv S1 q => ?_
  cases r with
  | own d =>
    obtain ⟨fp, q1, n, f⟩ := rv
    exact q v H1 S1.same ⟨fp, q1, n, fun a ha => S0.same.free (f a ha)⟩
  | vw d => exact q.elim
def gRetV (i : Nat) : GS := fun δ => match δ[i]? with
  | some (.own d) => .ok (.ret d)
  | some (.bor _ (.p x)) => .ok (.ret (.p x))
  | _ => .bad
theorem ds_retV {i : Nat} {x : Str} {p : Pos} (hN : X.N[i]? = some x) (hv : Vis X.env.scope x) (hd : (x == ("__debug__" : Str)) = false := by decide) (hcd : (x == ("__classdict__" : Str)) = false := by decide) :
    DS W X (.Return (some (.Name x p)) pos) (gRetV i) := by
  refine PS.imp (ps_ret (pe_var hN hv hd hcd)) fun D σ H ⟨B, Rg, δ, S0, w⟩ => ?_
  unfold gRetV at w
  split at w
  · rename_i d e
    obtain ⟨v, f, e1, r, n, ff, _⟩ := S0.change e
    exact ⟨v, e1, w v H S0.same ⟨f, r, n, ff⟩⟩
  · rename_i t x e
    obtain ⟨v, g, e1, r⟩ := S0.slot e (.inr ⟨t, rfl⟩)
    exact ⟨v, e1, w v H S0.same ⟨[], ⟨r.1, rfl⟩, List.nodup_nil, fun _ z => nomatch z⟩⟩
  · exact w.elim
theorem ds_retN : DS W X (.Return none pos) (fun _ => .ok (.ret (.p .non))) := by
  refine PS.imp ps_retN fun D σ H ⟨B, Rg, δ, S0, w⟩ => ?_
  exact w .non H S0.same ⟨[], ⟨rfl, rfl⟩, List.nodup_nil, fun _ z => nomatch z⟩
def gSet (i : Nat) (ga : GE) : GS := fun δ => (lift (ga δ) δ).bind fun
  | .own d => .ok (.nx (δ.set i (.own d)))
  | .vw _ => .bad
theorem ds_set {i : Nat} {x : Str} {p : Pos} (hN : X.N.Nodup) (hi : X.N[i]? = some x) (hx : Loc X.env.scope x) (ha : DE W X e ga) (hs : swapsWith e (some (.Name x p)) pos.line X.env = pure false := by rfl)
    (hf : X.fn x = true ∨ X.env.scope.names.lookup x = some .local := by first | exact .inl rfl | exact .inr rfl | assumption) : DS W X (.Assign [.Name x p] e pos) (gSet i ga) := by
  refine PS.imp (ps_set hN hi hx ha hs hf) fun D σ H ⟨B, Rg, δ, S0, w⟩ => ?_
  refine tDS_val S0 w fun r v H1 s1 rv S1 q => ?_
  cases r with
  | own d =>
    obtain ⟨fp, q1, n, f⟩ := rv
    exact q _ _ (S0.set s1 q1 n f)
  | vw d => exact q.elim
def gExpr (ga : GE) : GS := fun δ => (lift (ga δ) δ).bind fun _ => .ok (.nx δ)
theorem ds_expr (ha : DE W X e ga) (hs : swapsWith e none pos.line X.env = pure false := by rfl) : DS W X (.Expr e pos) (gExpr ga) := by
  refine PS.imp (ps_expr ha hs) fun D σ H ⟨B, Rg, δ, S0, w⟩ => ?_
  exact tDS_val S0 w fun r v H1 s1 rv S1 q => q _ _ S1
end
end DL
/-! DLh: targets, loops. -/
namespace DL
open PySem PySem.Spec PyProof.Rows L2

/-! ### targets -/
inductive Tg where
  | one (i : Nat) | tup (is : List Nat)
def gNms : List Nat → TGs
  | [] => L2.gNil
  | i :: is => L2.gCons (gName i) (gNms is)
def Tg.g (K : PySem.W.Frag) : Tg → TG
  | .one i => gName i
  | .tup is => L2.gTup K is.length (gNms is)
def setAll : List Nat → List D → Sl → Sl
  | i :: is, d :: ds, δ => setAll is ds (δ.set i (.own d))
  | _, _, δ => δ
/-- the slots behind a store of d -/
def Tg.set : Tg → D → Sl → Option Sl
  | .one i, d, δ => some (δ.set i (.own d))
  | .tup is, .p (.tup xs), δ => if xs.length = is.length then some (setAll is (xs.map D.p) δ) else none
  | .tup is, .tp ds, δ => if ds.length = is.length then some (setAll is ds δ) else none
  | _, _, _ => none
section
variable {K : PySem.W.Frag} {B H H' : Hp} {ex : Option Addr} {Rg : Rgs ex}
theorem RepPs.ds : ∀ {xs : List P} {vs : List V}, RepPs K H xs vs → RepDs K H (xs.map D.p) vs []
  | [], _, h => ⟨h, rfl⟩
  | x :: xs, _, h => by
    obtain ⟨v, r, rfl, h1, h2⟩ := h
    exact ⟨v, r, [], [], rfl, rfl, ⟨h1, rfl⟩, RepPs.ds h2⟩
theorem setAll_ok : ∀ (is : List Nat) (ds : List D) (vs : List V) (gp : List Addr) (σ : L2.St) (δ : Sl) (fp : List Addr) (Q : L2.St → Hp → Prop), ds.length = is.length → SlotsR K Rg H δ σ fp → RepDs K H ds vs gp → (fp ++ gp).Nodup →
    (∀ σ' fp', SlotsR K Rg H (setAll is ds δ) σ' fp' → fp'.Nodup → (∀ a ∈ fp', a ∈ fp ++ gp) → Q σ' H) → gNms is vs σ H Q
  | [], [], vs, gp, σ, δ, fp, Q, _, S0, r, n, k => by
    obtain ⟨rfl, rfl⟩ := r
    exact ⟨rfl, k σ fp S0 (by simpa using n) (fun a ha => by simp [ha])⟩
  | i :: is, d :: ds, vs, gp, σ, δ, fp, Q, hl, S0, r, n, k => by
    obtain ⟨v, r, f, g, rfl, rfl, h1, h2⟩ := r
    refine ⟨v, r, rfl, ?_⟩
    have n' := n
    rw [List.nodup_append] at n'
    obtain ⟨n1, n2, n3⟩ := n'
    rw [List.nodup_append] at n2
    by_cases hi : i < δ.length
    · obtain ⟨fp', q1, q2, q3⟩ := SlotsR.set (v := some v) (s := .own d) (f' := f) ⟨v, rfl, h1⟩ i hi S0 n1 n2.1 (fun a ha hb => n3 a hb a (by simp [ha]) rfl)
      refine setAll_ok is ds r g _ _ fp' Q (by simpa using hl) q1 h2 ?_ fun σ' fp'' z1 z2 z3 => k σ' fp'' z1 z2 fun a ha => ?_
      · rw [List.nodup_append]
        refine ⟨q2, n2.2.1, fun a ha b hb e => ?_⟩
        subst e
        rcases q3 a ha with z | z
        · exact n3 a z a (by simp [hb]) rfl
        · exact n2.2.2 a z a hb rfl
      · rcases List.mem_append.mp (z3 a ha) with z | z
        · rcases q3 a z with z | z
          · simp [z]
          · simp [z]
        · simp [z]
    · have hls := S0.len
      have e1 : σ.set i (some v) = σ := List.set_eq_of_length_le (by omega)
      have e2 : δ.set i (.own d) = δ := List.set_eq_of_length_le (by omega)
      show gNms is r (σ.set i (some v)) H Q
      rw [e1]
      refine setAll_ok is ds r g _ _ fp Q (by simpa using hl) S0 h2 ?_ fun σ' fp'' z1 z2 z3 => k σ' fp'' (by show SlotsR K Rg H (setAll is ds (δ.set i (.own d))) σ' fp''; rw [e2]; exact z1) z2 fun a ha => ?_
      · rw [List.nodup_append]
        exact ⟨n1, n2.2.1, fun a ha b hb e => n3 a ha b (by simp [hb]) e⟩
      · rcases List.mem_append.mp (z3 a ha) with z | z
        · simp [z]
        · simp [z]
  | [], d :: ds, _, _, _, _, _, _, hl, _, _, _, _ => by simp at hl
  | i :: is, [], _, _, _, _, _, _, hl, _, _, _, _ => by simp at hl
/-- a store of what was made from H on -/
theorem Tg.ok {t : Tg} {d : D} {δ δ' : Sl} {σ : L2.St} {v : V} {gp : List Addr} {Q : L2.St → Hp → Prop} (S0 : SRel K B Rg σ H δ) (s : Same H H') (r : RepD K H' d v gp) (n : gp.Nodup) (f : ∀ a ∈ gp, H a = none)
    (e : t.set d δ = some δ') (k : ∀ σ', SRel K B Rg σ' H' δ' → Q σ' H') : t.g K v σ H' Q := by
  cases t with
  | one i =>
    obtain rfl := Option.some.inj e
    exact k _ (S0.set s r n f)
  | tup is =>
    have S1 := S0.grow s
    obtain ⟨b, u, fp, q, qn, qf⟩ := S0
    have q1 := q.kt (Same.kt s) (fun _ a _ o e => s a o e) (fun a _ o e => s a o e)
    have nn : (fp ++ gp).Nodup := by
      rw [List.nodup_append]
      exact ⟨qn, n, fun a ha b hb e => by subst e; exact q.mem a ha (f a hb)⟩
    have fin : ∀ σ' fp', SlotsR K Rg H' δ' σ' fp' → fp'.Nodup → (∀ a ∈ fp', a ∈ fp ++ gp) → Q σ' H' := fun σ' fp' z1 z2 z3 => k σ' ⟨b.trans s, u, fp', z1, z2, fun a ha => by
      rcases List.mem_append.mp (z3 a ha) with z | z
      · exact qf a z
      · exact b.free (f a z)⟩
    unfold Tg.set at e
    split at e
    · rename_i e0; cases e0
    · rename_i is' δ'' xs e0
      cases e0
      split at e
      · rename_i hl
        obtain rfl := Option.some.inj e
        obtain ⟨⟨a, vs, rfl, qa, ra⟩, rfl⟩ := r
        exact ⟨a, vs, rfl, qa, by rw [ra.len, hl], setAll_ok is _ vs [] σ _ fp Q (by simpa using hl) q1 ra.ds nn fin⟩
      · cases e
    · rename_i is' δ'' ds e0
      cases e0
      split at e
      · rename_i hl
        obtain rfl := Option.some.inj e
        obtain ⟨a, vs, rfl, qa, ra⟩ := r
        exact ⟨a, vs, rfl, qa, by rw [ra.len, hl], setAll_ok is _ vs gp σ _ fp Q hl q1 ra nn fin⟩
      · cases e
    · cases e
end

theorem gNms_mono {Q Q' : L2.St → Hp → Prop} (k : ∀ σ H, Q σ H → Q' σ H) : ∀ (is : List Nat) (vs : List V) (σ : L2.St) (H : Hp), gNms is vs σ H Q → gNms is vs σ H Q'
  | [], _, _, _, h => ⟨h.1, k _ _ h.2⟩
  | i :: is, _, _, _, h => by
    obtain ⟨v, r, e, h⟩ := h
    exact ⟨v, r, e, gNms_mono k is r _ _ h⟩
theorem Tg.g_mono {K : PySem.W.Frag} {H : Hp} {t : Tg} {v : V} {σ : L2.St} {Q Q' : L2.St → Hp → Prop} (k : ∀ σ H, Q σ H → Q' σ H) (h : t.g K v σ H Q) : t.g K v σ H Q' := by
  cases t with
  | one i => exact k _ _ h
  | tup is =>
    obtain ⟨a, xs, e1, e2, e3, h⟩ := h
    exact ⟨a, xs, e1, e2, e3, gNms_mono k is xs σ H h⟩

/-! ### what a loop walks -/
def Runs (K : PySem.W.Frag) (G : Hp) (J : It) (xs : List P) : Prop := ∀ H', Same G H' → ∀ i, (∀ p, xs[i]? = some p → J.go i H' ∧ ∀ x H'', J.yld i H' x H'' → Same H' H'' ∧ RepP K H'' p x) ∧ (xs.length ≤ i → J.stop i H')
structure Walk (K : PySem.W.Frag) (H0 H : Hp) (J : It) (xs : List P) : Prop where
  ex : ∃ G, Same G H ∧ (∀ a, G a ≠ none → H0 a = none ∨ Fast H a) ∧ Runs K G J xs
/-- the tuples that stand, and what is locked -/
def tupG (H : Hp) : Hp := fun b => match H b with
  | some (.tup xs) => some (.tup xs)
  | some (.frz o u) => some (.frz o u)
  | _ => none
theorem tupG_same (H : Hp) : Same (tupG H) H := fun b o e => by
  unfold tupG at e
  split at e
  · rename_i h; rw [h]; exact e
  · rename_i h; rw [h]; exact e
  · cases e
theorem tupG_rd {H : Hp} {a : Addr} (h : tupG H a ≠ none) : Fast H a := by
  unfold tupG at h
  split at h
  · rename_i xs e; exact .inl ⟨xs, e⟩
  · rename_i o u e; exact .inr ⟨o, u, e⟩
  · exact absurd rfl h
theorem tupG_kt {H H' : Hp} (s : Same (tupG H) H') : KT H H' := ⟨fun a xs h => by
  rcases h with h | ⟨o, h⟩
  · exact .inl (s a _ (by unfold tupG; rw [h]))
  · exact .inr ⟨o, s a _ (by unfold tupG; rw [h])⟩, fun a o u h => s a _ (by unfold tupG; rw [h])⟩
section
variable {K : PySem.W.Frag} {H H0 : Hp}
theorem Walk.range (lo : Int) (n : Nat) : Walk K H0 H (Itr lo n) ((List.range n).map fun (i : Nat) => P.int (lo + (i : Int))) := by
  refine ⟨fun _ => none, (fun _ _ z => by cases z), (fun _ z => absurd rfl z), fun H' _ i => ⟨fun p e => ?_, fun h => (by have h' : n ≤ i := (by simpa using h); exact h')⟩⟩
  simp only [List.getElem?_map, Option.map_eq_some_iff] at e
  obtain ⟨j, ej, rfl⟩ := e
  obtain ⟨hj, ej⟩ := List.getElem?_eq_some_iff.mp ej
  simp at hj ej
  subst ej
  refine ⟨hj, fun x H'' y => ?_⟩
  obtain ⟨rfl, rfl⟩ := y
  exact ⟨Same.refl _, rfl⟩
theorem runs_list {a : Addr} {vs : List V} {xs : List P} (h : H a = some (.lst vs)) (r : RepPs K H xs vs) : ∃ G, Same G H ∧ (∀ b, G b ≠ none → b = a ∨ Fast H b) ∧ Runs K G (Itl K a) xs := by
  refine ⟨upd (tupG H) a (.lst vs), fun b o e => ?_, fun b hb => ?_, fun H' s i => ?_⟩
  · unfold upd at e
    split at e
    · rename_i z; subst z; rw [h]; exact e
    · exact tupG_same H b o e
  · unfold upd at hb
    split at hb
    · rename_i z; exact .inl z
    · exact .inr (tupG_rd hb)
  · have ha : H' a = some (.lst vs) := s a _ upd_same
    have kt : KT H H' := tupG_kt fun b o e => by
      by_cases z : b = a
      · subst z
        have := tupG_same H b o e
        rw [h] at this
        cases this
        exact ha
      · exact s b o (by rw [upd_ne z]; exact e)
    have r' := RepPs.kt kt _ _ r
    refine ⟨fun p ep => ?_, fun hi => ⟨vs, SqL.of ha, by rw [r.len]; exact hi⟩⟩
    obtain ⟨w, e2, q⟩ := r'.get ep
    refine ⟨⟨vs, w, SqL.of ha, e2⟩, fun x H'' y => ?_⟩
    obtain ⟨rfl, y⟩ := y
    have e := y vs (SqL.of ha)
    rw [e] at e2
    obtain rfl := Option.some.inj e2
    exact ⟨Same.refl _, q⟩
theorem Walk.list {a : Addr} {vs : List V} {xs : List P} (h : H a = some (.lst vs)) (h0 : H0 a = none) (r : RepPs K H xs vs) : Walk K H0 H (Itl K a) xs := by
  obtain ⟨G, g1, g2, g3⟩ := runs_list h r
  exact ⟨G, g1, fun b hb => (g2 b hb).imp (fun e => by rw [e]; exact h0) id, g3⟩
theorem Walk.tup {a : Addr} {vs : List V} {xs : List P} (h : SqT K H a vs) (r : RepPs K H xs vs) : Walk K H0 H (Itt K a) xs := by
  refine ⟨tupG H, tupG_same H, fun b hb => .inr (tupG_rd hb), fun H' s i => ?_⟩
  have kt : KT H H' := tupG_kt s
  have ha := kt.sqt h
  have r' := RepPs.kt kt _ _ r
  refine ⟨fun p ep => ?_, fun hi => ⟨vs, ha, by rw [r.len]; exact hi⟩⟩
  obtain ⟨w, e2, q⟩ := r'.get ep
  refine ⟨⟨vs, w, ha, e2⟩, fun x H'' y => ?_⟩
  obtain ⟨rfl, y⟩ := y
  have e := y vs ha
  rw [e] at e2
  obtain rfl := Option.some.inj e2
  exact ⟨Same.refl _, q⟩
theorem Walk.frz {a : Addr} {o : Obj} {vs : List V} {xs : List P} (h : H a = some (.frz o (.lst vs))) (r : RepPs K H xs vs) : Walk K H0 H (Itl K a) xs := by
  refine ⟨tupG H, tupG_same H, fun b hb => .inr (tupG_rd hb), fun H' s i => ?_⟩
  have kt : KT H H' := tupG_kt s
  have ha : SqL K H' a vs := .inl (.inr ⟨o, kt.frz _ _ _ h⟩)
  have r' := RepPs.kt kt _ _ r
  refine ⟨fun p ep => ?_, fun hi => ⟨vs, ha, by rw [r.len]; exact hi⟩⟩
  obtain ⟨w, e2, q⟩ := r'.get ep
  refine ⟨⟨vs, w, ha, e2⟩, fun x H'' y => ?_⟩
  obtain ⟨rfl, y⟩ := y
  have e := y vs ha
  rw [e] at e2
  obtain rfl := Option.some.inj e2
  exact ⟨Same.refl _, q⟩
def signs (z : Str) : List P := z.cps.toList.map fun c => P.str ⟨#[c]⟩
theorem Walk.str (z : Str) : Walk K H0 H (Its z) (signs z) := by
  refine ⟨fun _ => none, (fun _ _ z => by cases z), (fun _ z => absurd rfl z), fun H' _ i => ⟨fun p e => ?_, fun h => (by have h' : z.cps.size ≤ i := (by simpa [signs] using h); exact h')⟩⟩
  simp only [signs, List.getElem?_map, Option.map_eq_some_iff] at e
  obtain ⟨c, ec, rfl⟩ := e
  rw [Array.getElem?_toList] at ec
  refine ⟨(Array.getElem?_eq_some_iff.mp ec).1, fun x H'' y => ?_⟩
  obtain ⟨rfl, c', e', rfl⟩ := y
  rw [ec] at e'
  obtain rfl := Option.some.inj e'
  exact ⟨Same.refl _, rfl⟩
end

/-! ### loops -/
def gForL (t : Tg) (g : GS) : List P → GS
  | [], δ => .ok (.nx δ)
  | x :: xs, δ => match t.set (.p x) δ with
    | some δ1 => (g δ1).bind fun
      | .nx δ' => gForL t g xs δ'
      | .ct δ' => gForL t g xs δ'
      | .bk δ' => .ok (.nx δ')
      | .ret d => .ok (.ret d)
    | none => .bad
section
variable {c : DC} {B : Hp} {Rg : Rgs c.ex} {G : Hp} {D : Ends} {t : Tg} {g : GS} {J : It}
theorem loop_core {σ0 : L2.St} {H0 : Hp} {δ0 : Sl} {xs : List P} (hG : Same G B) (hR : Runs c.K G J xs) (S0 : SRel c.K B Rg σ0 H0 δ0) (w0 : (gForL t g xs δ0).wp (postF c.K B Rg D) (postE c B Rg)) :
    ∃ W : Nat → Nat → L2.St → Hp → Prop, (∃ m, W 0 m σ0 H0) ∧ ∀ i m σ H, W i m σ H → (J.stop i H ∧ D.nx σ H) ∨
      (J.go i H ∧ ∃ N : L2.St → Hp → Prop, (∀ σ' H', N σ' H' → ∃ m', m' < m ∧ W (i + 1) m' σ' H') ∧ ∀ x H', J.yld i H x H' → t.g c.K x σ H' fun σ2 H2 => tDS c g { D with nx := N, ct := N, bk := D.nx } σ2 H2) := by
  refine ⟨fun i m σ H => m = xs.length - i ∧ i ≤ xs.length ∧ ∃ δ, SRel c.K B Rg σ H δ ∧ (gForL t g (xs.drop i) δ).wp (postF c.K B Rg D) (postE c B Rg), ⟨xs.length, by simp, Nat.zero_le _, δ0, S0, by simpa using w0⟩, ?_⟩
  rintro i m σ H ⟨rfl, hi, δ, S1, w⟩
  obtain ⟨r1, r2⟩ := hR H (hG.trans S1.same) i
  by_cases hlt : i < xs.length
  · have ep := List.getElem?_eq_getElem hlt
    obtain ⟨go, yl⟩ := r1 _ ep
    rw [List.drop_eq_getElem_cons hlt] at w
    refine .inr ⟨go, fun σ H => ∃ δ, SRel c.K B Rg σ H δ ∧ (gForL t g (xs.drop (i + 1)) δ).wp (postF c.K B Rg D) (postE c B Rg), fun σ' H' q => ⟨xs.length - (i + 1), by omega, rfl, hlt, q⟩, fun x H' y => ?_⟩
    obtain ⟨s, rp⟩ := yl x H' y
    unfold gForL at w
    split at w
    · rename_i δ1 e1
      refine Tg.ok S1 s (gp := []) (d := .p xs[i]) ⟨rp, rfl⟩ List.nodup_nil (fun _ z => nomatch z) e1 fun σ' S2 => ?_
      refine ⟨B, Rg, δ1, S2, Rn.wp_mono (Rn.wp_bind.mp w) (fun fl q => ?_) fun _ _ q => q⟩
      cases fl with
      | nx δ' => exact fun σ H S => ⟨δ', S, q⟩
      | ct δ' => exact fun σ H S => ⟨δ', S, q⟩
      | bk δ' => exact q
      | ret d => exact q
    · exact w.elim
  · have hn : xs.length ≤ i := by omega
    rw [List.drop_eq_nil_of_le hn] at w
    exact .inl ⟨r2 hn, w σ H S1⟩
/-- more is held -/
theorem SRel.hold {K : PySem.W.Frag} {σ : L2.St} {H0 H : Hp} {δ : Sl} (S0 : SRel K B Rg σ H0 δ) (s : Same H0 H) (hG : Same G H) (hf : ∀ a, G a ≠ none → H0 a = none ∨ Fast H a ∨ B a ≠ none) :
    ∃ B', Same B B' ∧ Same G B' ∧ SRel K B' Rg σ H δ := by
  have S1 := S0.grow s
  obtain ⟨b0, u0, fp, q0, n, f⟩ := S0
  have q1 := q0.kt (Same.kt s) (fun _ a _ o e => s a o e) (fun a _ o e => s a o e)
  refine ⟨fun a => match G a with | some o => some o | none => B a, fun a o e => ?_, fun a o e => by simp only [e], ⟨fun a o e => ?_, fun t a o e => ?_, fp, q1, n, fun a ha => ?_⟩⟩
  · show (match G a with | some o => some o | none => B a) = some o
    cases z : G a with
    | none => exact e
    | some o' =>
      have h1 := hG a o' z
      have h2 := S1.same a o e
      rw [h1] at h2
      exact h2
  · have e' : (match G a with | some o => some o | none => B a) = some o := e
    cases z : G a with
    | none => rw [z] at e'; exact S1.same a o e'
    | some o' => rw [z] at e'; obtain rfl := Option.some.inj e'; exact hG a _ z
  · show (match G a with | some o => some o | none => B a) = some o
    cases z : G a with
    | none => exact u0 t a o e
    | some o' =>
      have h1 := hG a o' z
      have h2 := S1.same a o (u0 t a o e)
      rw [h1] at h2
      exact h2
  · show (match G a with | some o => some o | none => B a) = none
    cases z : G a with
    | none => exact f a ha
    | some o' =>
      exfalso
      rcases hf a (by rw [z]; exact fun z => nomatch z) with y | y | y
      · exact q0.mem a ha y
      · exact q1.ntup a ha y
      · exact y (f a ha)
theorem SRel.unhold {K : PySem.W.Frag} {B' : Hp} {σ : L2.St} {H : Hp} {δ : Sl} (S : SRel K B' Rg σ H δ) (b : Same B B') (u : ∀ t, Same (Rg t) B) : SRel K B Rg σ H δ := by
  obtain ⟨b1, u1, fp, q, n, f⟩ := S
  exact ⟨b.trans b1, u, fp, q, n, fun a ha => b.free (f a ha)⟩
theorem postF_hold {K : PySem.W.Frag} {B' : Hp} (b : Same B B') (u : ∀ t, Same (Rg t) B) {fl : Fl} (q : postF K B Rg D fl) : postF K B' Rg D fl := by
  cases fl with
  | nx δ => exact fun σ H S => q σ H (S.unhold b u)
  | bk δ => exact fun σ H S => q σ H (S.unhold b u)
  | ct δ => exact fun σ H S => q σ H (S.unhold b u)
  | ret d => exact fun v H' s ⟨fp, r, n, f⟩ => q v H' (b.trans s) ⟨fp, r, n, fun a ha => b.free (f a ha)⟩
theorem postE_hold {B' : Hp} (b : Same B B') (u : ∀ t, Same (Rg t) B) {cl : Str} {δ : Sl} (q : postE c B Rg cl δ) : postE c B' Rg cl δ := fun C σ H e S => q C σ H e (S.unhold b u)
end
/-- what a for or a comprehension walks, as data -/
abbrev GI := Sl → Rn Unit (List P)
def tDI (c : DC) (g : GI) : TI := fun σ H R => ∃ (B : Hp) (Rg : Rgs c.ex) (δ : Sl), SRel c.K B Rg σ H δ ∧
  (g δ).wp (fun xs => ∀ J H', Same H H' → Walk c.K H H' J xs → R J H') fun cl _ => ∀ C H', c.mg cl = some (.ref C) → Same H H' → c.W (.ref C) none σ H'
def DI (W : WX) (X : Cx) (tg iter : Expr) (g : GI) : Prop := PI X tg iter (tDI (dc X W) g)
theorem PI.imp {X : Cx} {tg iter : Expr} {t t' : TI} (h : PI X tg iter t) (m : ∀ σ H R, t' σ H R → t σ H R) : PI X tg iter t' := ⟨fun pins s σ H R I q => h.run pins s σ H R I (m σ H R q)⟩
section
variable {W : WX} {X : Cx} {a b e tg iter : Expr} {es : List Expr} {ga gb gc : GE} {gs : GA} {gt : GT} {gi : GI} {g1 g2 : GS} {st : Stmt} {sts body : List Stmt} {pos p : Pos}
def iSeq (K : PySem.W.Frag) (tl : TE) : TI := fun σ H R => tl σ H fun x H1 => (∃ a, x = .ref a ∧ (∃ xs, SqL K H1 a xs) ∧ R (Itl K a) H1) ∨ (∃ a, x = .ref a ∧ (∃ xs, SqT K H1 a xs) ∧ R (Itt K a) H1) ∨ ∃ z, x = .str z ∧ R (Its z) H1
theorem pi_seq {l : Expr} {tl : TE} (hl : PE X l tl) : PI X tg l (iSeq X.K tl) := by
  refine ⟨fun pins s σ H R I h => ?_⟩
  refine thn (hl.run pins s σ H _ I h) fun v s1 ⟨x, H1, I1, r1, q1⟩ => ?_
  rcases q1 with ⟨a, rfl, ⟨xs, hq⟩, q⟩ | ⟨a, rfl, ⟨xs, hq⟩, q⟩ | ⟨z, rfl, q⟩
  · cases r1
    obtain ⟨its, rv, p, hz⟩ := I1.list hq
    refine wpAny_pyIter_list p.isList ?_
    exact pi_one (tk := s1.toks) I1 _ (turn_list a _) ⟨_, Heap.get?_push_size _ rfl, rfl, rfl⟩ q
  · cases r1
    obtain ⟨its, rv, p, hz⟩ := I1.tuple hq
    refine wpAny_pyIter_tuple (show s1.heap.IsTuple a its.toArray from p) ?_
    exact pi_one (tk := s1.toks) I1 _ (turn_tuple a _) ⟨_, Heap.get?_push_size _ rfl, rfl, rfl⟩ q
  · obtain ⟨t, rfl⟩ := r1
    cases ha : z.cps.all (· < 128)
    · exact wpAny_pyIter_wide ha (pi_one (tk := s1.toks) I1 _ (turn_str _ z t "str_iterator" (.inr rfl)) ⟨_, Heap.get?_push_size _ rfl, rfl, rfl⟩ q)
    · exact wpAny_pyIter_ascii ha (pi_one (tk := s1.toks) I1 _ (turn_str _ z t "str_ascii_iterator" (.inl rfl)) ⟨_, Heap.get?_push_size _ rfl, rfl, rfl⟩ q)
def R.items : R → Option (List P)
  | .own (.p (.tup xs)) => some xs
  | .vw (.p (.tup xs)) => some xs
  | .own (.p (.str z)) => some (signs z)
  | .vw (.p (.str z)) => some (signs z)
  | .own (.lst xs) => some xs
  | _ => none
def gSeqI (ga : GE) : GI := fun δ => (ga δ).bind fun r => match r.items with
  | some xs => .ok xs
  | none => .bad
theorem di_seq (ha : DE W X e ga) : DI W X tg e (gSeqI ga) := by
  refine PI.imp (pi_seq ha) fun σ H Rk ⟨B, Rg, δ, S0, w⟩ => ?_
  refine ⟨B, Rg, δ, S0, Rn.wp_mono (Rn.wp_bind.mp w) (fun r q v H1 s1 rv => ?_) fun _ _ q => q⟩
  split at q
  · rename_i xs e
    unfold R.items at e
    split at e
    · obtain rfl := Option.some.inj e
      obtain ⟨a, vs, rfl, qa, ra⟩ := rv.getP rfl
      exact .inr (.inl ⟨a, rfl, ⟨vs, qa⟩, q _ H1 s1 (.tup qa ra)⟩)
    · obtain rfl := Option.some.inj e
      obtain ⟨a, vs, rfl, qa, ra⟩ := rv.getP rfl
      exact .inr (.inl ⟨a, rfl, ⟨vs, qa⟩, q _ H1 s1 (.tup qa ra)⟩)
    · rename_i z
      obtain rfl := Option.some.inj e
      obtain rfl : v = .str z := rv.getP rfl
      exact .inr (.inr ⟨z, rfl, q _ H1 s1 (.str z)⟩)
    · rename_i z
      obtain rfl := Option.some.inj e
      obtain rfl : v = .str z := rv.getP rfl
      exact .inr (.inr ⟨z, rfl, q _ H1 s1 (.str z)⟩)
    · obtain rfl := Option.some.inj e
      obtain ⟨fp, ⟨a, vs, rfl, qa, rfl, ra⟩, n, f⟩ := rv
      exact .inl ⟨a, rfl, ⟨vs, SqL.of qa⟩, q _ H1 s1 (.list qa (f a (by simp)) ra)⟩
    · cases e
  · exact q.elim
def rangeP (lo hi : Int) : List P := (List.range (hi - lo).toNat).map fun (i : Nat) => P.int (lo + (i : Int))
def fRange1 : List D → Rn Unit (List P)
  | [.p (.int j)] => if -(2 ^ 62) ≤ j ∧ j < 2 ^ 62 then .ok (rangeP 0 j) else .bad
  | _ => .bad
def fRange2 : List D → Rn Unit (List P)
  | [.p (.int i), .p (.int j)] => if -(2 ^ 62) ≤ i ∧ i < 2 ^ 62 ∧ -(2 ^ 62) ≤ j ∧ j < 2 ^ 62 then .ok (rangeP i j) else .bad
  | _ => .bad
def gRangeI (f : List D → Rn Unit (List P)) (gs : GA) : GI := fun δ => (gs δ).bind fun rs => f (rs.map R.d)
theorem di_range1 (hm : X.mg "range" = none) (ha : DA W X [a] gs) (hg : Gl X "range" := by rfl) (hs : starEach [a] X.env = [(false, eval a X.env)] := by rfl) : DI W X tg (.Call (.Name "range" p) [a] [] pos) (gRangeI fRange1 gs) := by
  refine PI.imp (pi_range1 hg hm ha hs) fun σ H Rk ⟨B, Rg, δ, S0, w⟩ => ?_
  refine ⟨B, Rg, δ, S0, Rn.wp_mono (Rn.wp_bind.mp w) (fun rs q vs H1 s1 ra => ?_) fun _ _ q => q⟩
  obtain ⟨fp, r, _⟩ := ra
  have lk := r.look
  generalize rs.map R.d = ds at lk q
  unfold fRange1 at q
  split at q
  · rename_i j
    obtain ⟨v, fp1, rfl, rr⟩ := lk.one
    obtain rfl : v = .int j := rr.1
    split at q
    · rename_i hz
      refine ⟨j, rfl, hz.1, hz.2, q _ H1 s1 ?_⟩
      have := Walk.range (K := X.K) (H0 := H) (H := H1) 0 j.toNat
      unfold rangeP
      rw [Int.sub_zero]
      exact this
    · exact q.elim
  · exact q.elim
theorem di_range2 (hm : X.mg "range" = none) (ha : DA W X [a, b] gs) (hg : Gl X "range" := by rfl) (hs : starEach [a, b] X.env = [(false, eval a X.env), (false, eval b X.env)] := by rfl) (hs2 : starEach [b] X.env = [(false, eval b X.env)] := by rfl) : DI W X tg (.Call (.Name "range" p) [a, b] [] pos) (gRangeI fRange2 gs) := by
  refine PI.imp (pi_range2 hg hm ha hs hs2) fun σ H Rk ⟨B, Rg, δ, S0, w⟩ => ?_
  refine ⟨B, Rg, δ, S0, Rn.wp_mono (Rn.wp_bind.mp w) (fun rs q vs H1 s1 ra => ?_) fun _ _ q => q⟩
  obtain ⟨fp, r, _⟩ := ra
  have lk := r.look
  generalize rs.map R.d = ds at lk q
  unfold fRange2 at q
  split at q
  · rename_i i j
    obtain ⟨v, u, fp1, gp, rfl, rr, rr'⟩ := lk.two
    obtain rfl : v = .int i := rr.1
    obtain rfl : u = .int j := rr'.1
    split at q
    · rename_i hz
      exact ⟨i, j, rfl, hz, q _ H1 s1 (Walk.range _ _)⟩
    · exact q.elim
  · exact q.elim
/-- for t in iter: body -/
def gFor (t : Tg) (gi : GI) (g : GS) : GS := fun δ => (lift (gi δ) δ).bind fun xs => gForL t g xs δ
theorem ds_for {t : Tg} (hp : PassesOwn (model X.prog X.w) X.A X.env X.xe) (hc : X.calm = true) (hi : DI W X tg iter gi) (hg : PG X tg (t.g X.K)) (hb : DSs W X body g1)
    (hs : ∀ x, foldedSetIterable iter X.env x = pure x := by intro _; rfl) : DS W X (.For tg iter body [] pos) (gFor t gi g1) := by
  refine PS.imp (ps_for hp hc hi hg hb hs) fun D σ H ⟨B, Rg, δ, S0, w⟩ => ?_
  refine ⟨B, Rg, δ, S0, Rn.wp_mono (Rn.wp_mapErr.mp (Rn.wp_bind.mp w)) (fun xs q J H1 s1 wk => ?_) fun cl _ q C H' e s => q C σ H' e (S0.grow s)⟩
  obtain ⟨G, hG, hf, hR⟩ := wk.ex
  obtain ⟨B', b1, b2, S1⟩ := S0.hold s1 hG (fun a ha => (hf a ha).imp id .inl)
  exact loop_core b2 hR S1 (Rn.wp_mono q (fun fl q => postF_hold b1 S0.sub q) fun cl δ q => postE_hold b1 S0.sub q)
end
end DL
/-! DLi: comprehensions; append, stores to places; unpacking; while; raise; defs and their calls. -/
namespace DL
open PySem PySem.Spec PyProof.Rows L2

/-! ### comprehensions -/
def Rn.noErr {α : Type} : Rn Unit α → Rn Unit α
  | .ok a => .ok a
  | .err _ _ => .bad
  | .bad => .bad
  | .pick n k => .pick n fun i => (k i).noErr
theorem Rn.wp_noErr {α : Type} {w : Rn Unit α} {Q : α → Prop} {E E' : Str → Unit → Prop} (h : w.noErr.wp Q E) : w.wp Q E' := by
  induction w with
  | ok a => exact h
  | err c e => exact h.elim
  | bad => exact h
  | pick n k ih => exact fun i hi => ih i (h i hi)
def wipeS (δ : Sl) : List Nat → Sl
  | [] => δ
  | v :: vs => (wipeS δ vs).set v .no
def Tg.idx : Tg → List Nat
  | .one i => [i]
  | .tup is => is
/-- the items of [elt for t in xs if test] -/
def lcL (t : Tg) (gt : GT) (ge : GE) (δ : Sl) : List P → List P → Rn Unit (List P)
  | [], acc => .ok acc
  | x :: xs, acc => match t.set (.p x) δ with
    | some δ1 => (gt δ1).noErr.bind fun k => if k = true then (ge δ1).noErr.bind fun r => match r.d with
        | .p y => if acc.length < sizeLine then lcL t gt ge δ xs (acc ++ [y]) else .bad
        | _ => .bad
      else lcL t gt ge δ xs acc
    | none => .bad
def gLc (t : Tg) (vs : List Nat) (gi : GI) (gt : GT) (ge : GE) : GE := fun δ => (gi δ).bind fun xs => (lcL t gt ge (wipeS δ vs) xs []).bind fun ys => .ok (.own (.lst ys))
def W0 : WX := fun _ _ _ _ => False
section
variable {K : PySem.W.Frag} {B H H' : Hp} {ex : Option Addr} {Rg : Rgs ex}
theorem SRel.drop1 {σ : L2.St} {δ : Sl} (S0 : SRel K B Rg σ H δ) (i : Nat) : SRel K B Rg σ H (δ.set i .no) := by
  obtain ⟨b, u, fp, q, n, f⟩ := S0
  obtain ⟨fp', q1, q2, q3⟩ := SlotsR.drop1 i q n
  exact ⟨b, u, fp', q1, q2, fun a ha => f a (q3 a ha)⟩
theorem SlotsR.wipe1 : ∀ {δ : Sl} {σ : L2.St} {fp : List Addr} (i : Nat) {v : Option V}, SlotsR K Rg H δ σ fp → fp.Nodup → ∃ fp', SlotsR K Rg H (δ.set i .no) (σ.set i v) fp' ∧ fp'.Nodup ∧ ∀ a ∈ fp', a ∈ fp
  | [], σ, _, i, v, h, n => ⟨_, by obtain ⟨rfl, rfl⟩ := h; exact ⟨rfl, rfl⟩, n, fun _ z => z⟩
  | s :: δ, _, _, 0, v, h, n => by
    obtain ⟨ov, r, f, g, rfl, rfl, h1, h2⟩ := h
    rw [List.nodup_append] at n
    exact ⟨g, ⟨v, r, [], g, rfl, rfl, rfl, h2⟩, n.2.1, fun a ha => by simp [ha]⟩
  | s :: δ, _, _, i + 1, v, h, n => by
    obtain ⟨ov, r, f, g, rfl, rfl, h1, h2⟩ := h
    rw [List.nodup_append] at n
    obtain ⟨fp', q1, q2, q3⟩ := SlotsR.wipe1 i (v := v) h2 n.2.1
    refine ⟨f ++ fp', ⟨ov, r.set i v, f, fp', rfl, rfl, h1, q1⟩, ?_, fun a ha => ?_⟩
    · rw [List.nodup_append]
      exact ⟨n.1, q2, fun a ha b hb e => n.2.2 a ha b (q3 b hb) e⟩
    · rcases List.mem_append.mp ha with z | z
      · simp [z]
      · simp [q3 a z]
theorem SRel.wipe {σ : L2.St} {δ : Sl} (S0 : SRel K B Rg σ H δ) : ∀ vs : List Nat, SRel K B Rg (L2.wipe σ vs) H (wipeS δ vs)
  | [] => S0
  | v :: vs => by
    obtain ⟨b, u, fp, q, n, f⟩ := SRel.wipe S0 vs
    obtain ⟨fp', q1, q2, q3⟩ := SlotsR.wipe1 v (v := none) q n
    exact ⟨b, u, fp', q1, q2, fun a ha => f a (q3 a ha)⟩
theorem wipe_set (σ : L2.St) (v : Option V) (i : Nat) : ∀ vs : List Nat, i ∈ vs → L2.wipe (σ.set i v) vs = L2.wipe σ vs
  | [], h => by cases h
  | w :: vs, h => by
    show (L2.wipe (σ.set i v) vs).set w none = (L2.wipe σ vs).set w none
    have com : ∀ (us : List Nat) (τ : L2.St), i ∉ us → L2.wipe (τ.set i v) us = (L2.wipe τ us).set i v := by
      intro us
      induction us with
      | nil => intro τ _; rfl
      | cons u us ih =>
        intro τ hu
        show (L2.wipe (τ.set i v) us).set u none = ((L2.wipe τ us).set u none).set i v
        rw [ih τ (fun z => hu (by simp [z])), List.set_comm _ _ (fun z => hu (by simp [z]))]
    by_cases hm : i ∈ vs
    · rw [wipe_set σ v i vs hm]
    · have e : i = w := by
        rcases List.mem_cons.mp h with z | z
        · exact z
        · exact absurd z hm
      subst e
      rw [com vs σ hm, List.set_set]
theorem wipe_wipe (σ : L2.St) : ∀ vs : List Nat, L2.wipe (L2.wipe σ vs) vs = L2.wipe σ vs := by
  intro vs
  have gen : ∀ (us vs : List Nat), (∀ u ∈ us, u ∈ vs) → L2.wipe (L2.wipe σ us) vs = L2.wipe σ vs := by
    intro us
    induction us with
    | nil => intro vs _; rfl
    | cons u us ih =>
      intro vs h
      show L2.wipe ((L2.wipe σ us).set u none) vs = _
      rw [wipe_set _ _ _ vs (h u (by simp)), ih vs fun w hw => h w (by simp [hw])]
  exact gen vs vs fun _ h => h
/-- the heap without D -/
def cutH (H : Hp) (D : Addr) : Hp := fun b => if b = D then none else H b
theorem cutH_same (H : Hp) (D : Addr) : Same (cutH H D) H := fun b o e => by
  unfold cutH at e
  split at e
  · cases e
  · exact e
theorem cutH_mono {H H' : Hp} (s : Same H H') (D : Addr) : Same (cutH H D) (cutH H' D) := fun b o e => by
  unfold cutH at e ⊢
  split at e
  · cases e
  · rename_i h; rw [if_neg h]; exact s b o e
theorem cutH_upd {H : Hp} {D : Addr} {o : HO} : cutH (upd H D o) D = cutH H D := by
  funext b
  unfold cutH
  split
  · rfl
  · rename_i h; rw [upd_ne h]
/-- the slots behind a target's store are forgotten -/
theorem gNms_wipe (vs : List Nat) : ∀ (is : List Nat) (ws : List V) (σ : L2.St) (H : Hp) (Q : L2.St → Hp → Prop), (∀ i ∈ is, i ∈ vs) → gNms is ws σ H Q → gNms is ws σ H fun σ' H' => L2.wipe σ' vs = L2.wipe σ vs ∧ Q σ' H'
  | [], ws, σ, H, Q, _, h => ⟨h.1, rfl, h.2⟩
  | i :: is, ws, σ, H, Q, hi, h => by
    obtain ⟨v, r, e, h⟩ := h
    refine ⟨v, r, e, ?_⟩
    have := gNms_wipe vs is r (σ.set i (some v)) H Q (fun j hj => hi j (by simp [hj])) h
    rw [wipe_set σ (some v) i vs (hi i (by simp))] at this
    exact this
theorem Tg.g_wipe {t : Tg} {vs : List Nat} {v : V} {σ : L2.St} {Q : L2.St → Hp → Prop} (ht : ∀ i ∈ t.idx, i ∈ vs) (h : t.g K v σ H Q) : t.g K v σ H fun σ' H' => L2.wipe σ' vs = L2.wipe σ vs ∧ Q σ' H' := by
  cases t with
  | one i => exact ⟨wipe_set σ (some v) i vs (ht i (by simp [Tg.idx])), h⟩
  | tup is =>
    obtain ⟨a, xs, e1, e2, e3, h⟩ := h
    exact ⟨a, xs, e1, e2, e3, gNms_wipe vs is xs σ H Q ht h⟩
end
section
variable {W : WX} {X : Cx} {e elt tg iter : Expr} {ifs : List Expr} {gi : GI} {gt : GT} {ge : GE} {scope : Scope} {own : List (Str × Nat)} {pos : Pos}
/-- the context of a block -/
abbrev dc0 (X : Cx) : DC := ⟨X.K, X.mg, W0, none⟩
theorem lc_of {t : Tg} {vs : List Nat} (hcal : X.calm = true) (ht : ∀ i ∈ t.idx, i ∈ vs) (σ : L2.St) (H : Hp) (Q : VK) (h : tD (dc X W) (gLc t vs gi gt ge) σ H Q) :
    tLc (tDI (dc X W) gi) (t.g X.K) (tDT (dc0 X) gt) (tD (dc0 X) ge) vs σ H Q := by
  rw [dc_calm hcal] at h ⊢
  obtain ⟨B, Rg, δ, S0, w⟩ := h
  refine ⟨B, Rg, δ, S0, Rn.wp_mono (Rn.wp_bind.mp w) (fun xs q J H1 s1 wk => ?_) fun _ _ q => q⟩
  intro Dp hD
  obtain ⟨G, hG, hf, hR⟩ := wk.ex
  obtain ⟨B', b1, b2, S1⟩ := S0.hold s1 hG (fun a ha => (hf a ha).imp id .inl)
  have S2 := S1.wipe vs
  have c1 : cutH H1 Dp = H1 := by
    funext b
    unfold cutH
    split
    · rename_i z; subst z; exact hD.symm
    · rfl
  refine ⟨fun i m H' => m = xs.length - i ∧ i ≤ xs.length ∧ ∃ acc vacc, H' Dp = some (.lst vacc) ∧ RepPs X.K H' acc vacc ∧ Same H1 (cutH H' Dp) ∧ SRel X.K B' Rg (L2.wipe σ vs) (cutH H' Dp) (wipeS δ vs) ∧
    ((lcL t gt ge (wipeS δ vs) (xs.drop i) acc).bind fun ys => .ok (.own (.lst ys))).wp (fun r => ∀ v H', Same H H' → RepR X.K H H' r v → Q v H') (fun cl _ => ∀ C H', X.mg cl = some (.ref C) → Same H H' → W (.ref C) none σ H'),
    ⟨xs.length, by simp, Nat.zero_le _, [], [], upd_same, rfl, by rw [cutH_upd, c1]; exact Same.refl _, by rw [cutH_upd, c1]; exact S2, by simpa using q⟩, ?_⟩
  rintro i m H2 ⟨rfl, hi, acc, vacc, eD, ra, sm, S3, w3⟩
  have S4 := S3.grow (cutH_same H2 Dp)
  have s02 : Same H H2 := s1.trans (sm.trans (cutH_same H2 Dp))
  obtain ⟨r1, r2⟩ := hR H2 (b2.trans S4.same) i
  by_cases hlt : i < xs.length
  · have ep := List.getElem?_eq_getElem hlt
    obtain ⟨go, yl⟩ := r1 _ ep
    rw [List.drop_eq_getElem_cons hlt] at w3
    refine .inr ⟨go, fun H' => ∃ acc vacc, H' Dp = some (.lst vacc) ∧ RepPs X.K H' acc vacc ∧ Same H1 (cutH H' Dp) ∧ SRel X.K B' Rg (L2.wipe σ vs) (cutH H' Dp) (wipeS δ vs) ∧
      ((lcL t gt ge (wipeS δ vs) (xs.drop (i + 1)) acc).bind fun ys => .ok (.own (.lst ys))).wp (fun r => ∀ v H', Same H H' → RepR X.K H H' r v → Q v H') (fun cl _ => ∀ C H', X.mg cl = some (.ref C) → Same H H' → W (.ref C) none σ H'),
      fun H' q => ⟨xs.length - (i + 1), by omega, rfl, hlt, q⟩, fun x H3 y => ?_⟩
    obtain ⟨s3, rp⟩ := yl x H3 y
    unfold lcL at w3
    split at w3
    · rename_i δ1 e1
      have gw := Tg.ok (K := X.K) (t := t) (d := .p xs[i]) (v := x) (gp := []) (Q := fun σ' H' => H' = H3 ∧ SRel X.K B' Rg σ' H3 δ1) S4 s3 ⟨rp, rfl⟩ List.nodup_nil (fun _ z => nomatch z) e1 fun σ' S5 => ⟨rfl, S5⟩
      have gw2 := Tg.g_wipe (vs := vs) ht gw
      refine Tg.g_mono (fun σ2 H2' ⟨ew, eh, S5⟩ => ?_) gw2
      subst eh
      refine ⟨by rw [ew, wipe_wipe], ?_⟩
      refine ⟨B', Rg, δ1, S5, Rn.wp_noErr (Rn.wp_mono (Rn.wp_bind.mp (Rn.wp_bind.mp w3)) (fun k q H4 s4 => ?_) fun _ _ q => q)⟩
      have S6 := S5.grow s4
      have s24 := s3.trans s4
      have eD4 : H4 Dp = some (.lst vacc) := s24 _ _ eD
      have smm : Same H1 (cutH H4 Dp) := sm.trans (cutH_mono s24 Dp)
      dsimp only
      cases k with
      | false =>
        rw [if_neg (by decide)] at q ⊢
        exact ⟨acc, vacc, eD4, RepPs.kt (Same.kt s24) _ _ ra, smm, S3.grow (cutH_mono s24 Dp), Rn.wp_bind.mpr q⟩
      | true =>
        rw [if_pos rfl] at q ⊢
        refine ⟨B', Rg, δ1, S6, Rn.wp_noErr (Rn.wp_mono (Rn.wp_bind.mp q) (fun r q v H5 s5 rv => ?_) fun _ _ q => q)⟩
        have s25 := s24.trans s5
        split at q
        · rename_i y ey
          split at q
          · rename_i hz
            have ry := rv.getP ey
            have ra5 := RepPs.kt (Same.kt s25) _ _ ra
            have kt5 : KT H5 (upd H5 Dp (.lst (vacc ++ [v]))) := KT.upd (s25 _ _ eD) trivial
            refine ⟨vacc, s25 _ _ eD, by rw [ra.len]; exact hz, acc ++ [y], vacc ++ [v], upd_same, RepPs.kt kt5 _ _ (RepPs.append (show RepPs X.K H5 [y] [v] from ⟨v, [], rfl, ry, rfl⟩) ra5), ?_, ?_, Rn.wp_bind.mpr q⟩
            · rw [cutH_upd]; exact sm.trans (cutH_mono s25 Dp)
            · rw [cutH_upd]; exact S3.grow (cutH_mono s25 Dp)
          · exact q.elim
        · exact q.elim
    · exact w3.elim
  · have hn : xs.length ≤ i := by omega
    rw [List.drop_eq_nil_of_le hn] at w3
    refine .inl ⟨r2 hn, w3 (.ref Dp) H2 s02 ⟨[Dp], ⟨Dp, vacc, rfl, eD, rfl, ra⟩, by simp, fun b hb => ?_⟩⟩
    obtain rfl : b = Dp := by simpa using hb
    exact s1.free hD
def DTs (W : WX) (X : Cx) (ifs : List Expr) (g : GT) : Prop := PTs X ifs (tDT (dc X W) g)
def gYes : GT := fun _ => .ok true
theorem dts_nil : DTs W X [] gYes := ⟨fun pins s σ H Q I ⟨B, Rg, δ, S0, w⟩ => pts_nil.run pins s σ H Q I (w H (Same.refl H))⟩
theorem dts_one (h : DT W X e gt) : DTs W X [e] gt := pts_one h
theorem de_lc {t : Tg} (hc : X.calm = true) (hN : X.N.Nodup) (hi : DI W X tg iter gi) (ok : BlkOk X.N X.env.scope scope own)
    (hg : ∀ (s : Shared) (H : Hp) (C : Addr) (cl : List (Str × Addr)) (fp : List Addr), PG (X.blk s H scope (compEnvC scope cl C X.env) fp) tg (t.g X.K))
    (ht : ∀ (s : Shared) (H : Hp) (C : Addr) (cl : List (Str × Addr)) (fp : List Addr), DTs W0 (X.blk s H scope (compEnvC scope cl C X.env) fp) ifs gt)
    (he : ∀ (s : Shared) (H : Hp) (C : Addr) (cl : List (Str × Addr)) (fp : List Addr), DE W0 (X.blk s H scope (compEnvC scope cl C X.env) fp) elt ge)
    (hx : ∀ i ∈ t.idx, i ∈ own.map (·.2) := by decide) (hs : ∀ x, foldedSetIterable iter X.env x = pure x := by intro _; rfl) :
    DE W X (.ListComp elt [⟨tg, iter, ifs, 0⟩] scope pos) (gLc t (own.map (·.2)) gi gt ge) :=
  PE.imp (pe_lc (tt := tDT (dc0 X) gt) (te := tD (dc0 X) ge) hc hN hi ok hg ht he hs) (lc_of hc hx)
theorem ds_setLc {i : Nat} {y : Str} {py spos : Pos} {t : Tg} (hc : X.calm = true) (hN : X.N.Nodup) (hy : X.N[i]? = some y) (hyl : X.env.scope.names.lookup y = some .local)
    (hsw : swapsWith (.ListComp elt [⟨tg, iter, ifs, 0⟩] scope pos) (some (.Name y py)) spos.line X.env = pure true) (hi : DI W X tg iter gi) (ok : BlkOk X.N X.env.scope scope own)
    (hg : ∀ (s : Shared) (H : Hp) (C : Addr) (cl : List (Str × Addr)) (fp : List Addr), PG (X.blk s H scope (compEnvC scope cl C X.env) fp) tg (t.g X.K))
    (ht : ∀ (s : Shared) (H : Hp) (C : Addr) (cl : List (Str × Addr)) (fp : List Addr), DTs W0 (X.blk s H scope (compEnvC scope cl C X.env) fp) ifs gt)
    (he : ∀ (s : Shared) (H : Hp) (C : Addr) (cl : List (Str × Addr)) (fp : List Addr), DE W0 (X.blk s H scope (compEnvC scope cl C X.env) fp) elt ge)
    (hx : ∀ i ∈ t.idx, i ∈ own.map (·.2) := by decide) (hs : ∀ x, foldedSetIterable iter X.env x = pure x := by intro _; rfl) :
    DS W X (.Assign [.Name y py] (.ListComp elt [⟨tg, iter, ifs, 0⟩] scope pos) spos) (gSet i (gLc t (own.map (·.2)) gi gt ge)) := by
  refine PS.imp (ps_setLc (tt := tDT (dc0 X) gt) (te := tD (dc0 X) ge) hc hN hy hyl hsw hi ok hg ht he hs) fun D σ H ⟨B, Rg, δ, S0, w⟩ => ?_
  refine lc_of hc hx σ H _ ?_
  refine tDS_val S0 w fun r v H1 s1 rv S1 q => ?_
  cases r with
  | own d =>
    obtain ⟨fp, q1, n, f⟩ := rv
    exact q _ _ (S0.set s1 q1 n f)
  | vw d => exact q.elim
end
end DL
/-! DLj: append, stores to places, unpacking, while, raise, defs and their calls. -/
namespace DL
open PySem PySem.Spec PyProof.Rows L2

/-! ### defs and calls -/
/-- a def as a function of data -/
abbrev Fn := List D → Rn Unit D
def startS (n : Nat) (ds : List D) : Sl := ds.map (S.bor none) ++ List.replicate (n - ds.length) S.no
def fnD (n : Nat) (g : GS) : Fn := fun ds => ((g (startS n ds)).mapErr fun _ => ()).bind fun
  | .ret d => .ok d
  | .nx _ => .ok (.p .non)
  | _ => .bad
/-- what a def promises -/
def spD (K : PySem.W.Frag) (mg : Str → Option Value) (n : Nat) (f : Fn) : Sp := fun vs H Q E => ∃ ds : List D, ds.length = n ∧ LookL K H ds vs ∧
  (f ds).wp (fun d => postR K H d Q) fun cl _ => ∀ C H', mg cl = some (.ref C) → Same H H' → E (.ref C) none H'
theorem LookL.len {K : PySem.W.Frag} {H : Hp} : ∀ {ds : List D} {vs : List V}, LookL K H ds vs → vs.length = ds.length
  | [], vs, h => by
    obtain rfl : vs = [] := h
    rfl
  | d :: ds, vs, h => by
    obtain ⟨v, r, rfl, _, h2⟩ := h
    simp [LookL.len h2]
theorem start_slots {K : PySem.W.Frag} {H : Hp} : ∀ {ds : List D} {vs : List V} (m : Nat), LookL K H ds vs → SlotsR K (ex := none) (fun t => if t = none then H else fun _ => none) H (ds.map (S.bor none) ++ List.replicate m S.no) (vs.map some ++ List.replicate m none) []
  | [], vs, m, h => by
    obtain rfl : vs = [] := h
    show SlotsR K _ H (List.replicate m S.no) (List.replicate m none) []
    induction m with
    | zero => exact ⟨rfl, rfl⟩
    | succ m ih => exact ⟨none, List.replicate m none, [], [], rfl, rfl, rfl, ih⟩
  | d :: ds, vs, m, h => by
    obtain ⟨v, r, rfl, ⟨g, q⟩, h2⟩ := h
    refine ⟨some v, r.map some ++ List.replicate m none, [], [], rfl, rfl, ⟨rfl, v, g, rfl, q, fun a ha => ?_⟩, start_slots m h2⟩
    show (if (none : Option Nat) = none then H else fun _ => none) a ≠ none
    rw [if_pos rfl]
    exact q.mem a ha
section
variable {P : Program} {w : World} {K : PySem.W.Frag} {mg : Str → Option Value} {base : Heap}
/-- a def keeps its promise -/
theorem fn_ok {x qual : Str} {st : Stmt} {f : Addr} {fd : FuncData} {N ps : List Str} {k : Nat} {g : GS} (F : Fun K x qual st f fd) (S : FnScope N ps (defScope st))
    (hb : ∀ (cdv : Value) (A : Around) (outer : List Env) (s : Shared) (H : Hp) (E : XK), Room k (A.deeper (envOfC qual (defScope st) s.heap.objs.size f cdv)) →
      DSs (fun cls d _ H => E cls d H) (cxOf (L2.CX P w) P w K mg base N qual (defScope st) f cdv A outer s H E) (defBody st) g) :
    FnOk P w K mg base (L2.CX P w) (k + 1) f fd ps (spD K mg ps.length (fnD N.length g)) := by
  refine F.okX S (fun vs H Q E ⟨ds, hl, lk, _⟩ => by rw [lk.len, hl]) fun cdv A outer s H vs Q E hr ⟨ds, hl, lk, w0⟩ => ⟨_, hb cdv A outer s H E hr, ?_⟩
  refine ⟨H, fun t => if t = none then H else fun _ => none, startS N.length ds, ⟨Same.refl H, fun t => ?_, [], ?_, List.nodup_nil, fun _ z => nomatch z⟩, ?_⟩
  · by_cases e : t = none
    · rw [if_pos e]; exact Same.refl H
    · rw [if_neg e]; exact fun _ _ z => nomatch z
  · have := start_slots (N.length - ds.length) lk
    unfold L2.start startS
    rw [lk.len]
    exact this
  · refine Rn.wp_mono (Rn.wp_mapErr.mp (Rn.wp_bind.mp w0)) (fun fl q => ?_) fun cl δ q C σ H' e S => q C H' e S.same
    cases fl with
    | ret d => exact q
    | nx δ => exact fun σ H' S => q .non H' S.same ⟨[], ⟨rfl, rfl⟩, List.nodup_nil, fun _ z => nomatch z⟩
    | bk δ => exact q.elim
    | ct δ => exact q.elim
end
/-- a def as its callers see it -/
structure FD (P : Program) (w : World) (K : PySem.W.Frag) (mg : Str → Option Value) (base : Heap) (k : Nat) (x : Str) (n : Nat) (f : Fn) : Prop where
  ex : ∃ (a : Addr) (fd : FuncData) (ps : List Str), mg x = some (.ref a) ∧ PySem.W.keepIn K (.ref a) = true ∧ Binds K fd ps [] ∧ FnOk P w K mg base (L2.CX P w) k a fd ps (spD K mg n f)
def gFn (n : Nat) (f : Fn) (gs : GA) : GE := fun δ => (gs δ).bind fun rs => if rs.length = n then (f (rs.map R.d)).bind fun d => .ok (.own d) else .bad
section
variable {W : WX} {X : Cx} {a b e tg iter : Expr} {es : List Expr} {ga gb gc : GE} {gs : GA} {gt : GT} {gi : GI} {g1 g2 : GS} {st : Stmt} {sts body : List Stmt} {pos p : Pos}
theorem de_call {x : Str} {k n : Nat} {f : Fn} (F : FD X.prog X.w X.K X.mg X.base k x n f) (hr : Room k X.A) (tk : Takes X W) (ha : DA W X (e :: es) gs)
    (hg : Gl X x := by rfl) (hdb : (x == ("__debug__" : Str)) = false := by decide) (he : starEach (e :: es) X.env = (false, eval e X.env) :: starEach es X.env := by rfl) (hpl : (backTo pos (starEach es X.env)).any (·.1) = false := by rfl) :
    DE W X (.Call (.Name x p) (e :: es) [] pos) (gFn n f gs) := by
  obtain ⟨a, fd, ps, hm, hk, hb, G⟩ := F.ex
  refine PE.imp (pe_callS G hr hg hm hk hb (fun σ => passAt tk σ) ha hdb he hpl) fun σ H Q ⟨B, Rg, δ, S0, w⟩ => ?_
  refine ⟨B, Rg, δ, S0, Rn.wp_mono (Rn.wp_bind.mp w) (fun rs q vs H1 s1 ra => ?_) fun _ _ q => q⟩
  obtain ⟨fp, r, _⟩ := ra
  split at q
  · rename_i hl
    exact ⟨rs.map R.d, by simpa using hl, r.look, Rn.wp_mono (Rn.wp_bind.mp q) (fun d q v H2 s2 ⟨fp, q1, n1, f1⟩ => q v H2 (s1.trans s2) ⟨fp, q1, n1, fun a ha => s1.free (f1 a ha)⟩) fun cl _ q C H' e s => q C H' e (s1.trans s)⟩
  · exact q.elim

/-! ### append, stores to places -/
def fApp : D → R → Option D
  | .lst xs, .own (.p x) => if xs.length < sizeLine then some (.lst (xs ++ [x])) else none
  | .lst xs, .vw (.p x) => if xs.length < sizeLine then some (.lst (xs ++ [x])) else none
  | .lst [], .own d => some (.ls [d])
  | .ls xs, .own d => if xs.length < sizeLine then some (.ls (xs ++ [d])) else none
  | _, _ => none
def D.isL : D → Bool
  | .lst _ => true
  | .ls _ => true
  | _ => false
def gApp (i : Nat) (ga : GE) : GS := fun δ => match δ[i]? with
  | some (.own d) => if d.isL = true then (lift (ga δ) δ).bind fun r => match fApp d r with
    | some d' => .ok (.nx (δ.set i (.own d')))
    | none => .bad else .bad
  | _ => .bad
theorem RepDs.append {K : PySem.W.Frag} {H : Hp} {ys : List D} {us : List V} {gp : List Addr} (hy : RepDs K H ys us gp) : ∀ {xs : List D} {vs : List V} {fp : List Addr}, RepDs K H xs vs fp → RepDs K H (xs ++ ys) (vs ++ us) (fp ++ gp)
  | [], _, _, h => by
    obtain ⟨rfl, rfl⟩ := h
    exact hy
  | x :: xs, _, _, h => by
    obtain ⟨v, r, f, g, rfl, rfl, h1, h2⟩ := h
    exact ⟨v, r ++ us, f, g ++ gp, rfl, by simp, h1, RepDs.append hy h2⟩
theorem fApp_ok {K : PySem.W.Frag} {H0 H : Hp} {d d' : D} {v u : V} {f : List Addr} {r : R} (rd : RepD K H d v f) (nf : f.Nodup) (hf : ∀ a ∈ f, H0 a ≠ none) (ru : RepR K H0 H r u) (e : fApp d r = some d') :
    ∃ a vs, v = .ref a ∧ a ∈ f ∧ H a = some (.lst vs) ∧ vs.length < sizeLine ∧ ∃ f', RepD K (upd H a (.lst (vs ++ [u]))) d' v f' ∧ f'.Nodup ∧ ∀ b ∈ f', b ∈ f ∨ H0 b = none := by
  unfold fApp at e
  have one : ∀ {xs : List P} {x : P}, RepD K H (.lst xs) v f → RepP K H x u → (if xs.length < sizeLine then some (D.lst (xs ++ [x])) else none) = some d' →
      ∃ a vs, v = .ref a ∧ a ∈ f ∧ H a = some (.lst vs) ∧ vs.length < sizeLine ∧ ∃ f', RepD K (upd H a (.lst (vs ++ [u]))) d' v f' ∧ f'.Nodup ∧ ∀ b ∈ f', b ∈ f ∨ H0 b = none := by
    intro xs x rd rx e
    split at e
    · rename_i hz
      obtain rfl := Option.some.inj e
      obtain ⟨a, vs, rfl, q, rfl, r⟩ := rd
      have kt : KT H (upd H a (.lst (vs ++ [u]))) := KT.upd q trivial
      exact ⟨a, vs, rfl, by simp, q, by rw [r.len]; exact hz, [a], ⟨a, vs ++ [u], rfl, upd_same, rfl, RepPs.kt kt _ _ (RepPs.append (show RepPs K H [x] [u] from ⟨u, [], rfl, rx, rfl⟩) r)⟩, by simp, fun b hb => .inl hb⟩
    · cases e
  split at e
  · rename_i xs x
    exact one rd (ru.getP rfl) e
  · rename_i xs x
    exact one rd (ru.getP rfl) e
  · rename_i d1 _
    obtain rfl := Option.some.inj e
    obtain ⟨a, vs, rfl, q, rfl, r⟩ := rd
    obtain rfl : vs = [] := r
    obtain ⟨g, rg, ng, fg⟩ := ru
    have kt : KT H (upd H a (.lst ([] ++ [u]))) := KT.upd q trivial
    have ha : a ∉ g := fun z => hf a (by simp) (fg a z)
    refine ⟨a, [], rfl, by simp, q, by rw [sizeLine_eq]; decide, a :: (g ++ []), ⟨a, [u], g ++ [], rfl, upd_same, rfl, u, [], g, [], rfl, rfl, RepD.kt kt _ _ _ (fun b hb o e => ?_) rg, rfl, rfl⟩, by simpa using ⟨ha, ng⟩, fun b hb => ?_⟩
    · rw [upd_ne (fun z => ha (by rw [← z]; exact hb))]; exact e
    · simp at hb
      rcases hb with rfl | hb
      · exact .inl (by simp)
      · exact .inr (fg b hb)
  · rename_i xs d1
    split at e
    · rename_i hz
      obtain rfl := Option.some.inj e
      obtain ⟨a, vs, f1, rfl, q, rfl, r⟩ := rd
      obtain ⟨g, rg, ng, fg⟩ := ru
      have kt : KT H (upd H a (.lst (vs ++ [u]))) := KT.upd q trivial
      have ha : a ∉ g := fun z => hf a (by simp) (fg a z)
      rw [List.nodup_cons] at nf
      have st : ∀ b, b ≠ a → ∀ o, H b = some o → upd H a (.lst (vs ++ [u])) b = some o := fun b hb o e => by rw [upd_ne hb]; exact e
      refine ⟨a, vs, rfl, by simp, q, by rw [r.len]; exact hz, a :: (f1 ++ (g ++ [])), ⟨a, vs ++ [u], f1 ++ (g ++ []), rfl, upd_same, rfl, RepDs.append (show RepDs K (upd H a (.lst (vs ++ [u]))) [d1] [u] (g ++ []) from ⟨u, [], g, [], rfl, rfl, RepD.kt kt _ _ _ (fun b hb => st b fun z => ha (by rw [← z]; exact hb)) rg, rfl, rfl⟩) (RepDs.kt kt _ _ _ (fun b hb => st b fun z => nf.1 (by rw [← z]; exact hb)) r)⟩, ?_, fun b hb => ?_⟩
      · rw [List.nodup_cons, List.append_nil, List.nodup_append]
        refine ⟨fun z => ?_, nf.2, ng, fun b hb b' hb' e => ?_⟩
        · rcases List.mem_append.mp z with z | z
          · exact nf.1 z
          · exact ha z
        · subst e
          exact hf b (by simp [hb]) (fg b hb')
      · rw [List.append_nil] at hb
        rcases List.mem_cons.mp hb with rfl | hb
        · exact .inl (by simp)
        · rcases List.mem_append.mp hb with z | z
          · exact .inl (by simp [z])
          · exact .inr (fg b z)
    · cases e
  · cases e
theorem ds_app {i : Nat} {x : Str} {apos cpos : Pos} (hN : X.N[i]? = some x) (hv : Vis X.env.scope x) (ha : DE W X e ga) (hd : (x == ("__debug__" : Str)) = false := by decide) (hcd : (x == ("__classdict__" : Str)) = false := by decide)
    (he : starEach (e :: []) X.env = (false, eval e X.env) :: starEach [] X.env := by rfl)
    (hbase : attributeBase (.Name x p) "append" X.env (eval (.Name x p) X.env) = eval (.Name x p) X.env := by rfl)
    (hfew : ((backTo cpos (starEach (e :: []) X.env)).all (fun x => !x.1) && (backToKw cpos (keywordEach [] X.env)).all (fun x => x.1.isSome)
      && decide ((e :: ([] : List Expr)).length + ([] : List Keyword).length + (if ([] : List Keyword).isEmpty then 0 else 1) < 30)) = true := by rfl)
    (hs : swapsWith (.Call (.Attribute (.Name x p) "append" apos) [e] [] cpos) none pos.line X.env = pure false := by rfl) (hline : (apos.endLine == cpos.line) = true := by rfl)
    (hpl : (backTo cpos (starEach ([] : List Expr) X.env)).any (·.1) = false := by rfl) :
    DS W X (.Expr (.Call (.Attribute (.Name x p) "append" apos) [e] [] cpos) pos) (gApp i ga) := by
  refine PS.imp (ps_expr (pe_bm PySem.F.plainAttrs_list PySem.F.slot_list_append PySem.F.type_list_append mt_append (pe_var hN hv hd hcd) (pa_cons ha pa_nil he) hbase hfew hline he hpl) hs) fun D σ H ⟨B, Rg, δ, S0, w⟩ => ?_
  unfold gApp at w
  split at w
  · rename_i d ed
    split at w
    · rename_i hl
      obtain ⟨v, f, e1, rd, nf, fB, k⟩ := S0.change ed
      refine ⟨v, e1, ?_⟩
      have tv : tyV X.K "list" v H := by
        cases d with
        | lst xs => obtain ⟨a, vs, rfl, q, _⟩ := rd; exact .inl ⟨rfl, vs, SqL.of q⟩
        | ls xs => obtain ⟨a, vs, _, rfl, q, _⟩ := rd; exact .inl ⟨rfl, vs, SqL.of q⟩
        | _ => cases hl
      refine ⟨tv, B, Rg, δ, S0, Rn.wp_mono (Rn.wp_mapErr.mp (Rn.wp_bind.mp w)) (fun r q u H1 s1 ru => ?_) fun cl _ q C H' e s => q C σ H' e (S0.grow s)⟩
      split at q
      · rename_i d' ea
        have rd1 := RepD.kt (Same.kt s1) d v f (fun a _ o e => s1 a o e) rd
        obtain ⟨a, vs, rfl, haf, qa, hz, f', rd', nf', hf'⟩ := fApp_ok rd1 nf rd.mem ru ea
        refine ⟨a, vs, u, rfl, rfl, qa, hz, ?_⟩
        exact q σ _ (k _ _ f' ((Same.kt s1).trans (KT.upd qa trivial)) (fun b o hb e => by rw [upd_ne (fun z => hb (by rw [z]; exact haf))]; exact s1 b o e) rd' nf' hf')
      · exact q.elim
    · exact w.elim
  · exact w.elim

/-- x[i] = e, a list or a dict in a slot -/
def putP {κ : Type} [DecidableEq κ] (kvs : List (κ × P)) (k : κ) (v : P) : List (κ × P) :=
  if (kvs.any fun kv => decide (kv.1 = k)) = true then kvs.map (fun kv => if kv.1 = k then (kv.1, v) else kv) else kvs ++ [(k, v)]
def fPut : D → P → P → Option D
  | .lst xs, .int k, v => match ixN xs.length k with
    | some j => some (.lst (xs.set j v))
    | none => none
  | .dic kvs, x, v => match keyP x with
    | some k => if kvs.length < sizeLine then some (.dic (putP kvs k v)) else none
    | none => none
  | _, _, _ => none
def gPut (i : Nat) (gk ge : GE) : GS := fun δ => match δ[i]? with
  | some (.own d) => (lift (ge δ) δ).bind fun r => (lift (gk δ) δ).bind fun k => match k.d, r.d with
    | .p x, .p v => match fPut d x v with
      | some d' => .ok (.nx (δ.set i (.own d')))
      | none => .bad
    | _, _ => .bad
  | _ => .bad
theorem map_put {K : PySem.W.Frag} {H : Hp} {κ : Type} [DecidableEq κ] {k : κ} {x : P} {v : V} (hx : RepP K H x v) : ∀ {xs : List (κ × P)} {ws : List (κ × V)}, RepKs K H xs ws →
    RepKs K H (xs.map fun kv => if kv.1 = k then (kv.1, x) else kv) (ws.map fun kv => if kv.1 = k then (kv.1, v) else kv)
  | [], ws, h => by obtain rfl : ws = [] := h; exact rfl
  | (c, y) :: xs, ws, h => by
    obtain ⟨u, r, rfl, h1, h2⟩ := h
    rw [List.map_cons, List.map_cons]
    by_cases e : c = k
    · simp only [e, if_true]
      exact ⟨v, _, rfl, hx, map_put hx h2⟩
    · simp only [e, if_false]
      exact ⟨u, _, rfl, h1, map_put hx h2⟩
theorem add_put {K : PySem.W.Frag} {H : Hp} {κ : Type} {k : κ} {x : P} {v : V} (hx : RepP K H x v) : ∀ {xs : List (κ × P)} {ws : List (κ × V)}, RepKs K H xs ws → RepKs K H (xs ++ [(k, x)]) (ws ++ [(k, v)])
  | [], ws, h => by obtain rfl : ws = [] := h; exact ⟨v, [], rfl, hx, rfl⟩
  | (c, y) :: xs, ws, h => by
    obtain ⟨u, r, rfl, h1, h2⟩ := h
    exact ⟨u, _, rfl, h1, add_put hx h2⟩
theorem RepPs.set {K : PySem.W.Frag} {H : Hp} {x : P} {v : V} (hx : RepP K H x v) : ∀ {xs : List P} {vs : List V} (j : Nat), RepPs K H xs vs → RepPs K H (xs.set j x) (vs.set j v)
  | [], vs, j, h => by
    obtain rfl : vs = [] := h
    exact rfl
  | y :: xs, vs, 0, h => by
    obtain ⟨u, r, rfl, _, h2⟩ := h
    exact ⟨v, r, rfl, hx, h2⟩
  | y :: xs, vs, j + 1, h => by
    obtain ⟨u, r, rfl, h1, h2⟩ := h
    exact ⟨u, r.set j v, rfl, h1, RepPs.set hx j h2⟩
theorem RepKs.any {K : PySem.W.Frag} {H : Hp} {κ : Type} [DecidableEq κ] {k : κ} : ∀ {xs : List (κ × P)} {ws : List (κ × V)}, RepKs K H xs ws → (xs.any fun kv => decide (kv.1 = k)) = ws.any fun kv => decide (kv.1 = k)
  | [], ws, h => by
    obtain rfl : ws = [] := h
    rfl
  | (c, x) :: xs, ws, h => by
    obtain ⟨v, r, rfl, _, h2⟩ := h
    simp only [List.any_cons, RepKs.any h2]
theorem RepKs.put {K : PySem.W.Frag} {H : Hp} {κ : Type} [DecidableEq κ] {k : κ} {x : P} {v : V} (hx : RepP K H x v) {xs : List (κ × P)} {ws : List (κ × V)} (h : RepKs K H xs ws) : RepKs K H (putP xs k x) (putK ws k v) := by
  unfold putP putK
  rw [h.any]
  split
  · exact map_put hx h
  · exact add_put hx h
theorem PSet.or {t t' : TSet} (h : PSet X t) (h' : PSet X t') : PSet X (fun o i v H Q => t o i v H Q ∨ t' o i v H Q) := by
  intro pins s σ H o i v ov iv u Q I ro ri rv q
  rcases q with q | q
  · exact h pins s σ H o i v ov iv u Q I ro ri rv q
  · exact h' pins s σ H o i v ov iv u Q I ro ri rv q
theorem ds_put {i : Nat} {x : Str} {ix : Expr} {gk : GE} {tpos : Pos} (hu : X.A.units + 1 < cLine) (hN : X.N[i]? = some x) (hv : Vis X.env.scope x) (hk : DE W X ix gk) (he : DE W X e ga)
    (hd : (x == ("__debug__" : Str)) = false := by decide) (hcd : (x == ("__classdict__" : Str)) = false := by decide)
    (ha : ∀ v, assign (.Subscript (.Name x p) ix tpos) X.env v = (do
      let ov ← holding [v] (eval (.Name x p) X.env)
      let iv ← holding [v, ov] (eval ix X.env)
      standAt tpos
      holding [v, ov, iv] (setItem ov iv v)
      release [v, ov, iv] []) := by intro _; rfl)
    (hs : swapsWithSole [.Subscript (.Name x p) ix tpos] e pos.line X.env = pure false := by rfl) (hw : swappedStores [.Subscript (.Name x p) ix tpos] e X.env = pure none := by rfl)
    (h1 : (assignEach [.Subscript (.Name x p) ix tpos] X.env).map (·.2) = [assign (.Subscript (.Name x p) ix tpos) X.env] := by rfl) :
    DS W X (.Assign [.Subscript (.Name x p) ix tpos] e pos) (gPut i gk ga) := by
  refine PS.imp (ps_asg he (pg_sub (pe_var hN hv hd hcd) hk (PSet.or set_list (set_dict hu)) ha) hs hw h1) fun D σ H ⟨B, Rg, δ, S0, w⟩ => ?_
  unfold gPut at w
  split at w
  · rename_i d ed
    refine tDS_val S0 w fun r v H1 s1 rv S1 q => ?_
    obtain ⟨ov, f, e1, rd, nf, fB, k⟩ := S1.change ed
    refine ⟨ov, e1, ?_⟩
    refine tDS_val S1 q fun r2 v2 H2 s2 rv2 S2 q => ?_
    split at q
    · rename_i x v0 ek ev
      split at q
      · rename_i d' ef
        have rd2 := RepD.kt (Same.kt s2) d ov f (fun a _ o e => s2 a o e) rd
        have rx := rv2.getP ek
        have rw' := RepP.kt (Same.kt s2) _ _ (rv.getP ev)
        cases d with
        | lst xs =>
          cases x with
          | int kk =>
            obtain rfl : v2 = .int kk := rx
            simp only [fPut] at ef
            split at ef
            · rename_i j ej
              obtain rfl := Option.some.inj ef
              obtain ⟨a, vs, rfl, qa, rfl, ra⟩ := rd2
              have kt : KT H2 (upd H2 a (.lst (vs.set j v))) := KT.upd qa trivial
              refine .inl ⟨a, vs, kk, j, rfl, rfl, qa, by rw [ra.len]; exact ej, ?_⟩
              exact q σ _ (k _ _ [a] ((Same.kt s2).trans kt) (fun b o hb e => by rw [upd_ne (by simpa using hb)]; exact s2 b o e) ⟨a, _, rfl, upd_same, rfl, RepPs.kt kt _ _ (RepPs.set rw' j ra)⟩ (by simp) fun b hb => .inl hb)
            · cases ef
          | _ => cases ef
        | dic kvs =>
          simp only [fPut] at ef
          split at ef
          · rename_i kk ekk
            split at ef
            · rename_i hz
              obtain rfl := Option.some.inj ef
              obtain rfl : v2 = kV kk := keyP_kV rx ekk
              obtain ⟨a, ws, rfl, qa, rfl, ra⟩ := rd2
              have kt : KT H2 (upd H2 a (.dK (putK ws kk v))) := KT.upd qa trivial
              refine .inr ⟨a, _, rfl, DPut.k qa (by rw [ra.len]; exact hz), ?_⟩
              exact q σ _ (k _ _ [a] ((Same.kt s2).trans kt) (fun b o hb e => by rw [upd_ne (by simpa using hb)]; exact s2 b o e) ⟨a, _, rfl, upd_same, rfl, RepKs.kt kt _ _ (RepKs.put rw' ra)⟩ (by simp) fun b hb => .inl hb)
            · cases ef
          · cases ef
        | _ => cases x <;> cases ef
      · exact q.elim
    · exact q.elim
  · exact w.elim
end
end DL
/-! DLk: unpacking, while, loops over a slot's list, raise, try, isinstance. -/
namespace DL
open PySem PySem.Spec PyProof.Rows L2
section
variable {W : WX} {X : Cx} {a b e tg iter : Expr} {es : List Expr} {ga gb gc : GE} {gs : GA} {gt : GT} {gi : GI} {g1 g2 : GS} {st : Stmt} {sts body : List Stmt} {pos p : Pos}
/-- a, b = e -/
def gUnp (t : Tg) (ga : GE) : GS := fun δ => (lift (ga δ) δ).bind fun r => match r with
  | .own d => match t.set d δ with
    | some δ' => .ok (.nx δ')
    | none => .bad
  | .vw _ => .bad
theorem ds_unp {t : Tg} (hg : PG X tg (t.g X.K)) (ha : DE W X e ga) (hs : swapsWithSole [tg] e pos.line X.env = pure false := by rfl) (hw : swappedStores [tg] e X.env = pure none := by rfl)
    (h1 : (assignEach [tg] X.env).map (·.2) = [assign tg X.env] := by rfl) : DS W X (.Assign [tg] e pos) (gUnp t ga) := by
  refine PS.imp (ps_asg ha hg hs hw h1) fun D σ H ⟨B, Rg, δ, S0, w⟩ => ?_
  refine tDS_val S0 w fun r v H1 s1 rv S1 q => ?_
  cases r with
  | own d =>
    dsimp only at q
    split at q
    · rename_i δ' e1
      obtain ⟨fp, q1, n, f⟩ := rv
      exact Tg.ok S0 s1 q1 n f e1 fun σ' S2 => q σ' H1 S2
    · exact q.elim
  | vw d => exact q.elim
/-- a, b = x, y -/
def gPar (i j : Nat) (gs : GA) : GS := fun δ => (lift (gs δ) δ).bind fun rs => match rs with
  | [.own (.p x), .own (.p y)] => .ok (.nx ((δ.set i (.own (.p x))).set j (.own (.p y))))
  | _ => .bad
theorem ds_par {i j : Nat} {x y : Str} {px py pt pt2 : Pos} {kt k2 : Nat} (hc : X.calm = true) (hN : X.N.Nodup) (hi : X.N[i]? = some x) (hj : X.N[j]? = some y) (hij : i ≠ j)
    (hx : X.env.scope.names.lookup x = some .local) (hy : X.env.scope.names.lookup y = some .local) (ha : DA W X [a, b] gs)
    (hw : swappedStores [.Tuple [.Name x px, .Name y py] kt pt] (.Tuple [a, b] k2 pt2) X.env = pure (some [x, y]))
    (hs : swapsWithSole [.Tuple [.Name x px, .Name y py] kt pt] (.Tuple [a, b] k2 pt2) pos.line X.env = pure false := by rfl) :
    DS W X (.Assign [.Tuple [.Name x px, .Name y py] kt pt] (.Tuple [a, b] k2 pt2) pos) (gPar i j gs) := by
  refine PS.imp (ps_par hc hN hi hj hij hx hy ha hw hs) fun D σ H ⟨B, Rg, δ, S0, w⟩ => ?_
  refine tDS_args S0 w fun rs vs H1 s1 ra S1 q => ?_
  split at q
  · rename_i x y
    obtain ⟨fp, r, _⟩ := ra
    obtain ⟨v, r1, f, g, rfl, rfl, h1, u, r2, f2, g2, rfl, rfl, h2, h3⟩ := r
    obtain ⟨rfl, rfl⟩ := h3
    refine ⟨v, u, rfl, ?_⟩
    exact q _ _ ((S1.set (Same.refl _) (fp := []) (d := .p x) ⟨h1.1, rfl⟩ List.nodup_nil (fun _ z => nomatch z)).set (Same.refl _) (fp := []) (d := .p y) ⟨h2.1, rfl⟩ List.nodup_nil (fun _ z => nomatch z))
  · exact q.elim

/-! ### while -/
def gWhile (gt : GT) (g : GS) : Nat → GS
  | 0, _ => .bad
  | n + 1, δ => (lift (gt δ) δ).bind fun k => if k = true then (g δ).bind fun
      | .nx δ' => gWhile gt g n δ'
      | .ct δ' => gWhile gt g n δ'
      | .bk δ' => .ok (.nx δ')
      | .ret d => .ok (.ret d)
    else .ok (.nx δ)
theorem ds_while {fuel : Sl → Nat} (hp : PassesOwn (model X.prog X.w) X.A X.env X.xe) (hc : DT W X e gt) (hb : DSs W X body g1) : DS W X (.While e body [] pos) (fun δ => gWhile gt g1 (fuel δ) δ) := by
  refine PS.imp (ps_while hp hc hb) fun D σ H ⟨B, Rg, δ, S0, w⟩ => ?_
  refine ⟨fun m σ H => ∃ δ, SRel X.K B Rg σ H δ ∧ (gWhile gt g1 m δ).wp (postF X.K B Rg D) (postE (dc X W) B Rg), ⟨fuel δ, δ, S0, w⟩, ?_⟩
  rintro m σ1 H1 ⟨δ1, S1, w1⟩
  cases m with
  | zero => exact w1.elim
  | succ m =>
    unfold gWhile at w1
    refine tDS_bool (c := dc X W) S1 w1 fun k H2 s2 S2 q => ?_
    cases k with
    | false =>
      rw [if_neg (by decide)] at q ⊢
      exact q _ _ S2
    | true =>
      rw [if_pos rfl] at q ⊢
      refine ⟨fun σ H => ∃ δ, SRel X.K B Rg σ H δ ∧ (gWhile gt g1 m δ).wp (postF X.K B Rg D) (postE (dc X W) B Rg), fun σ' H' q => ⟨m, Nat.lt_succ_self m, q⟩, ?_⟩
      refine ⟨B, Rg, δ1, S2, Rn.wp_mono (Rn.wp_bind.mp q) (fun fl q => ?_) fun _ _ q => q⟩
      cases fl with
      | nx δ' => exact fun σ H S => ⟨δ', S, q⟩
      | ct δ' => exact fun σ H S => ⟨δ', S, q⟩
      | bk δ' => exact q
      | ret d => exact q

/-! ### raise -/
structure ErrC (K : PySem.W.Frag) (mg : Str → Option Value) (c : Str) : Prop where
  ex : ∃ C, mg c = some (.ref C) ∧ PySem.W.excIn K C [.type "ValueError", .type "Exception", .type "BaseException", .type "object"] "ValueError.__new__" = true ∧ PySem.W.keepIn K (.ref C) = true ∧
    PySem.W.subIn K (.ref C) (.type "BaseException") = some true ∧ PySem.W.typeIn K (.ref C) = some (.type "type")
def gRaise (c : Str) : GS := fun δ => .err c δ
theorem ds_raise {x m : Str} {j : Nat} {p2 pos2 : Pos} (hc : X.calm = true) (tk : Takes X W) (ec : ErrC X.K X.mg x) (hg : Gl X x := by rfl) (hdb : (x == ("__debug__" : Str)) = false := by decide) :
    DS W X (.Raise (some (.Call (.Name x p) [.Constant (.str m) j p2] [] pos)) none pos2) (gRaise x) := by
  obtain ⟨C, hm, h1, h2, h3, h4⟩ := ec.ex
  refine PS.imp (ps_raise hc tk (pmk_own PySem.F.excBase_ValueError h1 hm h2 (raises_own h3 h4) hg hdb)) fun D σ H ⟨B, Rg, δ, S0, w⟩ => ?_
  exact w C σ H hm S0

/-! ### try -/
/-- what the module tells of its errors: is class c caught by a clause that names h? -/
def ErrT (K : PySem.W.Frag) (mg : Str → Option Value) (h : Value) (sub : Str → Option Bool) : Prop := ∀ c b C, sub c = some b → mg c = some (.ref C) → PySem.W.exmOne K (.ref C) h = some b
def Fl.map (f : Sl → Sl) : Fl → Fl
  | .nx δ => .nx (f δ)
  | .bk δ => .bk (f δ)
  | .ct δ => .ct (f δ)
  | .ret d => .ret d
def Rn.noErrS {ε α : Type} : Rn ε α → Rn ε α
  | .ok a => .ok a
  | .err _ _ => .bad
  | .bad => .bad
  | .pick n k => .pick n fun i => (k i).noErrS
theorem Rn.wp_noErrS {ε α : Type} {w : Rn ε α} {Q : α → Prop} {E E' : Str → ε → Prop} (h : w.noErrS.wp Q E) : w.wp Q E' := by
  induction w with
  | ok a => exact h
  | err c e => exact h.elim
  | bad => exact h
  | pick n k ih => exact fun i hi => ih i (h i hi)
def S.noExn : S → S
  | .exn => .no
  | s => s
/-- behind a suite: slot i, and what else held the exception, is empty -/
def outEx (i : Nat) (δ : Sl) : Sl := (δ.map S.noExn).set i .no
def gTryW (sub : Str → Option Bool) (i : Nat) (gsu : Str → GS) : Rn Sl Fl → Rn Sl Fl
  | .ok fl => .ok fl
  | .err c δ' => match sub c with
    | some true => ((gsu c (δ'.set i .exn)).noErrS).bind fun fl => .ok (fl.map (outEx i))
    | some false => .err c δ'
    | none => .bad
  | .bad => .bad
  | .pick n k => .pick n fun j => gTryW sub i gsu (k j)
def gTry (sub : Str → Option Bool) (i : Nat) (g : GS) (gsu : Str → GS) : GS := fun δ => gTryW sub i gsu (g δ)
theorem gTryW_wp {sub : Str → Option Bool} {i : Nat} {gsu : Str → GS} {Q : Fl → Prop} {E : Str → Sl → Prop} : ∀ {r : Rn Sl Fl}, (gTryW sub i gsu r).wp Q E →
    r.wp Q fun c δ' => (sub c = some true ∧ (((gsu c (δ'.set i .exn)).noErrS).bind fun fl => .ok (fl.map (outEx i))).wp Q E) ∨ (sub c = some false ∧ E c δ') := by
  intro r
  induction r with
  | ok fl => exact fun h => h
  | err c δ' =>
    intro h
    unfold gTryW at h
    split at h
    · rename_i e; exact .inl ⟨e, h⟩
    · rename_i e; exact .inr ⟨e, h⟩
    · exact h.elim
  | bad => exact fun h => h
  | pick n k ih => exact fun h j hj => ih j (h j hj)
end
section
variable {K : PySem.W.Frag} {B H : Hp}
theorem SlotsR.toEx {Rg : Option Nat → Hp} {a : Addr} : ∀ {δ : Sl} {σ : L2.St} {fp : List Addr}, SlotsR K (ex := none) Rg H δ σ fp → SlotsR K (ex := some a) Rg H δ σ fp
  | [], _, _, h => h
  | s :: δ, _, _, h => by
    obtain ⟨ov, r, f, g, e1, e2, h1, h2⟩ := h
    refine ⟨ov, r, f, g, e1, e2, ?_, SlotsR.toEx h2⟩
    cases s with
    | exn => obtain ⟨_, _, z, _⟩ := h1; cases z
    | no => exact h1
    | own d => exact h1
    | bor t d => exact h1
theorem SlotsR.offEx {Rg : Option Nat → Hp} {ex : Option Addr} : ∀ {δ : Sl} {σ : L2.St} {fp : List Addr}, SlotsR K (ex := ex) Rg H δ σ fp → SlotsR K (ex := none) Rg H (δ.map S.noExn) σ fp
  | [], _, _, h => h
  | s :: δ, _, _, h => by
    obtain ⟨ov, r, f, g, e1, e2, h1, h2⟩ := h
    refine ⟨ov, r, f, g, e1, e2, ?_, SlotsR.offEx h2⟩
    cases s with
    | exn => exact h1.1
    | no => exact h1
    | own d => exact h1
    | bor t d => exact h1
theorem SlotsR.setExn {Rg : Option Nat → Hp} {a : Addr} : ∀ {δ : Sl} {σ : L2.St} {fp : List Addr} (i : Nat), SlotsR K (ex := some a) Rg H δ σ fp → fp.Nodup → ∃ fp', SlotsR K (ex := some a) Rg H (δ.set i .exn) (σ.set i (some (.ref a))) fp' ∧ fp'.Nodup ∧ ∀ b ∈ fp', b ∈ fp
  | [], _, _, i, h, n => ⟨_, by obtain ⟨rfl, rfl⟩ := h; exact ⟨rfl, rfl⟩, n, fun _ z => z⟩
  | s :: δ, _, _, 0, h, n => by
    obtain ⟨ov, r, f, g, rfl, rfl, h1, h2⟩ := h
    rw [List.nodup_append] at n
    exact ⟨g, ⟨_, r, [], g, rfl, rfl, ⟨rfl, a, rfl, rfl⟩, h2⟩, n.2.1, fun a ha => by simp [ha]⟩
  | s :: δ, _, _, i + 1, h, n => by
    obtain ⟨ov, r, f, g, rfl, rfl, h1, h2⟩ := h
    rw [List.nodup_append] at n
    obtain ⟨fp', q1, q2, q3⟩ := SlotsR.setExn i h2 n.2.1
    refine ⟨f ++ fp', ⟨ov, _, f, fp', rfl, rfl, h1, q1⟩, ?_, fun a ha => ?_⟩
    · rw [List.nodup_append]
      exact ⟨n.1, q2, fun a ha b hb e => n.2.2 a ha b (q3 b hb) e⟩
    · rcases List.mem_append.mp ha with z | z
      · simp [z]
      · simp [q3 a z]
theorem SRel.outEx {Rg : Option Nat → Hp} {ex : Option Addr} {σ : L2.St} {δ : Sl} (i : Nat) (S0 : SRel K B (ex := ex) Rg σ H δ) : SRel K B (ex := none) Rg (σ.set i none) H (outEx i δ) := by
  obtain ⟨b, u, fp, q, n, f⟩ := S0
  obtain ⟨fp', q1, q2, q3⟩ := SlotsR.wipe1 i (v := none) q.offEx n
  exact ⟨b, u, fp', q1, q2, fun a ha => f a (q3 a ha)⟩
end
section
variable {W : WX} {X : Cx} {body suite : List Stmt} {b₀ : Stmt} {g1 : GS} {pos p np pos' : Pos}
/-- the wish of a try's body -/
theorem try_of {sub : Str → Option Bool} {i : Nat} {gsu : Str → GS} {c : Value} {ts : Addr → Value → Option Addr → TS}
    (hts : ts = fun a cls d D σ H => ∃ cl C, X.mg cl = some (.ref C) ∧ cls = .ref C ∧ d = none ∧ tDS ⟨X.K, X.mg, W0, some a⟩ (gsu cl) D σ H) (et : ErrT X.K X.mg c sub) (hc : X.calm = true)
    (D : Ends) (σ : L2.St) (H : Hp) (h : tDS (dc X W) (gTry sub i g1 gsu) D σ H) : tDS ⟨X.K, X.mg, wAs X.K c i ts W D, none⟩ g1 D σ H := by
  rw [dc_calm hc] at h
  obtain ⟨B, Rg, δ, S0, w⟩ := h
  refine ⟨B, Rg, δ, S0, Rn.wp_mono (gTryW_wp w) (fun _ q => q) fun cl δ' q C σ1 H1 hm S1 => ?_⟩
  rcases q with ⟨e, q⟩ | ⟨e, q⟩
  · refine ⟨true, et cl true C e hm, fun _ a ha => ?_, fun z => Bool.noConfusion z⟩
    subst hts
    refine ⟨cl, C, hm, rfl, rfl, ?_⟩
    obtain ⟨b, u, fp, r, n, f⟩ := S1
    obtain ⟨fp', q1, q2, q3⟩ := SlotsR.setExn i (r.toEx (a := a)) n
    refine ⟨B, Rg, δ'.set i .exn, ⟨b, u, fp', q1, q2, fun a ha => f a (q3 a ha)⟩, Rn.wp_noErrS (Rn.wp_mono (Rn.wp_bind.mp q) (fun fl q => ?_) fun _ _ q => q)⟩
    cases fl with
    | nx δ2 => exact fun σ2 H2 S2 => q _ _ (S2.outEx i)
    | bk δ2 => exact fun σ2 H2 S2 => q _ _ (S2.outEx i)
    | ct δ2 => exact fun σ2 H2 S2 => q _ _ (S2.outEx i)
    | ret d => exact q
  · exact ⟨false, et cl false C e hm, fun z => Bool.noConfusion z, fun _ => q C σ1 H1 hm S1⟩
theorem ds_tryAs {x n : Str} {c : Value} {sub : Str → Option Bool} {i : Nat} {gsu : Str → GS} (hs : X.stack = X.env :: X.outer) (hf : X.env.frame = some X.env.locals) (hcal : X.calm = true) (hN : X.N.Nodup) (hi : X.N[i]? = some n) (hln : X.env.kindOf n = some .local)
    (hc : Names X x c) (et : ErrT X.K X.mg c sub) (tk : Takes X W)
    (hb : ∀ (W' : WX) (pn : List (Addr × Obj)) (xe : Value → Shared → Prop), Takes (X.tr pn xe) W' → PassesOwn (model X.prog X.w) X.A X.env xe → DSs W' (X.tr pn xe) body g1)
    (hsu : ∀ (cl : Str) (C a : Addr) (oe : Obj) (pn : List (Addr × Obj)), X.mg cl = some (.ref C) → Zc (.ref C) none oe → (∃ vs, oe.data = .fields vs) → DSs W0 (X.suite a ((a, oe) :: pn)) (b₀ :: suite) (gsu cl)) :
    DS W X (.Try body [.ExceptHandler (some (.Name x np)) (some n) (b₀ :: suite) pos'] [] [] pos) (gTry sub i g1 gsu) := by
  refine PS.imp (ps_try_as (Wout := W) (tb := fun W' => tDS ⟨X.K, X.mg, W', none⟩ g1) (ts := fun a cls d D σ H => ∃ cl C, X.mg cl = some (.ref C) ∧ cls = .ref C ∧ d = none ∧ tDS ⟨X.K, X.mg, W0, some a⟩ (gsu cl) D σ H)
    hs hf hN hi hln hc tk (fun W' pn xe t1 t2 => ?_) fun a oe cls d pn hz hv => ?_) fun D σ H h => try_of rfl et hcal D σ H h
  · have := hb W' pn xe t1 t2
    unfold DSs at this
    rw [dc_calm (X := X.tr pn xe) hcal] at this
    exact this
  · refine ⟨fun pins s σ H D I ⟨cl, C, hm, e1, e2, h⟩ => ?_⟩
    subst e1 e2
    exact (hsu cl C a oe pn hm hz hv).run pins s σ H D I h
end
end DL
/-! DLl: in, isinstance, join, built-ins in short. -/
namespace DL
open PySem PySem.Spec PyProof.Rows L2
def P.flat : P → Bool
  | .tup _ => false
  | .fl _ => false
  | _ => true
def P.eqF : P → P → Bool
  | .non, .non => true
  | .bl a, .bl b => a == b
  | .bl a, .int b => (if a then 1 else 0) == b
  | .int a, .bl b => a == (if b then 1 else 0)
  | .int a, .int b => a == b
  | .str a, .str b => a == b
  | _, _ => false
def inP (x : P) (xs : List P) : Bool := xs.any fun y => P.eqF y x
def fIn (neg : Bool) : D → D → Rn Unit Bool
  | .p (.str x), .p (.str z) => match x.cps.toList with
    | [c] => .ok (if neg then !decide (c ∈ z.cps.toList) else decide (c ∈ z.cps.toList))
    | _ => .ok (if neg then !(!(Builtin.Str.occurrences z x 0 z.length 1).isEmpty) else !(Builtin.Str.occurrences z x 0 z.length 1).isEmpty)
  | .p x, .p (.tup xs) => if x.flat = true ∧ xs.all P.flat = true then .ok (if neg then !inP x xs else inP x xs) else .bad
  | .p x, .p (.fl ns) => if x.flat = true then .ok (if neg then !inP x (ns.map P.int) else inP x (ns.map P.int)) else .bad
  | .p x, .lst xs => if x.flat = true ∧ xs.all P.flat = true then .ok (if neg then !inP x xs else inP x xs) else .bad
  | .p x, .dic kvs => match keyP x with
    | some k => .ok (if neg then !(valP kvs k).isSome else (valP kvs k).isSome)
    | none => .bad
  | _, _ => .bad
section
variable {K : PySem.W.Frag} {H : Hp}
theorem flat_ok {x : P} {v : V} (r : RepP K H x v) (h : x.flat = true) : flatV v = true := by
  cases x <;> first | (cases h; done) | (obtain rfl := (r : v = _); rfl)
theorem eqF_ok {x y : P} {v u : V} (r : RepP K H x v) (r' : RepP K H y u) (h : x.flat = true) (h' : y.flat = true) : eqV v u = P.eqF x y := by
  cases x <;> cases y <;> first
    | (cases h; done)
    | (cases h'; done)
    | (obtain rfl := (r : v = _); obtain rfl := (r' : u = _); rfl)
theorem inP_ok {x : P} {v : V} (rx : RepP K H x v) (hx : x.flat = true) : ∀ {xs : List P} {vs : List V}, RepPs K H xs vs → xs.all P.flat = true → vs.all flatV = true ∧ inV v vs = inP x xs
  | [], vs, h, _ => by
    obtain rfl : vs = [] := h
    exact ⟨rfl, rfl⟩
  | y :: xs, vs, h, hf => by
    obtain ⟨u, r, rfl, h1, h2⟩ := h
    simp only [List.all_cons, Bool.and_eq_true] at hf
    obtain ⟨z1, z2⟩ := inP_ok rx hx h2 hf.2
    unfold inV at z2 ⊢
    unfold inP at z2 ⊢
    simp only [List.all_cons, List.any_cons, flat_ok h1 hf.1, z1, z2, eqF_ok h1 rx hf.1 hx, Bool.and_self, true_and]
end
theorem flat_ints (ns : List Int) : (ns.map P.int).all P.flat = true := by simp [P.flat]
theorem op_in_dict {X : Cx} (hu : X.A.units + 1 < cLine) : OpR X (compareOp .In) (fun x y H Q => ∃ a o, y = .ref a ∧ DGet H a x o ∧ Q (.bl o.isSome) H) := by
  intro pins s σ H x y v u Q I rx ry h
  obtain ⟨a, o, rfl, g, q⟩ := h
  obtain rfl : u = Value.ref a := ry
  exact d_in hu I g rx fun s3 I3 => ⟨.bl o.isSome, H, I3, rfl, q⟩
theorem op_notIn_dict {X : Cx} (hu : X.A.units + 1 < cLine) : OpR X (compareOp .NotIn) (fun x y H Q => ∃ a o, y = .ref a ∧ DGet H a x o ∧ Q (.bl (!o.isSome)) H) := by
  intro pins s σ H x y v u Q I rx ry h
  obtain ⟨a, o, rfl, g, q⟩ := h
  obtain rfl : u = Value.ref a := ry
  exact d_notIn hu I g rx fun s3 I3 => ⟨.bl (!o.isSome), H, I3, rfl, q⟩
def rInA (K : PySem.W.Frag) : R2 := fun x y H Q => rIn K false x y H Q ∨ (∃ a o, y = .ref a ∧ DGet H a x o ∧ Q (.bl o.isSome) H) ∨ (∃ (c : Nat) (z : Str), x = .str ⟨#[c]⟩ ∧ y = .str z ∧ Q (.bl (decide (c ∈ z.cps.toList))) H) ∨ ∃ i j, x = .str i ∧ y = .str j ∧ Q (.bl (!(Builtin.Str.occurrences j i 0 j.length 1).isEmpty)) H
def rNiA (K : PySem.W.Frag) : R2 := fun x y H Q => rIn K true x y H Q ∨ (∃ a o, y = .ref a ∧ DGet H a x o ∧ Q (.bl (!o.isSome)) H) ∨ (∃ (c : Nat) (z : Str), x = .str ⟨#[c]⟩ ∧ y = .str z ∧ Q (.bl (!decide (c ∈ z.cps.toList))) H) ∨ ∃ i j, x = .str i ∧ y = .str j ∧ Q (.bl (!(!(Builtin.Str.occurrences j i 0 j.length 1).isEmpty))) H
theorem op_inA {X : Cx} (hu : X.A.units + 1 < cLine) : OpR X (compareOp .In) (rInA X.K) := op_in_seq.or ((op_in_dict hu).or (op_in_sign.or op_in_str))
theorem op_niA {X : Cx} (hu : X.A.units + 1 < cLine) : OpR X (compareOp .NotIn) (rNiA X.K) := op_notIn_seq.or ((op_notIn_dict hu).or (op_notIn_sign.or op_notIn_str))
theorem one_sign {x : Str} {c : Nat} (h : x.cps.toList = [c]) : x = ⟨#[c]⟩ := by
  obtain ⟨a⟩ := x
  have : a = #[c] := by
    have := congrArg List.toArray h
    simpa using this
  rw [this]
theorem og_in {K : PySem.W.Frag} : OpG K (rInA K) (fB (fIn false)) := by
  intro H x y v u fx fy Q E rx ry h
  have h' := Rn.wp_bind.mp h
  unfold fIn at h'
  split at h'
  · rename_i x z
    obtain rfl : v = .str x := rx.1
    obtain rfl : u = .str z := ry.1
    split at h'
    · rename_i c e
      obtain rfl := one_sign e
      exact .inr (.inr (.inl ⟨c, z, rfl, rfl, RepP.up h' rfl⟩))
    · exact .inr (.inr (.inr ⟨x, z, rfl, rfl, RepP.up h' rfl⟩))
  · rename_i x xs _
    split at h'
    · rename_i hf
      obtain ⟨⟨a, vs, rfl, q, r⟩, _⟩ := ry
      obtain ⟨z1, z2⟩ := inP_ok rx.1 hf.1 r hf.2
      exact .inl ⟨a, vs, rfl, .inr q, flat_ok rx.1 hf.1, z1, by rw [z2]; exact RepP.up h' rfl⟩
    · exact h'.elim
  · rename_i x ns
    split at h'
    · rename_i hf
      obtain ⟨⟨a, o, rfl, q⟩, _⟩ := ry
      obtain ⟨z1, z2⟩ := inP_ok rx.1 hf (RepPs.ofInt (K := K) (H := H) ns) (flat_ints ns)
      exact .inl ⟨a, _, rfl, .inl (.inl (.inr ⟨o, q⟩)), flat_ok rx.1 hf, z1, by rw [z2]; exact RepP.up h' rfl⟩
    · exact h'.elim
  · rename_i x xs
    split at h'
    · rename_i hf
      obtain ⟨a, vs, rfl, q, _, r⟩ := ry
      obtain ⟨z1, z2⟩ := inP_ok rx.1 hf.1 r hf.2
      exact .inl ⟨a, vs, rfl, .inl (SqL.of q), flat_ok rx.1 hf.1, z1, by rw [z2]; exact RepP.up h' rfl⟩
    · exact h'.elim
  · rename_i x kvs
    split at h'
    · rename_i k ek
      obtain ⟨a, ws, rfl, q, _, r⟩ := ry
      obtain rfl : v = kV k := keyP_kV rx.1 ek
      have g := RepKs.get (k := k) r
      refine .inr (.inl ⟨a, _, rfl, DGet.k q, ?_⟩)
      cases e : valP kvs k with
      | none => rw [e] at g h'; rw [g]; exact RepP.up h' rfl
      | some x => rw [e] at g h'; obtain ⟨w, e2, _⟩ := g; rw [e2]; exact RepP.up h' rfl
    · exact h'.elim
  · exact h'.elim
theorem og_ni {K : PySem.W.Frag} : OpG K (rNiA K) (fB (fIn true)) := by
  intro H x y v u fx fy Q E rx ry h
  have h' := Rn.wp_bind.mp h
  unfold fIn at h'
  split at h'
  · rename_i x z
    obtain rfl : v = .str x := rx.1
    obtain rfl : u = .str z := ry.1
    split at h'
    · rename_i c e
      obtain rfl := one_sign e
      exact .inr (.inr (.inl ⟨c, z, rfl, rfl, RepP.up h' rfl⟩))
    · exact .inr (.inr (.inr ⟨x, z, rfl, rfl, RepP.up h' rfl⟩))
  · rename_i x xs _
    split at h'
    · rename_i hf
      obtain ⟨⟨a, vs, rfl, q, r⟩, _⟩ := ry
      obtain ⟨z1, z2⟩ := inP_ok rx.1 hf.1 r hf.2
      exact .inl ⟨a, vs, rfl, .inr q, flat_ok rx.1 hf.1, z1, by rw [z2]; exact RepP.up h' rfl⟩
    · exact h'.elim
  · rename_i x ns
    split at h'
    · rename_i hf
      obtain ⟨⟨a, o, rfl, q⟩, _⟩ := ry
      obtain ⟨z1, z2⟩ := inP_ok rx.1 hf (RepPs.ofInt (K := K) (H := H) ns) (flat_ints ns)
      exact .inl ⟨a, _, rfl, .inl (.inl (.inr ⟨o, q⟩)), flat_ok rx.1 hf, z1, by rw [z2]; exact RepP.up h' rfl⟩
    · exact h'.elim
  · rename_i x xs
    split at h'
    · rename_i hf
      obtain ⟨a, vs, rfl, q, _, r⟩ := ry
      obtain ⟨z1, z2⟩ := inP_ok rx.1 hf.1 r hf.2
      exact .inl ⟨a, vs, rfl, .inl (SqL.of q), flat_ok rx.1 hf.1, z1, by rw [z2]; exact RepP.up h' rfl⟩
    · exact h'.elim
  · rename_i x kvs
    split at h'
    · rename_i k ek
      obtain ⟨a, ws, rfl, q, _, r⟩ := ry
      obtain rfl : v = kV k := keyP_kV rx.1 ek
      have g := RepKs.get (k := k) r
      refine .inr (.inl ⟨a, _, rfl, DGet.k q, ?_⟩)
      cases e : valP kvs k with
      | none => rw [e] at g h'; rw [g]; exact RepP.up h' rfl
      | some x => rw [e] at g h'; obtain ⟨w, e2, _⟩ := g; rw [e2]; exact RepP.up h' rfl
    · exact h'.elim
  · exact h'.elim
/-! ### isinstance -/
def D.ty? : D → Option String
  | .p .non => some "NoneType"
  | .p (.bl _) => some "bool"
  | .p (.int _) => some "int"
  | .p (.str _) => some "str"
  | .p (.tup _) => some "tuple"
  | .lst _ => some "list"
  | .ls _ => some "list"
  | .tp _ => some "tuple"
  | .dic _ => some "dict"
  | .dit _ => some "dict"
  | _ => none
/-- is a a kind of b -/
def tyB (a b : String) : Bool := a == b || (a == "bool" && b == "int")
def tyOkB (b : String) : Bool := ["NoneType", "bool", "int", "str", "tuple", "list", "dict"].all fun a => kitB a b == some (tyB a b)
theorem D.ty_ok {K : PySem.W.Frag} {H : Hp} {d : D} {v : V} {fp : List Addr} {t : String} (r : RepD K H d v fp) (e : d.ty? = some t) : TyX K H v (.type t) ∧ t ∈ ["NoneType", "bool", "int", "str", "tuple", "list", "dict"] := by
  have tupT : ∀ {a : Addr} {vs : List V}, SqT K H a vs → TyX K H (.ref a) (.type "tuple") := fun {a vs} q => by
    rcases q with (q | ⟨o, q⟩) | ⟨o, its, n, q, c, _⟩
    · exact .base (.tup q)
    · exact .fTuple q
    · exact .kTuple q c
  cases d with
  | p x =>
    cases x with
    | non => obtain rfl := Option.some.inj e; obtain rfl : v = .non := r.1; exact ⟨.base .non, by simp⟩
    | bl b => obtain rfl := Option.some.inj e; obtain rfl : v = .bl b := r.1; exact ⟨.base (.bl b), by simp⟩
    | int b => obtain rfl := Option.some.inj e; obtain rfl : v = .int b := r.1; exact ⟨.base (.int b), by simp⟩
    | str b => obtain rfl := Option.some.inj e; obtain rfl : v = .str b := r.1; exact ⟨.base (.str b), by simp⟩
    | tup xs =>
      obtain rfl := Option.some.inj e
      obtain ⟨⟨a, vs, rfl, q, _⟩, _⟩ := r
      exact ⟨tupT q, by simp⟩
    | fl ns => cases e
  | lst xs => obtain rfl := Option.some.inj e; obtain ⟨a, vs, rfl, q, _⟩ := r; exact ⟨.base (.lst q), by simp⟩
  | ls xs => obtain rfl := Option.some.inj e; obtain ⟨a, vs, _, rfl, q, _⟩ := r; exact ⟨.base (.lst q), by simp⟩
  | tp xs => obtain rfl := Option.some.inj e; obtain ⟨a, vs, rfl, q, _⟩ := r; exact ⟨tupT q, by simp⟩
  | dic xs => obtain rfl := Option.some.inj e; obtain ⟨a, vs, rfl, q, _⟩ := r; exact ⟨.base (.dK q), by simp⟩
  | dit xs => obtain rfl := Option.some.inj e; obtain ⟨a, vs, rfl, q, _⟩ := r; exact ⟨.base (.dT q), by simp⟩
  | orc => cases e
  | scr ns => cases e
def gIsi (T : String) (ga : GE) : GE := fun δ => (ga δ).bind fun r => match r.d.ty? with
  | some t => .ok (.own (.p (.bl (tyB t T))))
  | none => .bad
section
variable {W : WX} {X : Cx} {a b e tg iter : Expr} {es : List Expr} {ga gb gc : GE} {gs : GA} {gt : GT} {gi : GI} {pos p p2 : Pos}
theorem de_isi {T : String} {x : Str} (hm : X.mg "isinstance" = none) (hm2 : X.mg x = none) (ha : DE W X e ga) (hv : bootBuiltins x = some (.type T)) (hT : tyOkB T = true) (hg2 : Gl X x := by rfl) (hg : Gl X "isinstance" := by rfl)
    (hn : x ≠ "__name__" := by decide) (hdb : (x == ("__debug__" : Str)) = false := by decide)
    (he : starEach [e, .Name x p2] X.env = (false, eval e X.env) :: starEach [.Name x p2] X.env := by rfl) (he2 : starEach [.Name x p2] X.env = (false, eval (.Name x p2) X.env) :: starEach [] X.env := by rfl) (hpl : (backTo pos (starEach [.Name x p2] X.env)).any (·.1) = false := by rfl) :
    DE W X (.Call (.Name "isinstance" p) [e, .Name x p2] [] pos) (gIsi T ga) := by
  refine PE.imp (pe_callB call_isi hg hm (by decide +kernel) (pa_cons ha (pa_cons (pe_bltn (v := .ty T) hg2 hm2 hv rfl hn hdb) pa_nil he2) he) (by decide) (by decide) he hpl) fun σ H Q ⟨B, Rg, δ, S0, w⟩ => ?_
  refine ⟨B, Rg, δ, S0, Rn.wp_mono (Rn.wp_bind.mp w) (fun r q v H1 s1 rv => ?_) fun _ _ q => q⟩
  split at q
  · rename_i t et
    obtain ⟨fp, rd⟩ := rv.look
    obtain ⟨ty, hm⟩ := D.ty_ok rd et
    refine ⟨v, .ty T, .type t, .type T, tyB t T, rfl, .ty T, ty, kit_ty ?_, q _ H1 s1 (RepR.plain rfl)⟩
    have := List.all_eq_true.mp hT t hm
    simpa using this
  · exact q.elim
/-- isinstance(e, x) of the exception that the suite handles -/
def gIsE (i : Nat) (ob : Option Bool) : GE := fun δ => match δ[i]?, ob with
  | some .exn, some b => .ok (.own (.p (.bl b)))
  | _, _ => .bad
/-- what the module tells of isinstance(e, x) -/
structure IsT (K : PySem.W.Frag) (mg : Str → Option Value) (x : Str) (sub : Str → Option Bool) : Prop where
  ex : ∃ C', mg x = some (.ref C') ∧ ∀ c b C, sub c = some b → mg c = some (.ref C) → ExcC K C ∧ PySem.W.kitOne K (.ref C) (.ref C') = some b
theorem de_isE {x y cl : Str} {C a : Addr} {oe : Obj} {pn : List (Addr × Obj)} {i : Nat} {sub : Str → Option Bool} {py : Pos} (it : IsT X.K X.mg x sub) (hcl : X.mg cl = some (.ref C)) (hz : Zc (.ref C) none oe) (hf : ∃ vs, oe.data = .fields vs)
    (hm : X.mg "isinstance" = none) (hN : X.N[i]? = some y) (hv : Vis X.env.scope y) (hg2 : Gl X x := by rfl) (hg : Gl X "isinstance" := by rfl)
    (hdb : (x == ("__debug__" : Str)) = false := by decide) (hdy : (y == ("__debug__" : Str)) = false := by decide) (hcd : (y == ("__classdict__" : Str)) = false := by decide)
    (he : starEach [.Name y py, .Name x p2] X.env = (false, eval (.Name y py) X.env) :: starEach [.Name x p2] X.env := by rfl) (he2 : starEach [.Name x p2] X.env = (false, eval (.Name x p2) X.env) :: starEach [] X.env := by rfl) (hpl : (backTo pos (starEach [.Name x p2] X.env)).any (·.1) = false := by rfl) :
    DE W0 (X.suite a ((a, oe) :: pn)) (.Call (.Name "isinstance" p) [.Name y py, .Name x p2] [] pos) (gIsE i (sub cl)) := by
  obtain ⟨C', hx, hk⟩ := it.ex
  cases eb : sub cl with
  | none => exact ⟨fun pins s σ H Q I ⟨B, Rg, δ, S0, w⟩ => by
      unfold gIsE at w
      split at w
      · rename_i z; cases z
      · exact w.elim⟩
  | some b =>
    obtain ⟨ec, hkit⟩ := hk cl b C eb hcl
    refine PE.imp (pe_callB (X := X.suite a ((a, oe) :: pn)) (call_isE ec hz hf) hg hm (by decide +kernel) (pa_cons (pe_var (i := i) hN hv hdy hcd) (pa_cons (pe_glob (v := .ref C') hg2 hx rfl hdb) pa_nil he2) he) (by decide) (by decide) he hpl) fun σ H Q ⟨B, Rg, δ, S0, w⟩ => ?_
    unfold gIsE at w
    split at w
    · rename_i b' e1 e2
      cases e2
      obtain ⟨b0, u, fp, q, n, f⟩ := S0
      obtain ⟨ov, f1, e3, r, _⟩ := q.get e1
      obtain ⟨_, a', ea, rfl⟩ := r
      obtain rfl : a = a' := Option.some.inj ea
      exact ⟨_, e3, .ref C', .ref C', b, rfl, fun u h => h, hkit, w _ H (Same.refl H) (RepR.plain rfl)⟩
    · exact w.elim

/-! ### join and other methods of texts -/
def fJoin (a : Str) : D → Rn Unit R
  | .lst xs => match pStrs xs with
    | some ys => if (ys.map (·.length)).sum + ys.length * a.length ≤ 16777216 then .ok (.own (.p (.str (Txt.join a ys)))) else .bad
    | none => .bad
  | .p (.tup xs) => match pStrs xs with
    | some ys => if (ys.map (·.length)).sum + ys.length * a.length ≤ 16777216 then .ok (.own (.p (.str (Txt.join a ys)))) else .bad
    | none => .bad
  | _ => .bad
def gJoin (go ge : GE) : GE := fun δ => (go δ).bind fun s => match s.d with
  | .p (.str a) => (ge δ).bind fun r => fJoin a r.d
  | _ => .bad
end
end DL
/-! DLm: join; built-ins in short. -/
namespace DL
open PySem PySem.Spec PyProof.Rows L2
section
variable {W : WX} {X : Cx} {a b e o tg iter : Expr} {es : List Expr} {ga gb gc go ge : GE} {gs : GA} {gt : GT} {gi : GI} {pos p p2 : Pos}
theorem de_join {apos : Pos} (ho : DE W X o go) (he : DE W X e ge) (hs : starEach [e] X.env = [(false, eval e X.env)] := by rfl) (hbase : attributeBase o "join" X.env (eval o X.env) = eval o X.env := by rfl) (hline : (apos.endLine == pos.line) = true := by rfl) :
    DE W X (.Call (.Attribute o "join" apos) [e] [] pos) (gJoin go ge) := by
  refine PE.imp (pe_join ho he hs hbase hline) fun σ H Q ⟨B, Rg, δ, S0, w⟩ => ?_
  refine tD_val S0 w fun r1 v1 H1 s1 rv1 S1 w1 => ?_
  split at w1
  · rename_i a ea
    obtain rfl : v1 = .str a := rv1.getP ea
    refine ⟨⟨a, rfl⟩, ?_⟩
    refine tD_val S1 w1 fun r2 v2 H2 s2 rv2 S2 w2 => ?_
    obtain ⟨fp, rd⟩ := rv2.look
    generalize r2.d = d at rd w2
    unfold fJoin at w2
    split at w2
    · rename_i xs
      split at w2
      · rename_i ys ey
        split at w2
        · rename_i hz
          obtain ⟨q, vs, rfl, hq, _, r⟩ := rd
          obtain rfl := pStrs_ok ey
          obtain rfl := r.str
          exact ⟨a, q, ys, rfl, rfl, .inl (SqL.of hq), hz, RepP.up w2 rfl⟩
        · exact w2.elim
      · exact w2.elim
    · rename_i xs
      split at w2
      · rename_i ys ey
        split at w2
        · rename_i hz
          obtain ⟨⟨q, vs, rfl, hq, r⟩, _⟩ := rd
          obtain rfl := pStrs_ok ey
          obtain rfl := r.str
          exact ⟨a, q, ys, rfl, rfl, .inr hq, hz, RepP.up w2 rfl⟩
        · exact w2.elim
      · exact w2.elim
    · exact w2.elim
  · exact w1.elim
theorem de_abs (hm : X.mg "abs" = none) (ha : DA W X (e :: es) gs) (hg : Gl X "abs" := by rfl) (he : starEach (e :: es) X.env = (false, eval e X.env) :: starEach es X.env := by rfl) (hpl : (backTo pos (starEach es X.env)).any (·.1) = false := by rfl) : DE W X (.Call (.Name "abs" p) (e :: es) [] pos) (gCall fAbs gs) :=
  de_callB call_abs cg_abs hm (by decide +kernel) ha hg (he := he) (hpl := hpl)
theorem de_max (hc : X.calm = true) (hm : X.mg "max" = none) (ha : DA W X (e :: es) gs) (hg : Gl X "max" := by rfl) (he : starEach (e :: es) X.env = (false, eval e X.env) :: starEach es X.env := by rfl) (hpl : (backTo pos (starEach es X.env)).any (·.1) = false := by rfl) : DE W X (.Call (.Name "max" p) (e :: es) [] pos) (gCall fMaxL gs) :=
  de_callB ((cr_max hc).or (call_max2 hc)) cg_max hm (by decide +kernel) ha hg (he := he) (hpl := hpl)
theorem de_min (hc : X.calm = true) (hm : X.mg "min" = none) (ha : DA W X (e :: es) gs) (hg : Gl X "min" := by rfl) (he : starEach (e :: es) X.env = (false, eval e X.env) :: starEach es X.env := by rfl) (hpl : (backTo pos (starEach es X.env)).any (·.1) = false := by rfl) : DE W X (.Call (.Name "min" p) (e :: es) [] pos) (gCall fMinL gs) :=
  de_callB ((cr_min hc).or (call_min2 hc)) cg_min hm (by decide +kernel) ha hg (he := he) (hpl := hpl)
theorem de_sum (hc : X.calm = true) (hm : X.mg "sum" = none) (ha : DA W X (e :: es) gs) (hg : Gl X "sum" := by rfl) (he : starEach (e :: es) X.env = (false, eval e X.env) :: starEach es X.env := by rfl) (hpl : (backTo pos (starEach es X.env)).any (·.1) = false := by rfl) : DE W X (.Call (.Name "sum" p) (e :: es) [] pos) (gCall fSum gs) :=
  de_callB (cr_sum hc) cg_sum hm (by decide +kernel) ha hg (he := he) (hpl := hpl)
theorem de_any (hc : X.calm = true) (hm : X.mg "any" = none) (ha : DA W X (e :: es) gs) (hg : Gl X "any" := by rfl) (he : starEach (e :: es) X.env = (false, eval e X.env) :: starEach es X.env := by rfl) (hpl : (backTo pos (starEach es X.env)).any (·.1) = false := by rfl) : DE W X (.Call (.Name "any" p) (e :: es) [] pos) (gCall (fAnyAll fun bs => bs.any id) gs) :=
  de_callB (cr_any hc) cg_any hm (by decide +kernel) ha hg (he := he) (hpl := hpl)
theorem de_all (hc : X.calm = true) (hm : X.mg "all" = none) (ha : DA W X (e :: es) gs) (hg : Gl X "all" := by rfl) (he : starEach (e :: es) X.env = (false, eval e X.env) :: starEach es X.env := by rfl) (hpl : (backTo pos (starEach es X.env)).any (·.1) = false := by rfl) : DE W X (.Call (.Name "all" p) (e :: es) [] pos) (gCall (fAnyAll fun bs => bs.all id) gs) :=
  de_callB (cr_all hc) cg_all hm (by decide +kernel) ha hg (he := he) (hpl := hpl)
theorem de_tuple (hm : X.mg "tuple" = none) (ha : DA W X (e :: es) gs) (hg : Gl X "tuple" := by rfl) (he : starEach (e :: es) X.env = (false, eval e X.env) :: starEach es X.env := by rfl) (hpl : (backTo pos (starEach es X.env)).any (·.1) = false := by rfl) : DE W X (.Call (.Name "tuple" p) (e :: es) [] pos) (gCall fTuple gs) :=
  de_callTy call_tuple_of cg_tuple hm (by decide +kernel) ha hg (he := he) (hpl := hpl)
theorem de_list (hm : X.mg "list" = none) (ha : DA W X (e :: es) gs) (hg : Gl X "list" := by rfl) (he : starEach (e :: es) X.env = (false, eval e X.env) :: starEach es X.env := by rfl) (hpl : (backTo pos (starEach es X.env)).any (·.1) = false := by rfl) : DE W X (.Call (.Name "list" p) (e :: es) [] pos) (gCall fList gs) :=
  de_callTy call_list_of cg_list hm (by decide +kernel) ha hg (he := he) (hpl := hpl)
theorem de_intc (hm : X.mg "int" = none) (ha : DA W X (e :: es) gs) (hg : Gl X "int" := by rfl) (he : starEach (e :: es) X.env = (false, eval e X.env) :: starEach es X.env := by rfl) (hpl : (backTo pos (starEach es X.env)).any (·.1) = false := by rfl) : DE W X (.Call (.Name "int" p) (e :: es) [] pos) (gCall fInt1 gs) :=
  de_callTy call_int1 cg_int hm (by decide +kernel) ha hg (he := he) (hpl := hpl)
end
end DL
/-! DLn: a loop over the list of a slot; words for the printer. -/
namespace DL
open PySem PySem.Spec PyProof.Rows L2
/-- what is lent of slot i's goes -/
def S.offT (i : Nat) : S → S
  | .bor (some j) d => if j = i then .no else .bor (some j) d
  | s => s
/-- slot i's list, lent while a loop walked it, is one's own again -/
def outV (i : Nat) (δ : Sl) : Sl := match δ[i]? with
  | some (.bor (some j) (.lst xs)) => if j = i then (δ.map (S.offT i)).set i (.own (.lst xs)) else δ.map (S.offT i)
  | _ => δ.map (S.offT i)
def Rn.outS (f : Sl → Sl) : Rn Sl Fl → Rn Sl Fl
  | .ok fl => .ok (fl.map f)
  | .err c δ => .err c (f δ)
  | .bad => .bad
  | .pick n k => .pick n fun j => (k j).outS f
theorem Rn.wp_outS {f : Sl → Sl} {Q : Fl → Prop} {E : Str → Sl → Prop} : ∀ {w : Rn Sl Fl}, (w.outS f).wp Q E → w.wp (fun fl => Q (fl.map f)) (fun c δ => E c (f δ)) := by
  intro w
  induction w with
  | ok a => exact fun h => h
  | err c e => exact fun h => h
  | bad => exact fun h => h
  | pick n k ih => exact fun h i hi => ih i (h i hi)
def notBor (i : Nat) (δ : Sl) : Bool := δ.all fun s => match s with
  | .bor (some j) _ => j != i
  | _ => true
/-- for t in x, x the name in slot i -/
def gForV (t : Tg) (i : Nat) (g : GS) : GS := fun δ => match δ[i]? with
  | some (.own (.lst xs)) => if notBor i δ = true then (gForL t g xs (δ.set i (.bor (some i) (.lst xs)))).outS (outV i) else .bad
  | some (.own (.p x)) => match (R.own (.p x)).items with
    | some xs => gForL t g xs δ
    | none => .bad
  | some (.bor _ (.p x)) => match (R.own (.p x)).items with
    | some xs => gForL t g xs δ
    | none => .bad
  | some (.bor _ (.lst xs)) => gForL t g xs δ
  | _ => .bad

section
variable {K : PySem.W.Frag} {B H H' : Hp} {ex : Option Addr} {Rg : Rgs ex}
/-- H at the addresses f alone -/
def onlyH (H : Hp) (f : List Addr) : Hp := fun b => if b ∈ f then H b else none
def lendRg (Rg : Rgs ex) (i : Nat) (G : Hp) : Rgs ex := fun t => if t = some i then G else Rg t
theorem SlotR.lend {i : Nat} {G : Hp} {s : S} {ov : Option V} {fp : List Addr} (h : SlotR K Rg H s ov fp) (hn : ∀ d, s ≠ .bor (some i) d) : SlotR K (lendRg Rg i G) H s ov fp := by
  cases s with
  | no => exact h
  | exn => exact h
  | own d => exact h
  | bor t d =>
    obtain ⟨e, v, g, e1, r, q⟩ := h
    refine ⟨e, v, g, e1, r, fun a ha => ?_⟩
    show (if t = some i then G else Rg t) a ≠ none
    rw [if_neg (fun z => hn d (by rw [z]))]
    exact q a ha
theorem SlotsR.lend0 {i : Nat} {G : Hp} : ∀ {δ : Sl} {σ : L2.St} {fp : List Addr}, SlotsR K Rg H δ σ fp → notBor i δ = true → SlotsR K (lendRg Rg i G) H δ σ fp
  | [], _, _, h, _ => h
  | s :: δ, _, _, h, n => by
    obtain ⟨ov, r, f, g, e1, e2, h1, h2⟩ := h
    unfold notBor at n
    rw [List.all_cons, Bool.and_eq_true] at n
    refine ⟨ov, r, f, g, e1, e2, h1.lend fun d z => ?_, SlotsR.lend0 h2 n.2⟩
    subst z
    simp at n
theorem SlotsR.lend {d : D} {i : Nat} : ∀ {δ : Sl} {σ : L2.St} {fp : List Addr} (j : Nat), SlotsR K Rg H δ σ fp → fp.Nodup → notBor i δ = true → δ[j]? = some (.own d) →
    ∃ v f, σ[j]? = some (some v) ∧ RepD K H d v f ∧ (∀ a ∈ f, a ∈ fp) ∧ ∃ fp', SlotsR K (lendRg Rg i (onlyH H f)) H (δ.set j (.bor (some i) d)) σ fp' ∧ fp'.Nodup ∧ ∀ b ∈ fp', b ∈ fp ∧ b ∉ f
  | [], _, _, j, _, _, _, e => by simp at e
  | s :: δ, _, _, 0, h, n, nb, e => by
    obtain ⟨ov, r, f, g, rfl, rfl, h1, h2⟩ := h
    obtain rfl : s = .own d := by simpa using e
    obtain ⟨v, rfl, rd⟩ := h1
    rw [List.nodup_append] at n
    unfold notBor at nb
    rw [List.all_cons, Bool.and_eq_true] at nb
    refine ⟨v, f, rfl, rd, fun a ha => by simp [ha], g, ⟨some v, r, [], g, rfl, rfl, ⟨rfl, v, f, rfl, rd, fun a ha => ?_⟩, SlotsR.lend0 h2 nb.2⟩, n.2.1, fun b hb => ⟨by simp [hb], fun z => n.2.2 b z b hb rfl⟩⟩
    show (if some i = some i then onlyH H f else Rg (some i)) a ≠ none
    rw [if_pos rfl]
    unfold onlyH
    rw [if_pos ha]
    exact rd.mem a ha
  | s :: δ, _, _, j + 1, h, n, nb, e => by
    obtain ⟨ov, r, f, g, rfl, rfl, h1, h2⟩ := h
    rw [List.nodup_append] at n
    unfold notBor at nb
    rw [List.all_cons, Bool.and_eq_true] at nb
    obtain ⟨v, fj, e1, rd, sub, fp', q1, q2, q3⟩ := SlotsR.lend (i := i) j h2 n.2.1 nb.2 (by simpa using e)
    refine ⟨v, fj, by simpa using e1, rd, fun a ha => by simp [sub a ha], f ++ fp', ⟨ov, r, f, fp', rfl, rfl, h1.lend fun d z => ?_, q1⟩, ?_, fun b hb => ?_⟩
    · subst z
      simp at nb
    · rw [List.nodup_append]
      exact ⟨n.1, q2, fun a ha b hb e => n.2.2 a ha b (q3 b hb).1 e⟩
    · rcases List.mem_append.mp hb with z | z
      · exact ⟨by simp [z], fun y => n.2.2 b z b (sub b y) rfl⟩
      · exact ⟨by simp [(q3 b z).1], (q3 b z).2⟩
theorem SlotR.off {i : Nat} {G : Hp} {s : S} {ov : Option V} {fp : List Addr} (h : SlotR K (lendRg Rg i G) H s ov fp) : SlotR K Rg H (s.offT i) ov fp := by
  cases s with
  | no => exact h
  | exn => exact h
  | own d => exact h
  | bor t d =>
    obtain ⟨e, v, g, e1, r, q⟩ := h
    cases t with
    | none => exact ⟨e, v, g, e1, r, fun a ha => q a ha⟩
    | some j =>
      unfold S.offT
      split
      · rename_i c d' e0
        cases e0
        split
        · exact e
        · rename_i hj
          refine ⟨e, v, g, e1, r, fun a ha => ?_⟩
          have := q a ha
          unfold lendRg at this
          rw [if_neg (fun z => hj (Option.some.inj z))] at this
          exact this
      · rename_i z; exact absurd rfl (z j d)
theorem SlotsR.off {i : Nat} {G : Hp} : ∀ {δ : Sl} {σ : L2.St} {fp : List Addr}, SlotsR K (lendRg Rg i G) H δ σ fp → SlotsR K Rg H (δ.map (S.offT i)) σ fp
  | [], _, _, h => h
  | s :: δ, _, _, h => by
    obtain ⟨ov, r, f, g, e1, e2, h1, h2⟩ := h
    exact ⟨ov, r, f, g, e1, e2, h1.off, SlotsR.off h2⟩
theorem SlotsR.putBack {s : S} {ov : Option V} {f' : List Addr} (hs : SlotR K Rg H s ov f') : ∀ {δ : Sl} {σ : L2.St} {fp : List Addr} (i : Nat), σ[i]? = some ov → SlotsR K Rg H δ σ fp → fp.Nodup → f'.Nodup → (∀ a ∈ f', a ∉ fp) →
    ∃ fp', SlotsR K Rg H (δ.set i s) σ fp' ∧ fp'.Nodup ∧ ∀ a ∈ fp', a ∈ fp ∨ a ∈ f' := fun {δ σ fp} i ei h n n' dj => by
  have hi : i < δ.length := by rw [h.len]; exact (List.getElem?_eq_some_iff.mp ei).1
  obtain ⟨fp', q1, q2, q3⟩ := SlotsR.set hs i hi h n n' dj
  have e : σ.set i ov = σ := by
    obtain ⟨h1, h2⟩ := List.getElem?_eq_some_iff.mp ei
    rw [← h2]; exact List.set_getElem_self h1
  rw [e] at q1
  exact ⟨fp', q1, q2, q3⟩
end
section
variable {W : WX} {X : Cx} {tg : Expr} {body : List Stmt} {g1 : GS} {pos p : Pos}
theorem ds_forV {t : Tg} {i : Nat} {x : Str} (hN : X.N[i]? = some x) (hv : Vis X.env.scope x) (hp : PassesOwn (model X.prog X.w) X.A X.env X.xe) (hc : X.calm = true) (hg : PG X tg (t.g X.K)) (hb : DSs W X body g1)
    (hd : (x == ("__debug__" : Str)) = false := by decide) (hcd : (x == ("__classdict__" : Str)) = false := by decide)
    (hs : ∀ y, foldedSetIterable (.Name x p) X.env y = pure y := by intro _; rfl) : DS W X (.For tg (.Name x p) body [] pos) (gForV t i g1) := by
  refine PS.imp (ps_for hp hc (pi_seq (pe_var hN hv hd hcd)) hg hb hs) fun D σ H ⟨B, Rg, δ, S0, w⟩ => ?_
  -- nothing of the slots changes
  have fin : ∀ {J : It} {G : Hp} {xs : List P}, Same G H → (∀ b, G b ≠ none → Fast H b ∨ B b ≠ none) → Runs X.K G J xs → (gForL t g1 xs δ).wp (postF X.K B Rg D) (postE (dc X W) B Rg) →
      ∃ W1 : Nat → Nat → L2.St → Hp → Prop, (∃ m, W1 0 m σ H) ∧ ∀ i m σ H, W1 i m σ H → (J.stop i H ∧ D.nx σ H) ∨
        (J.go i H ∧ ∃ N : L2.St → Hp → Prop, (∀ σ' H', N σ' H' → ∃ m', m' < m ∧ W1 (i + 1) m' σ' H') ∧ ∀ x H', J.yld i H x H' → t.g X.K x σ H' fun σ2 H2 => tDS (dc X W) g1 { nx := N, rt := D.rt, ct := N, bk := D.nx } σ2 H2) := by
    intro J G xs g1' g2 g3 w
    obtain ⟨B', b1, b2, S1⟩ := S0.hold (Same.refl H) g1' (fun a ha => .inr (g2 a ha))
    exact loop_core (c := dc X W) b2 g3 S1 (Rn.wp_mono w (fun fl q => postF_hold b1 S0.sub q) fun cl δ q => postE_hold b1 S0.sub q)
  have ofWalk : ∀ {J : It} {xs : List P}, Walk X.K (fun _ => some (.lst [])) H J xs → ∃ G, Same G H ∧ (∀ b, G b ≠ none → Fast H b ∨ B b ≠ none) ∧ Runs X.K G J xs := fun wk => by
    obtain ⟨G, z1, z2, z3⟩ := wk.ex
    exact ⟨G, z1, fun b hb => .inl ((z2 b hb).resolve_left fun z => nomatch z), z3⟩
  have plain : ∀ {x : P} {v : V} {xs : List P}, RepP X.K H x v → (R.own (.p x)).items = some xs → (gForL t g1 xs δ).wp (postF X.K B Rg D) (postE (dc X W) B Rg) → σ[i]? = some (some v) →
      tFor (iSeq X.K (tVar i)) (t.g X.K) (tDS (dc X W) g1) D σ H := by
    intro x v xs r ei w e1
    refine ⟨v, e1, ?_⟩
    unfold R.items at ei
    split at ei
    · rename_i e0; cases e0
      obtain rfl := Option.some.inj ei
      obtain ⟨a, vs, rfl, qa, ra⟩ := r
      obtain ⟨G, z1, z2, z3⟩ := ofWalk (.tup qa ra)
      exact .inr (.inl ⟨a, rfl, ⟨vs, qa⟩, fin z1 z2 z3 w⟩)
    · rename_i e0; cases e0
    · rename_i z e0; cases e0
      obtain rfl := Option.some.inj ei
      obtain rfl : v = .str z := r
      obtain ⟨G, z1, z2, z3⟩ := ofWalk (.str z)
      exact .inr (.inr ⟨z, rfl, fin z1 z2 z3 w⟩)
    · rename_i e0; cases e0
    · rename_i e0; cases e0
    · cases ei
  unfold gForV at w
  split at w
  · rename_i xs es
    split at w
    · rename_i nb
      obtain ⟨bs, bu, fp, q, n, f⟩ := S0
      obtain ⟨v, f1, e1, rd, sub, fp', q1, q2, q3⟩ := SlotsR.lend (i := i) i q n nb es
      have fB : ∀ a ∈ f1, B a = none := fun a ha => f a (sub a ha)
      -- B with the list
      have S1 : SRel X.K (fun b => if b ∈ f1 then H b else B b) (lendRg Rg i (onlyH H f1)) σ H (δ.set i (.bor (some i) (.lst xs))) := by
        refine ⟨fun b o e => ?_, fun tt b o e => ?_, fp', q1, q2, fun b hb => ?_⟩
        · have e' : (if b ∈ f1 then H b else B b) = some o := e
          split at e'
          · exact e'
          · exact bs b o e'
        · show (if b ∈ f1 then H b else B b) = some o
          have e' : (if tt = some i then onlyH H f1 else Rg tt) b = some o := e
          split at e'
          · unfold onlyH at e'
            split at e'
            · rename_i hm; rw [if_pos hm]; exact e'
            · cases e'
          · have z := bu tt b o e'
            split
            · rename_i hm; rw [fB b hm] at z; cases z
            · exact z
        · show (if b ∈ f1 then H b else B b) = none
          rw [if_neg (q3 b hb).2]
          exact f b (q3 b hb).1
      have bB : Same B (fun b => if b ∈ f1 then H b else B b) := fun b o e => by
        show (if b ∈ f1 then H b else B b) = some o
        split
        · exact bs b o e
        · exact e
      obtain ⟨a, vs, rfl, qa, rfl, ra⟩ := rd
      obtain ⟨G, z1, z2, z3⟩ := runs_list (K := X.K) qa ra
      obtain ⟨B', b1, b2, S2⟩ := S1.hold (Same.refl H) z1 (fun b hb => .inr ((z2 b hb).elim (fun e => .inr (by
        subst e
        show (if b ∈ [b] then H b else B b) ≠ none
        rw [if_pos (by simp), qa]; exact fun z => nomatch z)) .inl))
      have back : ∀ {σ' : L2.St} {H' : Hp} {δ' : Sl}, SRel X.K B' (lendRg Rg i (onlyH H [a])) σ' H' δ' → SRel X.K B Rg σ' H' (outV i δ') := by
        intro σ' H' δ' S3
        obtain ⟨cs, cu, gp, p1, p2, p3⟩ := S3
        have BB : Same B B' := bB.trans b1
        have p1' := p1.off
        unfold outV
        split
        · rename_i j ys ej
          split
          · rename_i hj
            subst hj
            obtain ⟨ov, gf, w1, w2, _⟩ := p1.get ej
            obtain ⟨_, u, g, rfl, rg, hg⟩ := w2
            obtain ⟨a', us, rfl, qa', rfl, ra'⟩ := rg
            have ha' : (if (some j : Option Nat) = some j then onlyH H [a] else Rg (some j)) a' ≠ none := hg a' (by simp)
            rw [if_pos rfl] at ha'
            unfold onlyH at ha'
            split at ha'
            · rename_i hm
              obtain rfl : a' = a := by simpa using hm
              have nB : B a' = none := fB a' (by simp)
              obtain ⟨fp2, r1, r2, r3⟩ := SlotsR.putBack (s := .own (.lst ys)) (f' := [a']) ⟨_, rfl, a', us, rfl, qa', rfl, ra'⟩ j w1 p1' p2 (by simp) (fun b hb hc => by
                obtain rfl : b = a' := by simpa using hb
                have := p3 b hc
                have z : B' b = some (.lst vs) := b1 b _ (by show (if b ∈ [b] then H b else B b) = _; rw [if_pos (by simp)]; exact qa)
                rw [this] at z; cases z)
              refine ⟨BB.trans cs, bu, fp2, r1, r2, fun b hb => ?_⟩
              rcases r3 b hb with z | z
              · exact BB.free (p3 b z)
              · obtain rfl : b = a' := by simpa using z
                exact nB
            · exact absurd rfl ha'
          · exact ⟨BB.trans cs, bu, gp, p1', p2, fun b hb => BB.free (p3 b hb)⟩
        · exact ⟨BB.trans cs, bu, gp, p1', p2, fun b hb => BB.free (p3 b hb)⟩
      refine ⟨_, e1, .inl ⟨a, rfl, ⟨vs, SqL.of qa⟩, ?_⟩⟩
      refine loop_core (c := dc X W) b2 z3 S2 (Rn.wp_mono (Rn.wp_outS w) (fun fl q => ?_) fun cl δ q C σ' H' e S => q C σ' H' e (back S))
      cases fl with
      | nx δ' => exact fun σ' H' S => q σ' H' (back S)
      | bk δ' => exact fun σ' H' S => q σ' H' (back S)
      | ct δ' => exact fun σ' H' S => q σ' H' (back S)
      | ret d => exact fun v H' s ⟨fp, r, n, f⟩ => q v H' ((bB.trans b1).trans s) ⟨fp, r, n, fun a ha => (bB.trans b1).free (f a ha)⟩
    · exact w.elim
  · rename_i x es
    split at w
    · rename_i xs ex
      obtain ⟨v, g, e1, r⟩ := S0.slot es (.inl rfl)
      exact plain r.1 ex w e1
    · exact w.elim
  · rename_i tt x es
    split at w
    · rename_i xs ex
      obtain ⟨v, g, e1, r⟩ := S0.slot es (.inr ⟨tt, rfl⟩)
      exact plain r.1 ex w e1
    · exact w.elim
  · rename_i tt xs es
    obtain ⟨bs, bu, fp, q, n, f⟩ := id S0
    obtain ⟨ov, f1, e1, r, _⟩ := q.get es
    obtain ⟨_, v, g, rfl, rd, hg⟩ := r
    obtain ⟨a, vs, rfl, qa, rfl, ra⟩ := rd
    obtain ⟨G, z1, z2, z3⟩ := runs_list (K := X.K) qa ra
    refine ⟨_, e1, .inl ⟨a, rfl, ⟨vs, SqL.of qa⟩, fin z1 (fun b hb => (z2 b hb).elim (fun e => .inr ?_) .inl) z3 w⟩⟩
    subst e
    cases z : Rg tt b with
    | none => exact absurd z (hg b (by simp))
    | some o => rw [bu tt b o z]; exact fun z => nomatch z
  · exact w.elim
end
end DL
/-! DLo: the draws of a law: what _law_begin and _law_take promise, the list of draws hidden. -/
namespace DL
open PySem PySem.Spec PyProof.Rows L2
theorem iteTT {c : Bool} {A B : Prop} (hc : c = true) (h : A) : if c = true then A else B := by rw [if_pos hc]; exact h
theorem iteFF {c : Bool} {A B : Prop} (hc : c = false) (h : B) : if c = true then A else B := by rw [hc, if_neg (by decide)]; exact h
section
variable {P : Program} {w : World} {K : PySem.W.Frag} {mg : Str → Option Value} {base : Heap} {H : Hp} {h : Heap} {a s : Addr}
theorem hok_swap {o o' : HO} (ok : HOk P w H h) (ea : H a = some o) (n1 : ∀ x, o ≠ .own x) (n2 : ∀ xs, o ≠ .tup xs) (new : ObjOk P w (upd H a o') h a o') : HOk P w (upd H a o') h := fun b u e => by
  by_cases hb : b = a
  · subst hb; rw [upd_same] at e; cases e; exact new
  · rw [upd_ne hb] at e
    refine (ok b u e).stay (fun c v _ q => q) (fun c q => ?_) fun c xs q => ?_
    · rw [upd_ne (fun z => by subst z; rw [ea] at q; exact n1 _ (Option.some.inj q))]; exact q
    · rw [upd_ne (fun z => by subst z; rw [ea] at q; exact n2 _ (Option.some.inj q))]; exact q
theorem orc_hide {i b z : Int} (ok : HOk P w H h) (ea : H a = some (.lst [.ref s, .int i, .int b, .int z])) (hi : 0 ≤ i) (hb : 0 ≤ b) (hz : 0 ≤ z) (hz2 : z < 2147483647) : HOk P w (upd H a (.ext (OrcAt a s))) h := by
  obtain ⟨_, its, n, r, e⟩ := ok a _ ea
  refine hok_swap ok ea (fun _ z => by cases z) (fun _ z => by cases z) ?_
  cases r with
  | cons r1 r =>
    cases r with
    | cons r2 r =>
      cases r with
      | cons r3 r =>
        cases r with
        | cons r4 r =>
          cases r
          obtain rfl := (r1 : _ = Value.ref s)
          obtain ⟨t2, rfl⟩ := r2
          obtain ⟨t3, rfl⟩ := r3
          obtain ⟨t4, rfl⟩ := r4
          refine ⟨⟨i, b, z, t2, t3, t4, n, e, hi, hb, hz, hz2⟩, ⟨_, e⟩, fun h1 h2 ⟨i, b, z, t2, t3, t4, n, e, q⟩ k => ⟨i, b, z, t2, t3, t4, n, k _ e, q⟩⟩
theorem orc_show (ok : HOk P w H h) (ea : H a = some (.ext (OrcAt a s))) : ∃ i b z : Int, HOk P w (upd H a (.lst [.ref s, .int i, .int b, .int z])) h ∧ 0 ≤ i ∧ 0 ≤ b ∧ 0 ≤ z ∧ z < 2147483647 := by
  obtain ⟨⟨i, b, z, t2, t3, t4, n, e, q⟩, _⟩ := ok a _ ea
  refine ⟨i, b, z, hok_swap ok ea (fun _ z => by cases z) (fun _ z => by cases z) ?_, q⟩
  exact ⟨by rw [sizeLine_eq]; show 4 ≤ 16777216; decide, _, n, .cons rfl (.cons ⟨t2, rfl⟩ (.cons ⟨t3, rfl⟩ (.cons ⟨t4, rfl⟩ .nil))), e⟩
/-- the draws' list as a list of values: _law_take -/
def spTakeL : Sp := fun vs H Q _ => ∃ (a s : Addr) (i b z many : Int) (ns : List Int), vs = [.ref a, .int many] ∧ H a = some (.lst [.ref s, .int i, .int b, .int z]) ∧ H s = some (.lst (ns.map V.int)) ∧
  0 < many ∧ many.natAbs.log2 < 9000 ∧ 0 ≤ i ∧ 0 ≤ b ∧ 0 ≤ z ∧ z < 2147483647 ∧
  ∀ r i' b' z' : Int, 0 ≤ r → r < many → 0 ≤ i' → 0 ≤ b' → 0 ≤ z' → z' < 2147483647 → Q (.int r) (upd H a (.lst [.ref s, .int i', .int b', .int z']))
/-- _law_begin -/
def spBegL (K : PySem.W.Frag) : Sp := fun vs H Q _ => ∃ (p : Addr) (ns : List Int), vs = [.ref p] ∧ ns.length ≤ 63 ∧ SqL K H p (ns.map V.int) ∧
  ∀ (a s : Addr) (z : Int) (H' : Hp), Same H H' → H a = none → H s = none → a ≠ s → H' a = some (.lst [.ref s, .int 0, .int 0, .int z]) → H' s = some (.lst (ns.map V.int)) → 0 ≤ z → z < 2147483647 → Q (.ref a) H'
/-- a draw -/
def takeF : Fn
  | [.orc, .p (.int n)] => if 0 < n ∧ n.natAbs.log2 < 9000 then .pick n.toNat fun i => .ok (.p (.int (i : Int))) else .bad
  | _ => .bad
def beginF : Fn
  | [.scr ns] => if ns.length ≤ 63 then .ok .orc else .bad
  | _ => .bad
theorem take_hide {k : Nat} {f : Addr} {fd : FuncData} {ps : List Str} (F : FnOk P w K mg base CX0 k f fd ps spTakeL) (hp : ps.length = 2) : FnOk P w K mg base (L2.CX P w) k f fd ps (spD K mg 2 takeF) := by
  refine ⟨fun vs H Q E ⟨ds, hl, lk, _⟩ => by rw [lk.len, hl, hp], fun A outer st H args us vs Q E hr e0 hb r ⟨ds, hl, lk, wpv⟩ => ?_⟩
  unfold takeF at wpv
  split at wpv
  · rename_i n
    split at wpv
    · rename_i hn
      obtain ⟨v, u, fp, gp, rfl, r1, r2⟩ := lk.two
      obtain ⟨a, s, ns, rfl, _, ea, es⟩ := r1
      obtain rfl : u = .int n := r2.1
      obtain ⟨i, b, z, ok1, hi, hb', hz, hz2⟩ := orc_show e0.hok ea
      have ne : ∀ {c : Addr}, H c = none → c ≠ a := fun q z => by subst z; rw [ea] at q; cases q
      have nes : s ≠ a := fun z => by subst z; rw [es] at ea; cases ea
      have e1 : Env0 P w K mg base A outer st (upd H a (.lst [.ref s, .int i, .int b, .int z])) := ⟨e0.frames, e0.mod, fun c o q => ⟨(e0.bs c o q).1, by rw [upd_ne (ne (e0.bs c o q).2)]; exact (e0.bs c o q).2⟩, e0.bsz, e0.funs,
        fun c hc => by rw [upd_ne (ne (e0.frf c hc))]; exact e0.frf c hc, ok1, e0.bare⟩
      refine codeAny_mono (F.run A outer st _ args us _ (fun v H2 => ∃ r i' b' z' : Int, v = .int r ∧ 0 ≤ r ∧ r < n ∧ 0 ≤ i' ∧ 0 ≤ b' ∧ 0 ≤ z' ∧ z' < 2147483647 ∧ H2 = upd (upd H a (.lst [.ref s, .int i, .int b, .int z])) a (.lst [.ref s, .int i', .int b', .int z'])) (fun _ _ _ => False) hr e1 hb r
        ⟨a, s, i, b, z, n, ns, rfl, upd_same, by rw [upd_ne nes]; exact es, hn.1, hn.2, hi, hb', hz, hz2, fun r i' b' z' h1 h2 h3 h4 h5 h6 => ⟨r, i', b', z', rfl, h1, h2, h3, h4, h5, h6, rfl⟩⟩) fun res s' hq => ?_
      cases res with
      | error e => exact False.elim hq
      | ok fl =>
        cases fl with
        | next => exact False.elim hq
        | brk => exact False.elim hq
        | cont => exact False.elim hq
        | ret u =>
          obtain ⟨v, H2, os, bare, un, hok, rv, r, i', b', z', rfl, h1, h2, h3, h4, h5, h6, rfl⟩ := hq
          have back : upd (upd (upd H a (.lst [.ref s, .int i, .int b, .int z])) a (.lst [.ref s, .int i', .int b', .int z'])) a (.ext (OrcAt a s)) = H := by
            rw [upd_upd, upd_upd]
            funext c
            by_cases hc : c = a
            · subst hc; rw [upd_same, ea]
            · rw [upd_ne hc]
          have hok2 := orc_hide hok upd_same h3 h4 h5 h6
          rw [back] at hok2
          refine ⟨.int r, H, os, bare, ⟨fun c o e n hx he => un.keep c o e (by rw [upd_ne (ne n)]; exact n) hx he, fun c o e n hx he => un.slot c o e (by rw [upd_ne (ne n)]; exact n) hx he, fun c o e n he => n, un.there, fun c xs q => q, fun c o u q => q, fun c ps q => ⟨#[], by rw [q]; simp⟩⟩, hok2, rv, ?_⟩
          have := wpv r.toNat (by omega)
          dsimp only [Rn.wp] at this
          rw [show ((r.toNat : Nat) : Int) = r by omega] at this
          exact this (.int r) H (Same.refl H) ⟨[], ⟨rfl, rfl⟩, List.nodup_nil, fun _ z => nomatch z⟩
    · exact wpv.elim
  · exact wpv.elim
theorem begin_hide {k : Nat} {f : Addr} {fd : FuncData} {ps : List Str} (F : FnOk P w K mg base CX0 k f fd ps (spBegL K)) (hp : ps.length = 1) : FnOk P w K mg base (L2.CX P w) k f fd ps (spD K mg 1 beginF) := by
  refine ⟨fun vs H Q E ⟨ds, hl, lk, _⟩ => by rw [lk.len, hl, hp], fun A outer st H args us vs Q E hr e0 hb r ⟨ds, hl, lk, wpv⟩ => ?_⟩
  unfold beginF at wpv
  split at wpv
  · rename_i ns
    split at wpv
    · rename_i hn
      obtain ⟨v, fp, rfl, r1⟩ := lk.one
      obtain ⟨_, p, rfl, hp'⟩ := r1
      have sq : SqL K H p (ns.map V.int) := hp'.elim (fun ⟨o, q⟩ => .inl (.inr ⟨o, q⟩)) .inr
      refine codeAny_mono (F.run A outer st H args us _ (fun v H2 => ∃ (a s : Addr) (z : Int), v = .ref a ∧ Same H H2 ∧ H a = none ∧ H s = none ∧ a ≠ s ∧ H2 a = some (.lst [.ref s, .int 0, .int 0, .int z]) ∧ H2 s = some (.lst (ns.map V.int)) ∧ 0 ≤ z ∧ z < 2147483647) (fun _ _ _ => False) hr e0 hb r
        ⟨p, ns, rfl, hn, sq, fun a s z H' h1 h2 h3 h4 h5 h6 h7 h8 => ⟨a, s, z, rfl, h1, h2, h3, h4, h5, h6, h7, h8⟩⟩) fun res s' hq => ?_
      cases res with
      | error e => exact False.elim hq
      | ok fl =>
        cases fl with
        | next => exact False.elim hq
        | brk => exact False.elim hq
        | cont => exact False.elim hq
        | ret u =>
          obtain ⟨v, H2, os, bare, un, hok, rv, a, s, z, rfl, sm, na, ns', nas, ea, es, hz, hz2⟩ := hq
          have ne : ∀ {c : Addr} {o : Option HO}, H2 c = o → o ≠ some (.lst [.ref s, .int 0, .int 0, .int z]) → c ≠ a := fun q d z => by subst z; rw [ea] at q; exact d q.symm
          refine ⟨.ref a, upd H2 a (.ext (OrcAt a s)), os, bare, ⟨un.keep, un.slot, fun c o e n he => ?_, un.there, fun c xs q => ?_, fun c o u q => ?_, fun c ps q => ?_⟩, orc_hide hok ea (by omega) (by omega) hz hz2, rv, ?_⟩
          · have q := un.free c o e n he
            rw [upd_ne (ne q (fun z => nomatch z))]; exact q
          · have q := un.tups c xs q
            rw [upd_ne (ne q (fun z => by cases z))]; exact q
          · have q := un.frzs c o u q
            rw [upd_ne (ne q (fun z => by cases z))]; exact q
          · obtain ⟨more, q⟩ := un.tbls c ps q
            exact ⟨more, by rw [upd_ne (ne q (fun z => by cases z))]; exact q⟩
          · have sm2 : Same H (upd H2 a (.ext (OrcAt a s))) := fun c o e => by
              rw [upd_ne (fun z => by subst z; rw [na] at e; cases e)]; exact sm c o e
            refine wpv (.ref a) _ sm2 ⟨[a, s], ⟨a, s, ns, rfl, rfl, upd_same, by rw [upd_ne nas.symm]; exact es⟩, by simp [nas], fun c hc => ?_⟩
            rcases List.mem_cons.mp hc with rfl | hc
            · exact na
            · obtain rfl : c = s := by simpa using hc
              exact ns'
    · exact wpv.elim
  · exact wpv.elim
/-! ### reading -/
theorem rd_ix {σ : L2.St} {Q : VK} {xs : List V} {i : Int} {v : V} (h0 : σ[0]? = some (some (.ref a))) (hH : H a = some (.lst xs)) (e : atI xs i = some v) (q : Q v H) :
    tOp (rIxL K) (tVar 0) (tC (.int i)) σ H Q := ⟨_, h0, a, xs, i, v, rfl, rfl, SqL.of hH, e, q⟩
end
end DL
/-! DLp: short words for the printer. -/
namespace DL
open PySem PySem.Spec PyProof.Rows L2
/-- a def as the top leaves it -/
structure DefT (K : PySem.W.Frag) (mg : Str → Option Value) (x : Str) (st : Stmt) (ps : List Str) : Prop where
  ex : ∃ (a : Addr) (fd : FuncData), mg x = some (.ref a) ∧ Fun K x x st a fd ∧ Binds K fd ps []
/-- a class that a clause names -/
structure CatchC (K : PySem.W.Frag) (mg : Str → Option Value) (x : Str) (sub : Str → Option Bool) : Prop where
  ex : ∃ C, mg x = some (.ref C) ∧ ErrT K mg (.ref C) sub
section
variable {P : Program} {w : World} {K : PySem.W.Frag} {mg : Str → Option Value} {base : Heap}
theorem fd_of {x : Str} {st : Stmt} {ps : List Str} {k : Nat} {f : Fn} (T : DefT K mg x st ps) (h : ∀ (a : Addr) (fd : FuncData), Fun K x x st a fd → FnOk P w K mg base (L2.CX P w) k a fd ps (spD K mg ps.length f)) : FD P w K mg base k x ps.length f := by
  obtain ⟨a, fd, e, F, b⟩ := T.ex
  exact ⟨a, fd, ps, e, F.2, b, h a fd F⟩
theorem FD.mono {x : Str} {j k n : Nat} {f : Fn} (F : FD P w K mg base j x n f) (h : j ≤ k) : FD P w K mg base k x n f := by
  obtain ⟨a, fd, ps, e, kp, b, g⟩ := F.ex
  exact ⟨a, fd, ps, e, kp, b, g.mono h⟩
end
section
variable {W : WX} {X : Cx} {a b c e tg iter : Expr} {es : List Expr} {ga gb gc : GE} {gs : GA} {gt : GT} {gi : GI} {g1 g2 : GS} {st : Stmt} {sts body : List Stmt} {pos p p2 : Pos}
theorem dv (i : Nat) {x : Str} (hN : X.N[i]? = some x := by rfl) (hv : Vis X.env.scope x := by first | exact Or.inl rfl | exact Or.inr (Or.inl rfl) | exact Or.inr (Or.inr rfl)) (hd : (x == ("__debug__" : Str)) = false := by decide) (hcd : (x == ("__classdict__" : Str)) = false := by decide) : DE W X (.Name x pos) (gVar i) := de_var hN hv hd hcd
theorem op_eqA (hu : X.A.units + 64 < cLine) : OpR X (compareOp .Eq) (rEqA X.K) := op_eq.or (op_eqD hu)
theorem op_neA (hu : X.A.units + 64 < cLine) : OpR X (compareOp .NotEq) (rNeA X.K) := op_ne.or (op_neD hu)
theorem hu64 {A : Around} {k : Nat} (hr : Room k A) : A.units + 64 < cLine := Nat.lt_of_le_of_lt (Nat.add_le_add_left (by omega) _) hr.units
theorem ds_tryC {x n : Str} {b₀ : Stmt} {suite : List Stmt} {np pos' : Pos} {sub : Str → Option Bool} {i : Nat} {gsu : Str → GS} (cc : CatchC X.K X.mg x sub) (hs : X.stack = X.env :: X.outer) (hf : X.env.frame = some X.env.locals) (hcal : X.calm = true) (hN : X.N.Nodup) (tk : Takes X W)
    (hb : ∀ (W' : WX) (pn : List (Addr × Obj)) (xe : Value → Shared → Prop), Takes (X.tr pn xe) W' → PassesOwn (model X.prog X.w) X.A X.env xe → DSs W' (X.tr pn xe) body g1)
    (hsu : ∀ (cl : Str) (C a : Addr) (oe : Obj) (pn : List (Addr × Obj)), X.mg cl = some (.ref C) → Zc (.ref C) none oe → (∃ vs, oe.data = .fields vs) → DSs W0 (X.suite a ((a, oe) :: pn)) (b₀ :: suite) (gsu cl))
    (hi : X.N[i]? = some n := by rfl) (hln : X.env.kindOf n = some .local := by rfl) (hg : Gl X x := by rfl) (hdb : (x == ("__debug__" : Str)) = false := by decide) :
    DS W X (.Try body [.ExceptHandler (some (.Name x np)) (some n) (b₀ :: suite) pos'] [] [] pos) (gTry sub i g1 gsu) := by
  obtain ⟨C, hC, et⟩ := cc.ex
  exact ds_tryAs hs hf hcal hN hi hln ⟨hg, hdb, .inl hC⟩ et tk hb hsu
/-- the table of a class -/
def tabS (t : List (Str × Bool)) : Str → Option Bool := fun c => t.lookup c
theorem tab_mem : ∀ {t : List (Str × Bool)} {c : Str} {b : Bool}, tabS t c = some b → (c, b) ∈ t := by
  intro t
  induction t with
  | nil => intro c b h; cases h
  | cons p t ih =>
    intro c b h
    obtain ⟨x, v⟩ := p
    unfold tabS at h
    rw [List.lookup_cons] at h
    split at h
    · rename_i e
      have e' : c = x := by simpa using e
      have h' : v = b := Option.some.inj h
      rw [e', h']
      exact List.mem_cons_self
    · exact List.mem_cons_of_mem _ (ih h)
end
/-! ### what the top tells -/
section
variable {K : PySem.W.Frag} {mg : Str → Option Value}
/-- a class of errors as the top leaves it -/
structure ClsT (K : PySem.W.Frag) (mg : Str → Option Value) (x : Str) (C : Addr) : Prop where
  mg : mg x = some (.ref C)
  ex : PySem.W.excIn K C [.type "ValueError", .type "Exception", .type "BaseException", .type "object"] "ValueError.__new__" = true
  kp : PySem.W.keepIn K (.ref C) = true
  hs : PySem.W.subIn K (.ref C) (.type "BaseException") = some true
  ty : PySem.W.typeIn K (.ref C) = some (.type "type")
  hg : PySem.W.findIn K (.ref C) "__getattribute__" = some (some (.builtin "BaseException.__getattribute__"))
  hk : PySem.W.findIn K (.ref C) "__getattr__" = some none
  hd : PySem.W.hasDictIn K C = true
  ha : PySem.W.findIn K (.ref C) "__class__" = some (some (.builtin "object.__class__"))
  hm : PySem.W.mroIn K C (.type "object") = some true
theorem ClsT.err {x : Str} {C : Addr} (T : ClsT K mg x C) : ErrC K mg x := ⟨C, T.mg, T.ex, T.kp, T.hs, T.ty⟩
structure ObjT (K : PySem.W.Frag) : Prop where
  hn : PySem.W.specialIn K (.builtin "object.__class__") "__get__" = some (some (.builtin "getset_descriptor.__get__"))
  ht : PySem.W.takesIn K (.builtin "object.__class__") = some true
theorem ClsT.excC {x : Str} {C : Addr} (T : ClsT K mg x C) (O : ObjT K) : ExcC K C := ⟨T.hg, T.hk, T.hs, T.hd, T.ha, O.hn, O.ht, T.hm⟩
/-- which classes are kinds of the class at C -/
inductive SubT (K : PySem.W.Frag) (mg : Str → Option Value) (C : Addr) : List (Str × Bool) → Prop
  | nil : SubT K mg C []
  | cons {x : Str} {D : Addr} {b : Bool} {t : List (Str × Bool)} (T : ClsT K mg x D) (h : PySem.W.subIn K (.ref D) (.ref C) = some b) (r : SubT K mg C t) : SubT K mg C ((x, b) :: t)
theorem SubT.get {C : Addr} : ∀ {t : List (Str × Bool)} {x : Str} {b : Bool}, SubT K mg C t → (x, b) ∈ t → ∃ D, ClsT K mg x D ∧ PySem.W.subIn K (.ref D) (.ref C) = some b
  | _, _, _, .nil, h => by cases h
  | _, x, b, .cons T h r, hm => by
    rcases List.mem_cons.mp hm with e | e
    · cases e; exact ⟨_, T, h⟩
    · exact SubT.get r e
theorem catch_of {x : Str} {C : Addr} {t : List (Str × Bool)} (T : ClsT K mg x C) (S : SubT K mg C t) : CatchC K mg x (tabS t) := by
  refine ⟨C, T.mg, fun c b D e hm => ?_⟩
  obtain ⟨D', T', h⟩ := S.get (tab_mem e)
  have : D' = D := by have := T'.mg.symm.trans hm; exact Value.ref.inj (Option.some.inj this)
  subst this
  exact PySem.W.exm_ref T.hs T.hd T.ty h
theorem kit_ref {C D : Addr} {b : Bool} (hd : PySem.W.hasDictIn K C = true) (ht : PySem.W.typeIn K (.ref C) = some (.type "type")) (h : PySem.W.subIn K (.ref D) (.ref C) = some b) (he : D = C → b = true) : PySem.W.kitOne K (.ref D) (.ref C) = some b := by
  unfold PySem.W.kitOne
  by_cases e : (Value.ref D == Value.ref C) = true
  · rw [if_pos e]
    have := Value.ref.inj (beq_iff_eq.mp e)
    rw [he this]
  · rw [if_neg e]
    obtain ⟨cd, hc, _⟩ := PySem.W.any_some hd
    show (if ((PySem.W.clsIn K C).isSome && PySem.W.typeIn K (.ref C) == some (.type "type")) = true then PySem.W.subIn K (.ref D) (.ref C) else none) = some b
    rw [hc, ht]
    exact h
theorem isT_of {x : Str} {C : Addr} {t : List (Str × Bool)} (T : ClsT K mg x C) (O : ObjT K) (S : SubT K mg C t) (hx : (x, true) ∈ t) (hself : PySem.W.subIn K (.ref C) (.ref C) = some true) : IsT K mg x (tabS t) := by
  refine ⟨C, T.mg, fun c b D e hm => ?_⟩
  obtain ⟨D', T', h⟩ := S.get (tab_mem e)
  have : D' = D := by have := T'.mg.symm.trans hm; exact Value.ref.inj (Option.some.inj this)
  subst this
  refine ⟨T'.excC O, kit_ref T.hd T.ty h fun e => ?_⟩
  subst e
  rw [hself] at h
  exact (Option.some.inj h).symm
/-- a constant of the top stands for plain data -/
inductive RepK (K : PySem.W.Frag) : Value → P → Prop
  | non : RepK K .none .non
  | bl (b : Bool) : RepK K (.bool b) (.bl b)
  | int {i : Int} {t : Tok} : RepK K (.int i t) (.int i)
  | str {x : Str} {t : Tok} : RepK K (.str x t) (.str x)
  | tup {a : Addr} {od : Option Addr} {its : List Value} {n : Nat} {sl : Array (Option Value)} {xs : List P} (l : K.lookup a = some ⟨.type "tuple", od, .seq its.toArray n, sl⟩) (hz : its.length ≤ 1000) (h : PySem.Paired (RepK K) its xs) : RepK K (.ref a) (.tup xs)
mutual
theorem RepK.ok : ∀ {u : Value} {p : P}, RepK K u p → ∃ v, RelV v u ∧ ∀ H, RepP K H p v
  | _, _, .non => ⟨.non, rfl, fun _ => rfl⟩
  | _, _, .bl b => ⟨.bl b, rfl, fun _ => rfl⟩
  | _, _, .int (i := i) (t := t) => ⟨.int i, ⟨t, rfl⟩, fun _ => rfl⟩
  | _, _, .str (x := x) (t := t) => ⟨.str x, ⟨t, rfl⟩, fun _ => rfl⟩
  | _, _, .tup (a := a) (its := its) (n := n) l hz h => by
    obtain ⟨vs, r, q⟩ := RepK.oks h
    exact ⟨.ref a, rfl, fun H => ⟨a, vs, rfl, .inr ⟨_, its.toArray, n, l, rfl, rfl, by rw [sizeLine_eq]; simp; omega, by simpa using r⟩, q H⟩⟩
theorem RepK.oks : ∀ {us : List Value} {ps : List P}, PySem.Paired (RepK K) us ps → ∃ vs, Vals vs us ∧ ∀ H, RepPs K H ps vs
  | _, _, .nil => ⟨[], .nil, fun _ => rfl⟩
  | _, _, .cons h t => by
    obtain ⟨v, r, q⟩ := RepK.ok h
    obtain ⟨vs, r', q'⟩ := RepK.oks t
    exact ⟨v :: vs, .cons r r', fun H => ⟨v, vs, rfl, q H, q' H⟩⟩
end
theorem gc_of {x : Str} {u : Value} {p : P} (e : mg x = some u) (h : RepK K u p) : GC K mg x p := by
  obtain ⟨v, r, q⟩ := h.ok
  exact ⟨u, v, e, r, q⟩
end
end DL
/-! DLq: the law's own head. -/
namespace DL
open PySem PySem.Spec PyProof.Rows L2
theorem tk0 {X : Cx} : Takes X W0 := fun _ _ ⟨_, _, _, _, _, _, _, _, _, _, _, _, _, _, _, _, w⟩ => w.elim
theorem cx_never {P : Program} {w : World} {H : Hp} {s : Shared} {e : Value} {s' : Shared} (h : L2.CX P w [] H s (fun _ _ _ => False) e s') : False := by
  obtain ⟨_, _, _, _, _, _, _, _, _, _, _, _, h⟩ := h
  exact h
/-- the promise of a law that raises nothing -/
def spAny (f : Fn) (K : PySem.W.Frag) : Sp := fun vs H Q E => ∃ ds : List D, ds.length = 1 ∧ LookL K H ds vs ∧ (f ds).wp (fun d => postR K H d Q) fun _ _ => False
theorem spAny_of {P : Program} {w : World} {K : PySem.W.Frag} {mg : Str → Option Value} {k : Nat} {fa : Addr} {f : Fn} {x : Str} {Z : Heap → Prop}
    (h : ∃ fd : FuncData, (∀ (s : Shared) (v : Value), BindsTo s fd ⟨[v], []⟩ [(x, v)]) ∧ ∀ base : Heap, K.In base → Z base → FnOk P w K mg base (L2.CX P w) k fa fd [x] (spD K mg 1 f)) :
    ∃ fd : FuncData, (∀ (s : Shared) (v : Value), BindsTo s fd ⟨[v], []⟩ [(x, v)]) ∧ ∀ base : Heap, K.In base → Z base → FnOk P w K mg base (L2.CX P w) k fa fd [x] (spAny f K) := by
  obtain ⟨fd, h1, h2⟩ := h
  exact ⟨fd, h1, fun base a b => (h2 base a b).imp fun vs H Q E ⟨ds, h1, h2, h3⟩ => ⟨ds, h1, h2, Rn.wp_mono h3 (fun _ q => q) fun _ _ z => z.elim⟩⟩
theorem law_sp {K : PySem.W.Frag} {H : Hp} {a : Addr} {ns : List Int} {f : Fn} (hl : ns.length ≤ 63) (hO : Only H) (hS : SqL K H a (ns.map V.int))
    (h : ∀ ns : List Int, ns.length ≤ 63 → (f [.scr ns]).wp (fun d => d = .p (.bl true)) fun _ _ => False) : spAny f K [.ref a] H (fun v _ => v = .bl true) fun _ _ _ => False := by
  have hr : RepD K H (.scr ns) (.ref a) [] := by
    refine ⟨rfl, a, rfl, ?_⟩
    rcases hS with (q | q) | q
    · rcases hO a with z | ⟨o, xs, z⟩
      · rw [z] at q; cases q
      · rw [z] at q; cases q
    · exact .inl q
    · exact .inr q
  refine ⟨[.scr ns], rfl, ⟨.ref a, [], rfl, ⟨[], hr⟩, rfl⟩, Rn.wp_mono (h ns hl) (fun d e => ?_) fun _ _ z => z⟩
  subst e
  intro v H' s r
  obtain ⟨fp, r, _⟩ := r
  have : v = .bl true := r.1
  exact this
end DL
/-! DLr: reading the mirrors. -/
namespace DL
open PySem PySem.Spec PyProof.Rows L2
section
variable {ε ε' α β : Type} {c : Prop} [Decidable c]
theorem Rn.bind_ite {a b : Rn ε α} {f : α → Rn ε β} : (if c then a else b).bind f = if c then a.bind f else b.bind f := by split <;> rfl
theorem Rn.mapErr_ite {a b : Rn ε α} {f : ε → ε'} : (if c then a else b).mapErr f = if c then a.mapErr f else b.mapErr f := by split <;> rfl
theorem Rn.wp_ite {a b : Rn ε α} {Q : α → Prop} {E : Str → ε → Prop} : (if c then a else b).wp Q E ↔ (c → a.wp Q E) ∧ (¬ c → b.wp Q E) := by
  by_cases h : c
  · rw [if_pos h]; exact ⟨fun x => ⟨fun _ => x, fun z => absurd h z⟩, fun x => x.1 h⟩
  · rw [if_neg h]; exact ⟨fun x => ⟨fun z => absurd z h, fun _ => x⟩, fun x => x.2 h⟩
theorem Rn.bind_ok {a : α} {f : α → Rn ε β} : (Rn.ok a).bind f = f a := rfl
theorem Rn.bind_err {s : Str} {e : ε} {f : α → Rn ε β} : (Rn.err s e : Rn ε α).bind f = .err s e := rfl
theorem Rn.bind_pick {n : Nat} {k : Nat → Rn ε α} {f : α → Rn ε β} : (Rn.pick n k).bind f = .pick n fun i => (k i).bind f := rfl
end
theorem tryW_ok {sub : Str → Option Bool} {i : Nat} {gsu : Str → GS} {fl : Fl} : gTryW sub i gsu (.ok fl) = .ok fl := rfl
theorem tryW_err {sub : Str → Option Bool} {i : Nat} {gsu : Str → GS} {c : Str} {δ : Sl} : gTryW sub i gsu (.err c δ) = match sub c with
    | some true => ((gsu c (δ.set i .exn)).noErrS).bind fun fl => .ok (fl.map (outEx i))
    | some false => .err c δ
    | none => .bad := rfl
theorem tryW_ite {sub : Str → Option Bool} {i : Nat} {gsu : Str → GS} {c : Prop} [Decidable c] {a b : Rn Sl Fl} : gTryW sub i gsu (if c then a else b) = if c then gTryW sub i gsu a else gTryW sub i gsu b := by split <;> rfl
theorem take_ok {n : Int} (h0 : 0 < n) (h1 : n < 2 ^ 64) : takeF [.orc, .p (.int n)] = .pick n.toNat fun i => .ok (.p (.int (i : Int))) := by
  unfold takeF
  refine if_pos ⟨h0, ?_⟩
  have h : n.natAbs < 2 ^ 64 := by omega
  by_cases hz : n.natAbs = 0
  · omega
  · have := (Nat.log2_lt hz).mpr h
    omega
theorem begin_ok {ns : List Int} (h : ns.length ≤ 63) : beginF [.scr ns] = .ok .orc := if_pos h
/-- a run keeps its wish (a wall before the reader's eyes: nothing unfolds it) -/
structure Wp {ε α : Type} (w : Rn ε α) (Q : α → Prop) (E : Str → ε → Prop) : Prop where
  r : w.wp Q E
section
variable {ε α β : Type} {Q : α → Prop} {E : Str → ε → Prop}
theorem wp_ok {a : α} : Wp (.ok a : Rn ε α) Q E ↔ Q a := ⟨fun h => h.r, fun h => ⟨h⟩⟩
theorem wp_err {c : Str} {e : ε} : Wp (.err c e : Rn ε α) Q E ↔ E c e := ⟨fun h => h.r, fun h => ⟨h⟩⟩
theorem wp_bad : Wp (.bad : Rn ε α) Q E ↔ False := ⟨fun h => h.r, fun h => h.elim⟩
theorem wp_pick {n : Nat} {k : Nat → Rn ε α} : Wp (.pick n k) Q E ↔ ∀ i, i < n → Wp (k i) Q E := ⟨fun h i hi => ⟨h.r i hi⟩, fun h => ⟨fun i hi => (h i hi).r⟩⟩
theorem wp_ite {c : Prop} [Decidable c] {a b : Rn ε α} : Wp (if c then a else b) Q E ↔ (c → Wp a Q E) ∧ (¬ c → Wp b Q E) :=
  ⟨fun h => ⟨fun x => ⟨(Rn.wp_ite.mp h.r).1 x⟩, fun x => ⟨(Rn.wp_ite.mp h.r).2 x⟩⟩, fun h => ⟨Rn.wp_ite.mpr ⟨fun x => (h.1 x).r, fun x => (h.2 x).r⟩⟩⟩
theorem wp_imp {w : Rn ε α} {Q' : α → Prop} {E' : Str → ε → Prop} (h : Wp w Q E) (k : ∀ a, Q a → Q' a) (e : ∀ c x, E c x → E' c x) : Wp w Q' E' := ⟨Rn.wp_mono h.r k e⟩
end
/-- what is wanted after a statement -/
def Nx (K : Sl → Prop) (Q : Fl → Prop) : Fl → Prop
  | .nx δ => K δ
  | fl => Q fl
/-- what is wanted after a loop's turn -/
def Tn (I : Sl → Prop) (Q : Fl → Prop) : Fl → Prop
  | .nx δ => I δ
  | .ct δ => I δ
  | .bk δ => Q (.nx δ)
  | .ret d => Q (.ret d)
def Fn.out (Q : D → Prop) : Fl → Prop
  | .ret d => Q d
  | .nx _ => Q (.p .non)
  | _ => False
section
variable {a b : GS} {δ δ' : Sl} {Q : Fl → Prop} {E : Str → Sl → Prop}
theorem seq_ok (h1 : a δ = .ok (.nx δ')) (h2 : Wp (b δ') Q E) : Wp (gSeq a b δ) Q E := ⟨by
  unfold gSeq; rw [h1]; exact h2.r⟩
theorem seq_ret {d : D} (h1 : a δ = .ok (.ret d)) (h2 : Q (.ret d)) : Wp (gSeq a b δ) Q E := ⟨by
  unfold gSeq; rw [h1]; exact h2⟩
theorem seq_wp (R : Sl → Prop) (h1 : Wp (a δ) (Nx R Q) E) (h2 : ∀ δ', R δ' → Wp (b δ') Q E) : Wp (gSeq a b δ) Q E := ⟨by
  unfold gSeq
  refine Rn.wp_bind.mpr (Rn.wp_mono h1.r (fun fl r => ?_) fun _ _ z => z)
  cases fl with
  | nx δ' => exact (h2 δ' r).r
  | bk δ' => exact r
  | ct δ' => exact r
  | ret d => exact r⟩
theorem forL_inv (I : List P → Sl → Prop) {t : Tg} {g : GS} (h : ∀ x xs δ, I (x :: xs) δ → ∃ δ1, t.set (.p x) δ = some δ1 ∧ Wp (g δ1) (Tn (I xs) Q) E) (hq : ∀ δ, I [] δ → Q (.nx δ)) : ∀ (xs : List P) (δ : Sl), I xs δ → Wp (gForL t g xs δ) Q E
  | [], δ, h0 => ⟨hq δ h0⟩
  | x :: xs, δ, h0 => ⟨by
    obtain ⟨δ1, e, w⟩ := h x xs δ h0
    unfold gForL
    rw [e]
    refine Rn.wp_bind.mpr (Rn.wp_mono w.r (fun fl r => ?_) fun _ _ z => z)
    cases fl with
    | nx δ' => exact (forL_inv I h hq xs δ' r).r
    | ct δ' => exact (forL_inv I h hq xs δ' r).r
    | bk δ' => exact r
    | ret d => exact r⟩
theorem forL_cons {t : Tg} {g : GS} {x : P} {xs : List P} {δ1 : Sl} (e : t.set (.p x) δ = some δ1) (w : g δ1 = .ok (.nx δ')) (k : Wp (gForL t g xs δ') Q E) : Wp (gForL t g (x :: xs) δ) Q E := ⟨by
  unfold gForL
  rw [e]
  show ((g δ1).bind _).wp Q E
  rw [w]
  exact k.r⟩
theorem forL_nil {t : Tg} {g : GS} (k : Q (.nx δ)) : Wp (gForL t g [] δ) Q E := ⟨k⟩
theorem for_wp {t : Tg} {gi : GI} {g : GS} {xs : List P} (e : gi δ = .ok xs) (h : Wp (gForL t g xs δ) Q E) : Wp (gFor t gi g δ) Q E := ⟨by
  unfold gFor lift; rw [e]; exact h.r⟩
theorem for_pick {t : Tg} {gi : GI} {g : GS} (R : List P → Prop) (e : Wp (gi δ) R (fun _ _ => False)) (h : ∀ xs, R xs → Wp (gForL t g xs δ) Q E) : Wp (gFor t gi g δ) Q E := ⟨by
  unfold gFor lift
  exact Rn.wp_bind.mpr (Rn.wp_mapErr.mpr (Rn.wp_mono e.r (fun xs r => (h xs r).r) fun _ _ z => z.elim))⟩
theorem if_tt {t : GT} (h : t δ = .ok true) (k : Wp (a δ) Q E) : Wp (gIfS t a b δ) Q E := ⟨by unfold gIfS lift; rw [h]; exact k.r⟩
theorem if_ff {t : GT} (h : t δ = .ok false) (k : Wp (b δ) Q E) : Wp (gIfS t a b δ) Q E := ⟨by unfold gIfS lift; rw [h]; exact k.r⟩
end
theorem fn_wp {n : Nat} {g : GS} {ds : List D} {Q : D → Prop} {E : Str → Unit → Prop} (h : Wp (g (startS n ds)) (Fn.out Q) (fun c _ => E c ())) : Wp (fnD n g ds) Q E := ⟨by
  unfold fnD
  refine Rn.wp_bind.mpr (Rn.wp_mapErr.mpr (Rn.wp_mono h.r (fun fl r => ?_) fun _ _ z => z))
  cases fl <;> exact r⟩
theorem range_5 : rangeP 0 5 = [.int 0, .int 1, .int 2, .int 3, .int 4] := by rfl
theorem range_4 : rangeP 0 4 = [.int 0, .int 1, .int 2, .int 3] := by rfl
theorem range_3 : rangeP 0 3 = [.int 0, .int 1, .int 2] := by rfl
theorem range_2 : rangeP 0 2 = [.int 0, .int 1] := by rfl
end DL
/-! DLs: comprehensions over a name's list. -/
namespace DL
open PySem PySem.Spec PyProof.Rows L2
structure Walk2 (K : PySem.W.Frag) (H : Hp) (J : It) (xs : List P) : Prop where
  ex : ∃ G, Same G H ∧ Runs K G J xs
def tDI2 (c : DC) (g : GI) : TI := fun σ H R => ∃ (B : Hp) (Rg : Rgs c.ex) (δ : Sl), SRel c.K B Rg σ H δ ∧
  (g δ).wp (fun xs => ∀ J H', Same H H' → Walk2 c.K H' J xs → R J H') fun cl _ => ∀ C H', c.mg cl = some (.ref C) → Same H H' → c.W (.ref C) none σ H'
def DI2 (W : WX) (X : Cx) (tg iter : Expr) (g : GI) : Prop := PI X tg iter (tDI2 (dc X W) g)
theorem DI.two {W : WX} {X : Cx} {tg iter : Expr} {g : GI} (h : DI W X tg iter g) : DI2 W X tg iter g := PI.imp h fun σ H R ⟨B, Rg, δ, S0, w⟩ =>
  ⟨B, Rg, δ, S0, Rn.wp_mono w (fun xs q J H' s wk => q J H' s (by obtain ⟨G, g1, _, g3⟩ := wk.ex; exact ⟨G, g1, g3⟩)) fun _ _ q => q⟩
def R.itemsL : R → Option (List P)
  | .own (.p (.tup xs)) => some xs
  | .vw (.p (.tup xs)) => some xs
  | .own (.p (.fl ns)) => some (ns.map P.int)
  | .vw (.p (.fl ns)) => some (ns.map P.int)
  | .own (.p (.str z)) => some (signs z)
  | .vw (.p (.str z)) => some (signs z)
  | .own (.lst xs) => some xs
  | .vw (.lst xs) => some xs
  | _ => none
def gSeqL (ga : GE) : GI := fun δ => (ga δ).bind fun r => match r.itemsL with
  | some xs => .ok xs
  | none => .bad
theorem di2_seq {W : WX} {X : Cx} {tg e : Expr} {ga : GE} (ha : DE W X e ga) : DI2 W X tg e (gSeqL ga) := by
  have two : ∀ {H0 H : Hp} {J : It} {xs : List P}, Walk X.K H0 H J xs → Walk2 X.K H J xs := fun wk => by obtain ⟨G, g1, _, g3⟩ := wk.ex; exact ⟨G, g1, g3⟩
  refine PI.imp (pi_seq ha) fun σ H Rk ⟨B, Rg, δ, S0, w⟩ => ?_
  refine ⟨B, Rg, δ, S0, Rn.wp_mono (Rn.wp_bind.mp w) (fun r q v H1 s1 rv => ?_) fun _ _ q => q⟩
  split at q
  · rename_i xs e
    unfold R.itemsL at e
    split at e
    · obtain rfl := Option.some.inj e
      obtain ⟨a, vs, rfl, qa, ra⟩ := rv.getP rfl
      exact .inr (.inl ⟨a, rfl, ⟨vs, qa⟩, q _ H1 s1 (two (H0 := H) (.tup qa ra))⟩)
    · obtain rfl := Option.some.inj e
      obtain ⟨a, vs, rfl, qa, ra⟩ := rv.getP rfl
      exact .inr (.inl ⟨a, rfl, ⟨vs, qa⟩, q _ H1 s1 (two (H0 := H) (.tup qa ra))⟩)
    · rename_i ns
      obtain rfl := Option.some.inj e
      obtain ⟨a, o, rfl, qa⟩ := rv.getP rfl
      exact .inl ⟨a, rfl, ⟨_, .inl (.inr ⟨o, qa⟩)⟩, q _ H1 s1 (two (H0 := H) (.frz qa (RepPs.ofInt ns)))⟩
    · rename_i ns
      obtain rfl := Option.some.inj e
      obtain ⟨a, o, rfl, qa⟩ := rv.getP rfl
      exact .inl ⟨a, rfl, ⟨_, .inl (.inr ⟨o, qa⟩)⟩, q _ H1 s1 (two (H0 := H) (.frz qa (RepPs.ofInt ns)))⟩
    · rename_i z
      obtain rfl := Option.some.inj e
      obtain rfl : v = .str z := rv.getP rfl
      exact .inr (.inr ⟨z, rfl, q _ H1 s1 (two (H0 := H) (.str z))⟩)
    · rename_i z
      obtain rfl := Option.some.inj e
      obtain rfl : v = .str z := rv.getP rfl
      exact .inr (.inr ⟨z, rfl, q _ H1 s1 (two (H0 := H) (.str z))⟩)
    · obtain rfl := Option.some.inj e
      obtain ⟨fp, ⟨a, vs, rfl, qa, rfl, ra⟩, n, f⟩ := rv
      obtain ⟨G, g1, g2, g3⟩ := runs_list qa ra
      exact .inl ⟨a, rfl, ⟨vs, SqL.of qa⟩, q _ H1 s1 ⟨G, g1, g3⟩⟩
    · obtain rfl := Option.some.inj e
      obtain ⟨fp, ⟨a, vs, rfl, qa, rfl, ra⟩⟩ := rv
      obtain ⟨G, g1, g2, g3⟩ := runs_list qa ra
      exact .inl ⟨a, rfl, ⟨vs, SqL.of qa⟩, q _ H1 s1 ⟨G, g1, g3⟩⟩
    · cases e
  · exact q.elim
section
variable {W : WX} {X : Cx} {e elt tg iter : Expr} {ifs : List Expr} {gi : GI} {gt : GT} {ge : GE} {scope : Scope} {own : List (Str × Nat)} {pos : Pos}
theorem lc_of2 {t : Tg} {vs : List Nat} (hcal : X.calm = true) (ht : ∀ i ∈ t.idx, i ∈ vs) (σ : L2.St) (H : Hp) (Q : VK) (h : tD (dc X W) (gLc t vs gi gt ge) σ H Q) :
    tLc (tDI2 (dc X W) gi) (t.g X.K) (tDT (dc0 X) gt) (tD (dc0 X) ge) vs σ H Q := by
  rw [dc_calm hcal] at h ⊢
  obtain ⟨B, Rg, δ, S0, w⟩ := h
  refine ⟨B, Rg, δ, S0, Rn.wp_mono (Rn.wp_bind.mp w) (fun xs q J H1 s1 wk => ?_) fun _ _ q => q⟩
  intro Dp hD
  obtain ⟨G, hG, hR⟩ := wk.ex
  have S1 := S0.grow s1
  have S2 := S1.wipe vs
  have c1 : cutH H1 Dp = H1 := by
    funext b
    unfold cutH
    split
    · rename_i z; subst z; exact hD.symm
    · rfl
  refine ⟨fun i m H' => m = xs.length - i ∧ i ≤ xs.length ∧ ∃ acc vacc, H' Dp = some (.lst vacc) ∧ RepPs X.K H' acc vacc ∧ Same H1 (cutH H' Dp) ∧ SRel X.K B Rg (L2.wipe σ vs) (cutH H' Dp) (wipeS δ vs) ∧
    ((lcL t gt ge (wipeS δ vs) (xs.drop i) acc).bind fun ys => .ok (.own (.lst ys))).wp (fun r => ∀ v H', Same H H' → RepR X.K H H' r v → Q v H') (fun cl _ => ∀ C H', X.mg cl = some (.ref C) → Same H H' → W (.ref C) none σ H'),
    ⟨xs.length, by simp, Nat.zero_le _, [], [], upd_same, rfl, by rw [cutH_upd, c1]; exact Same.refl _, by rw [cutH_upd, c1]; exact S2, by simpa using q⟩, ?_⟩
  rintro i m H2 ⟨rfl, hi, acc, vacc, eD, ra, sm, S3, w3⟩
  have S4 := S3.grow (cutH_same H2 Dp)
  have s02 : Same H H2 := s1.trans (sm.trans (cutH_same H2 Dp))
  obtain ⟨r1, r2⟩ := hR H2 (hG.trans (sm.trans (cutH_same H2 Dp))) i
  by_cases hlt : i < xs.length
  · have ep := List.getElem?_eq_getElem hlt
    obtain ⟨go, yl⟩ := r1 _ ep
    rw [List.drop_eq_getElem_cons hlt] at w3
    refine .inr ⟨go, fun H' => ∃ acc vacc, H' Dp = some (.lst vacc) ∧ RepPs X.K H' acc vacc ∧ Same H1 (cutH H' Dp) ∧ SRel X.K B Rg (L2.wipe σ vs) (cutH H' Dp) (wipeS δ vs) ∧
      ((lcL t gt ge (wipeS δ vs) (xs.drop (i + 1)) acc).bind fun ys => .ok (.own (.lst ys))).wp (fun r => ∀ v H', Same H H' → RepR X.K H H' r v → Q v H') (fun cl _ => ∀ C H', X.mg cl = some (.ref C) → Same H H' → W (.ref C) none σ H'),
      fun H' q => ⟨xs.length - (i + 1), by omega, rfl, hlt, q⟩, fun x H3 y => ?_⟩
    obtain ⟨s3, rp⟩ := yl x H3 y
    unfold lcL at w3
    split at w3
    · rename_i δ1 e1
      have gw := Tg.ok (K := X.K) (t := t) (d := .p xs[i]) (v := x) (gp := []) (Q := fun σ' H' => H' = H3 ∧ SRel X.K B Rg σ' H3 δ1) S4 s3 ⟨rp, rfl⟩ List.nodup_nil (fun _ z => nomatch z) e1 fun σ' S5 => ⟨rfl, S5⟩
      have gw2 := Tg.g_wipe (vs := vs) ht gw
      refine Tg.g_mono (fun σ2 H2' ⟨ew, eh, S5⟩ => ?_) gw2
      subst eh
      refine ⟨by rw [ew, wipe_wipe], ?_⟩
      refine ⟨B, Rg, δ1, S5, Rn.wp_noErr (Rn.wp_mono (Rn.wp_bind.mp (Rn.wp_bind.mp w3)) (fun k q H4 s4 => ?_) fun _ _ q => q)⟩
      have S6 := S5.grow s4
      have s24 := s3.trans s4
      have eD4 : H4 Dp = some (.lst vacc) := s24 _ _ eD
      have smm : Same H1 (cutH H4 Dp) := sm.trans (cutH_mono s24 Dp)
      dsimp only
      cases k with
      | false =>
        rw [if_neg (by decide)] at q ⊢
        exact ⟨acc, vacc, eD4, RepPs.kt (Same.kt s24) _ _ ra, smm, S3.grow (cutH_mono s24 Dp), Rn.wp_bind.mpr q⟩
      | true =>
        rw [if_pos rfl] at q ⊢
        refine ⟨B, Rg, δ1, S6, Rn.wp_noErr (Rn.wp_mono (Rn.wp_bind.mp q) (fun r q v H5 s5 rv => ?_) fun _ _ q => q)⟩
        have s25 := s24.trans s5
        split at q
        · rename_i y ey
          split at q
          · rename_i hz
            have ry := rv.getP ey
            have ra5 := RepPs.kt (Same.kt s25) _ _ ra
            have kt5 : KT H5 (upd H5 Dp (.lst (vacc ++ [v]))) := KT.upd (s25 _ _ eD) trivial
            refine ⟨vacc, s25 _ _ eD, by rw [ra.len]; exact hz, acc ++ [y], vacc ++ [v], upd_same, RepPs.kt kt5 _ _ (RepPs.append (show RepPs X.K H5 [y] [v] from ⟨v, [], rfl, ry, rfl⟩) ra5), ?_, ?_, Rn.wp_bind.mpr q⟩
            · rw [cutH_upd]; exact sm.trans (cutH_mono s25 Dp)
            · rw [cutH_upd]; exact S3.grow (cutH_mono s25 Dp)
          · exact q.elim
        · exact q.elim
    · exact w3.elim
  · have hn : xs.length ≤ i := by omega
    rw [List.drop_eq_nil_of_le hn] at w3
    refine .inl ⟨r2 hn, w3 (.ref Dp) H2 s02 ⟨[Dp], ⟨Dp, vacc, rfl, eD, rfl, ra⟩, by simp, fun b hb => ?_⟩⟩
    obtain rfl : b = Dp := by simpa using hb
    exact s1.free hD
end
section
variable {W : WX} {X : Cx} {e elt tg iter : Expr} {ifs : List Expr} {gi : GI} {gt : GT} {ge : GE} {scope : Scope} {own : List (Str × Nat)} {pos : Pos}
theorem de_lc2 {t : Tg} (hc : X.calm = true) (hN : X.N.Nodup) (hi : DI2 W X tg iter gi) (ok : BlkOk X.N X.env.scope scope own)
    (hg : ∀ (s : Shared) (H : Hp) (C : Addr) (cl : List (Str × Addr)) (fp : List Addr), PG (X.blk s H scope (compEnvC scope cl C X.env) fp) tg (t.g X.K))
    (ht : ∀ (s : Shared) (H : Hp) (C : Addr) (cl : List (Str × Addr)) (fp : List Addr), DTs W0 (X.blk s H scope (compEnvC scope cl C X.env) fp) ifs gt)
    (he : ∀ (s : Shared) (H : Hp) (C : Addr) (cl : List (Str × Addr)) (fp : List Addr), DE W0 (X.blk s H scope (compEnvC scope cl C X.env) fp) elt ge)
    (hx : ∀ i ∈ t.idx, i ∈ own.map (·.2) := by decide) (hs : ∀ x, foldedSetIterable iter X.env x = pure x := by intro _; rfl) :
    DE W X (.ListComp elt [⟨tg, iter, ifs, 0⟩] scope pos) (gLc t (own.map (·.2)) gi gt ge) :=
  PE.imp (pe_lc (tt := tDT (dc0 X) gt) (te := tD (dc0 X) ge) hc hN hi ok hg ht he hs) (lc_of2 hc hx)
theorem ds_setLc2 {i : Nat} {y : Str} {py spos : Pos} {t : Tg} (hc : X.calm = true) (hN : X.N.Nodup) (hy : X.N[i]? = some y) (hyl : X.env.scope.names.lookup y = some .local)
    (hsw : swapsWith (.ListComp elt [⟨tg, iter, ifs, 0⟩] scope pos) (some (.Name y py)) spos.line X.env = pure true) (hi : DI2 W X tg iter gi) (ok : BlkOk X.N X.env.scope scope own)
    (hg : ∀ (s : Shared) (H : Hp) (C : Addr) (cl : List (Str × Addr)) (fp : List Addr), PG (X.blk s H scope (compEnvC scope cl C X.env) fp) tg (t.g X.K))
    (ht : ∀ (s : Shared) (H : Hp) (C : Addr) (cl : List (Str × Addr)) (fp : List Addr), DTs W0 (X.blk s H scope (compEnvC scope cl C X.env) fp) ifs gt)
    (he : ∀ (s : Shared) (H : Hp) (C : Addr) (cl : List (Str × Addr)) (fp : List Addr), DE W0 (X.blk s H scope (compEnvC scope cl C X.env) fp) elt ge)
    (hx : ∀ i ∈ t.idx, i ∈ own.map (·.2) := by decide) (hs : ∀ x, foldedSetIterable iter X.env x = pure x := by intro _; rfl) :
    DS W X (.Assign [.Name y py] (.ListComp elt [⟨tg, iter, ifs, 0⟩] scope pos) spos) (gSet i (gLc t (own.map (·.2)) gi gt ge)) := by
  refine PS.imp (ps_setLc (tt := tDT (dc0 X) gt) (te := tD (dc0 X) ge) hc hN hy hyl hsw hi ok hg ht he hs) fun D σ H ⟨B, Rg, δ, S0, w⟩ => ?_
  refine lc_of2 hc hx σ H _ ?_
  refine tDS_val S0 w fun r v H1 s1 rv S1 q => ?_
  cases r with
  | own d =>
    obtain ⟨fp, q1, n, f⟩ := rv
    exact q _ _ (S0.set s1 q1 n f)
  | vw d => exact q.elim
end
end DL
/-! DLt: reversed(tuple), x[::-1], tuples of ints by <. -/
namespace DL
open PySem PySem.Spec PyProof.Rows L2
/-- < of ints and of tuples of ints -/
def fLtA : D → D → Rn Unit Bool := fun x y => match x, y with
    | .p (.int i), .p (.int j) => .ok (decide (i < j))
    | .p (.tup xs), .p (.tup ys) => match pInts xs, pInts ys with
      | some ns, some ms => .ok (HT.lexLt ns ms)
      | _, _ => .bad
    | _, _ => .bad
section
variable {K : PySem.W.Frag} {H0 H : Hp}
theorem Walk.rtup {a : Addr} {vs : List V} {xs : List P} (h : SqT K H a vs) (r : RepPs K H xs vs) : Walk K H0 H (RT.ItvT K a vs.length) xs.reverse := by
  refine ⟨tupG H, tupG_same H, fun b hb => .inr (tupG_rd hb), fun H' s i => ?_⟩
  have kt : KT H H' := tupG_kt s
  have ha := kt.sqt h
  have r' := RepPs.kt kt _ _ r
  have hl : vs.length = xs.length := r.len
  refine ⟨fun p ep => ?_, fun hi => ?_⟩
  · have hi : i < xs.length := by
      have := (List.getElem?_eq_some_iff.mp ep).1
      simpa using this
    rw [List.getElem?_reverse hi] at ep
    obtain ⟨w, e2, q⟩ := r'.get ep
    rw [← hl] at e2
    refine ⟨⟨by omega, vs, w, ha, e2⟩, fun x H'' y => ?_⟩
    obtain ⟨rfl, y⟩ := y
    have e := y vs ha
    rw [e] at e2
    obtain rfl := Option.some.inj e2
    exact ⟨Same.refl _, q⟩
  · rw [List.length_reverse] at hi
    show vs.length ≤ i
    omega
theorem og_ltA : OpG K (fun x y H Q => rI0 (fun i j => .bl (decide (i < j))) x y H Q ∨ rLtT K x y H Q) (fB fLtA) := by
  intro H x y v u fx fy Q E rx ry h
  have h' := Rn.wp_bind.mp h
  unfold fLtA at h'
  split at h'
  · rename_i i j
    obtain rfl : v = .int i := rx.1
    obtain rfl : u = .int j := ry.1
    exact .inl ⟨i, j, rfl, rfl, RepP.up h' rfl⟩
  · rename_i xs ys
    split at h'
    · rename_i ns ms e1 e2
      obtain rfl := pInts_ok e1
      obtain rfl := pInts_ok e2
      obtain ⟨a, vs, rfl, q1, r1⟩ := rx.1
      obtain ⟨b, us, rfl, q2, r2⟩ := ry.1
      obtain rfl := r1.int
      obtain rfl := r2.int
      exact .inr ⟨a, b, ns, ms, rfl, rfl, q1, q2, RepP.up h' rfl⟩
    · exact h'.elim
  · exact h'.elim
end
def gRevI (ga : GE) : GI := fun δ => (ga δ).bind fun r => match r.d with
  | .p (.tup xs) => .ok xs.reverse
  | _ => .bad
def gRevL (ga : GE) : GE := fun δ => (ga δ).bind fun r => match r.d with
  | .lst xs => .ok (.own (.lst xs.reverse))
  | _ => .bad
section
variable {W : WX} {X : Cx} {e tg : Expr} {ga : GE} {p pos p1 p2 p3 : Pos}
theorem op_ltA (hu : X.A.units < cLine) : OpR X (compareOp .Lt) (fun x y H Q => rI0 (fun i j => .bl (decide (i < j))) x y H Q ∨ rLtT X.K x y H Q) := op_lt.or (op_ltT hu)
theorem di_rev (hm : X.mg "reversed" = none) (ha : DE W X e ga) (hg : Gl X "reversed" := by rfl) (hs : starEach [e] X.env = (false, eval e X.env) :: starEach [] X.env := by rfl) : DI W X tg (.Call (.Name "reversed" p) [e] [] pos) (gRevI ga) := by
  refine PI.imp (RT.pi_revA hg hm ha hs) fun σ H Rk ⟨B, Rg, δ, S0, w⟩ => ?_
  refine ⟨B, Rg, δ, S0, Rn.wp_mono (Rn.wp_bind.mp w) (fun r q v H1 s1 rv => ?_) fun _ _ q => q⟩
  split at q
  · rename_i xs ed
    obtain ⟨a, vs, rfl, qa, ra⟩ := rv.getP ed
    exact ⟨a, vs, rfl, .inr ⟨qa, q _ H1 s1 (Walk.rtup qa ra)⟩⟩
  · exact q.elim
theorem RepPs.rev {K : PySem.W.Frag} {H : Hp} : ∀ {xs : List P} {vs : List V}, RepPs K H xs vs → RepPs K H xs.reverse vs.reverse
  | [], vs, h => by
    obtain rfl : vs = [] := h
    exact rfl
  | x :: xs, vs, h => by
    obtain ⟨v, us, rfl, q, r⟩ := h
    rw [List.reverse_cons, List.reverse_cons]
    exact RepPs.append (show RepPs K H [x] [v] from ⟨v, [], rfl, q, rfl⟩) (RepPs.rev r)
theorem de_rev {k : Nat} (ha : DE W X e ga) : DE W X (.Subscript e (.Slice none none (some (.UnaryOp .USub (.Constant (.int 1) k p1) p2)) p3) pos) (gRevL ga) := by
  refine PE.imp (pe_revL ha) fun σ H Q ⟨B, Rg, δ, S0, w⟩ => ?_
  refine ⟨B, Rg, δ, S0, Rn.wp_mono (Rn.wp_bind.mp w) (fun r q v H1 s1 rv => ?_) fun _ _ q => q⟩
  split at q
  · rename_i xs ed
    obtain ⟨fp, rd⟩ := rv.look
    rw [ed] at rd
    obtain ⟨a, vs, rfl, qa, _, ra⟩ := rd
    refine ⟨a, vs, rfl, SqL.of qa, fun l nl => ?_⟩
    have s2 : Same H1 (upd H1 l (.lst vs.reverse)) := fun b o eb => by
      rw [upd_ne (fun z => by subst z; rw [nl] at eb; cases eb)]; exact eb
    refine q _ _ (s1.trans s2) ⟨[l], ⟨l, vs.reverse, rfl, upd_same, rfl, RepPs.kt (Same.kt s2) _ _ (RepPs.rev ra)⟩, by simp, fun b hb => ?_⟩
    obtain rfl : b = l := by simpa using hb
    exact s1.free nl
  · exact q.elim
end
end DL
/-! DLu: sorted(ints); draws from large ranges. -/
namespace DL
open PySem PySem.Spec PyProof.Rows L2
def insI (x : Int) : List Int → List Int
  | [] => [x]
  | y :: l => if x ≤ y then x :: y :: l else y :: insI x l
def srtI : List Int → List Int
  | [] => []
  | x :: l => insI x (srtI l)
theorem insI_perm (x : Int) : ∀ l : List Int, (insI x l).Perm (x :: l)
  | [] => .refl _
  | y :: l => by
    unfold insI
    split
    · exact .refl _
    · exact ((insI_perm x l).cons y).trans (.swap x y l)
theorem srtI_perm : ∀ l : List Int, (srtI l).Perm l
  | [] => .refl _
  | x :: l => (insI_perm x (srtI l)).trans ((srtI_perm l).cons x)
theorem insI_sorted (x : Int) : ∀ l : List Int, l.Pairwise (· ≤ ·) → (insI x l).Pairwise (· ≤ ·)
  | [], _ => by simp [insI]
  | y :: l, h => by
    obtain ⟨h1, h2⟩ := List.pairwise_cons.mp h
    unfold insI
    split
    · rename_i hx
      refine List.pairwise_cons.mpr ⟨fun z hz => ?_, h⟩
      rcases List.mem_cons.mp hz with rfl | hz
      · exact hx
      · have := h1 z hz
        omega
    · rename_i hx
      refine List.pairwise_cons.mpr ⟨fun z hz => ?_, insI_sorted x l h2⟩
      rcases List.mem_cons.mp ((insI_perm x l).mem_iff.mp hz) with rfl | hz
      · omega
      · exact h1 z hz
theorem srtI_sorted : ∀ l : List Int, (srtI l).Pairwise (· ≤ ·)
  | [] => .nil
  | x :: l => insI_sorted x _ (srtI_sorted l)
theorem sorted_unique : ∀ {l m : List Int}, l.Perm m → l.Pairwise (· ≤ ·) → m.Pairwise (· ≤ ·) → l = m
  | [], m, p, _, _ => p.nil_eq
  | x :: l, [], p, _, _ => by
    have := p.length_eq
    simp at this
  | x :: l, y :: m, p, h1, h2 => by
    obtain ⟨a1, a2⟩ := List.pairwise_cons.mp h1
    obtain ⟨b1, b2⟩ := List.pairwise_cons.mp h2
    have e : x = y := by
      have hx : x ∈ y :: m := p.mem_iff.mp (by simp)
      have hy : y ∈ x :: l := p.mem_iff.mpr (by simp)
      rcases List.mem_cons.mp hx with e | hx
      · exact e
      · rcases List.mem_cons.mp hy with e | hy
        · exact e.symm
        · have := a1 y hy
          have := b1 x hx
          omega
    subst e
    rw [sorted_unique p.cons_inv a2 b2]
def fSorted : List D → Rn Unit R
  | [.lst xs] => match pInts xs with
    | some ns => .ok (.own (.lst ((srtI ns).map .int)))
    | none => .bad
  | _ => .bad
theorem RepPs.ints {K : PySem.W.Frag} {H : Hp} : ∀ ns : List Int, RepPs K H (ns.map P.int) (ns.map V.int)
  | [] => rfl
  | n :: ns => ⟨.int n, ns.map V.int, rfl, rfl, RepPs.ints ns⟩
theorem cg_sorted {K : PySem.W.Frag} : CallG K (rSortedI K) fSorted := by
  intro H ds vs Q E hl h
  unfold fSorted at h
  split at h
  · rename_i xs
    split at h
    · rename_i ns e
      obtain rfl := pInts_ok e
      obtain ⟨v, fp, rfl, r⟩ := hl.one
      obtain ⟨a, vs, rfl, q, _, r⟩ := r
      obtain rfl := r.int
      refine ⟨a, ns, rfl, SqL.of q, fun ns' p h1 h2 hp => ?_⟩
      obtain rfl : ns' = srtI ns := sorted_unique (h1.trans (srtI_perm ns).symm) h2 (srtI_sorted ns)
      exact up_lst h (RepPs.ints _) hp
    · exact h.elim
  · exact h.elim
section
variable {W : WX} {X : Cx} {e : Expr} {es : List Expr} {gs : GA} {p pos : Pos}
theorem de_sorted (hm : X.mg "sorted" = none) (ha : DA W X (e :: es) gs) (hg : Gl X "sorted" := by rfl) (he : starEach (e :: es) X.env = (false, eval e X.env) :: starEach es X.env := by rfl) (hpl : (backTo pos (starEach es X.env)).any (·.1) = false := by rfl) : DE W X (.Call (.Name "sorted" p) (e :: es) [] pos) (gCall fSorted gs) :=
  de_callB cr_sortedI cg_sorted hm (by decide +kernel) ha hg (he := he) (hpl := hpl)
end
theorem take_big {n : Int} (h0 : 0 < n) (h1 : n < 2 ^ 250) : takeF [.orc, .p (.int n)] = .pick n.toNat fun i => .ok (.p (.int (i : Int))) := by
  unfold takeF
  refine if_pos ⟨h0, ?_⟩
  by_cases hz : n.natAbs = 0
  · rw [hz]; decide
  · have : n.natAbs < 2 ^ 250 := by
      have e : ((2 ^ 250 : Nat) : Int) = (2 : Int) ^ 250 := by rw [Int.natCast_pow]; rfl
      rw [← e] at h1
      generalize (2 ^ 250 : Nat) = T at h1 ⊢
      omega
    have := (Nat.log2_lt hz).mpr this
    omega
end DL
/-! DLv: rules for runs; gcd; try without a name; isinstance of an error by a built-in class. -/
namespace DL
open PySem PySem.Spec PyProof.Rows L2
section
variable {ε ε' α β : Type} {E : Str → ε → Prop}
theorem wp_bind {w : Rn ε α} {f : α → Rn ε β} {Q : β → Prop} : Wp (w.bind f) Q E ↔ Wp w (fun a => Wp (f a) Q E) E :=
  ⟨fun h => ⟨Rn.wp_mono (Rn.wp_bind.mp h.r) (fun _ q => ⟨q⟩) fun _ _ q => q⟩, fun h => ⟨Rn.wp_bind.mpr (Rn.wp_mono h.r (fun _ q => q.r) fun _ _ q => q)⟩⟩
theorem wp_mapErr {w : Rn ε α} {f : ε → ε'} {Q : α → Prop} {E : Str → ε' → Prop} (h : Wp w Q (fun c e => E c (f e))) : Wp (w.mapErr f) Q E := ⟨Rn.wp_mapErr.mpr h.r⟩
end
section
variable {a b : GE} {δ : Sl} {f : D → D → Rn Unit R} {Q : R → Prop} {E : Str → Unit → Prop} {R' : Fl → Prop} {F : Str → Sl → Prop}
theorem w_op2 (h : Wp (a δ) (fun x => Wp (b δ) (fun y => Wp (f x.d y.d) Q E) E) E) : Wp (gOp2 f a b δ) Q E := by
  unfold gOp2
  exact wp_bind.mpr (wp_imp h (fun _ q => wp_bind.mpr q) fun _ _ z => z)
theorem w_op1 {f : D → Rn Unit R} (h : Wp (a δ) (fun x => Wp (f x.d) Q E) E) : Wp (gOp1 f a δ) Q E := wp_bind.mpr h
theorem w_fn {n : Nat} {f : Fn} {gs : GA} {rs : List R} (h1 : gs δ = .ok rs) (h2 : rs.length = n) (h3 : Wp (f (rs.map R.d)) (fun d => Q (.own d)) E) : Wp (gFn n f gs δ) Q E := by
  unfold gFn
  rw [h1]
  show Wp (if rs.length = n then _ else _) Q E
  rw [if_pos h2]
  exact wp_bind.mpr (wp_imp h3 (fun _ q => wp_ok.mpr q) fun _ _ z => z)
theorem w_fnW {n : Nat} {f : Fn} {gs : GA} (h : Wp (gs δ) (fun rs => rs.length = n ∧ Wp (f (rs.map R.d)) (fun d => Q (.own d)) E) E) : Wp (gFn n f gs δ) Q E := by
  unfold gFn
  refine wp_bind.mpr (wp_imp h (fun rs q => ?_) fun _ _ z => z)
  rw [if_pos q.1]
  exact wp_bind.mpr (wp_imp q.2 (fun _ q => wp_ok.mpr q) fun _ _ z => z)
theorem w_call {f : List D → Rn Unit R} {gs : GA} (h : Wp (gs δ) (fun rs => Wp (f (rs.map R.d)) Q E) E) : Wp (gCall f gs δ) Q E := wp_bind.mpr h
theorem w_cons {gs : GA} {T : List R → Prop} (h : Wp (a δ) (fun r => Wp (gs δ) (fun rs => T (r :: rs)) E) E) : Wp (gCons a gs δ) T E :=
  wp_bind.mpr (wp_imp h (fun _ q => wp_bind.mpr (wp_imp q (fun _ q => wp_ok.mpr q) fun _ _ z => z)) fun _ _ z => z)
theorem w_set {i : Nat} (h : Wp (a δ) (fun r => ∃ d, r = .own d ∧ R' (.nx (δ.set i (.own d)))) (fun c _ => F c δ)) : Wp (gSet i a δ) R' F := by
  unfold gSet lift
  refine wp_bind.mpr (wp_mapErr (wp_imp h (fun r q => ?_) fun _ _ z => z))
  obtain ⟨d, rfl, q⟩ := q
  exact wp_ok.mpr q
theorem w_ret (h : Wp (a δ) (fun r => ∃ d, r = .own d ∧ R' (.ret d)) (fun c _ => F c δ)) : Wp (gRet a δ) R' F := by
  unfold gRet lift
  refine wp_bind.mpr (wp_mapErr (wp_imp h (fun r q => ?_) fun _ _ z => z))
  obtain ⟨d, rfl, q⟩ := q
  exact wp_ok.mpr q
theorem w_if {t : GT} {g1 g2 : GS} (h : Wp (t δ) (fun k => Wp (if k = true then g1 δ else g2 δ) R' F) (fun c _ => F c δ)) : Wp (gIfS t g1 g2 δ) R' F := by
  unfold gIfS lift
  exact wp_bind.mpr (wp_mapErr (wp_imp h (fun _ q => q) fun _ _ z => z))
theorem w_tb {T : Bool → Prop} (h : Wp (a δ) (fun r => ∃ k, r.d = .p (.bl k) ∧ T k) E) : Wp (gTB a δ) T E := by
  unfold gTB
  refine wp_bind.mpr (wp_imp h (fun r q => ?_) fun _ _ z => z)
  obtain ⟨k, e, q⟩ := q
  unfold D.bool?
  rw [e]
  exact wp_ok.mpr q
theorem w_tru {T : Bool → Prop} (h : Wp (a δ) (fun r => ∃ k, r.d = .p (.bl k) ∧ T k) E) : Wp (gTru a δ) T E := by
  unfold gTru
  refine wp_bind.mpr (wp_imp h (fun r q => ?_) fun _ _ z => z)
  obtain ⟨k, e, q⟩ := q
  rw [e]
  exact wp_ok.mpr q
theorem w_of {α : Type} {ε : Type} {w : Rn ε α} {v : α} {Q : α → Prop} {E : Str → ε → Prop} (e : w = .ok v) (q : Q v) : Wp w Q E := by
  rw [e]; exact wp_ok.mpr q
theorem eq_ints (i j : Int) : fB (fEqB false) (.p (.int i)) (.p (.int j)) = .ok (.own (.p (.bl (decide (i = j))))) := by
  simp [fB, fEqB, P.scal, P.seq, Rn.bind]
theorem ne_ints (i j : Int) : fB (fEqB true) (.p (.int i)) (.p (.int j)) = .ok (.own (.p (.bl (decide (i ≠ j))))) := by
  simp [fB, fEqB, P.scal, P.seq, Rn.bind]
end
theorem fn_eq {n : Nat} {g : GS} {ds : List D} {d : D} (h : g (startS n ds) = .ok (.ret d)) : fnD n g ds = .ok d := by
  unfold fnD
  rw [h]
  rfl
theorem fn_eqN {n : Nat} {g : GS} {ds : List D} {δ' : Sl} (h : g (startS n ds) = .ok (.nx δ')) : fnD n g ds = .ok (.p .non) := by
  unfold fnD
  rw [h]
  rfl
theorem fn_eqE {n : Nat} {g : GS} {ds : List D} {c : Str} {δ' : Sl} (h : g (startS n ds) = .err c δ') : fnD n g ds = .err c () := by
  unfold fnD
  rw [h]
  rfl
theorem seq_eq {a b : GS} {δ δ' : Sl} {r : Rn Sl Fl} (h1 : a δ = .ok (.nx δ')) (h2 : b δ' = r) : gSeq a b δ = r := by
  unfold gSeq
  rw [h1]
  exact h2
theorem seq_eqr {a b : GS} {δ : Sl} {d : D} (h1 : a δ = .ok (.ret d)) : gSeq a b δ = .ok (.ret d) := by
  unfold gSeq
  rw [h1]
  rfl
theorem seq_eqE {a b : GS} {δ δ' : Sl} {c : Str} (h1 : a δ = .err c δ') : gSeq a b δ = .err c δ' := by
  unfold gSeq
  rw [h1]
  rfl
theorem for_eq {t : Tg} {gi : GI} {g : GS} {δ : Sl} {xs : List P} {r : Rn Sl Fl} (e : gi δ = .ok xs) (h : gForL t g xs δ = r) : gFor t gi g δ = r := by
  unfold gFor lift
  rw [e]
  exact h
theorem if_eqT {t : GT} {a b : GS} {δ : Sl} {r : Rn Sl Fl} (h : t δ = .ok true) (k : a δ = r) : gIfS t a b δ = r := by
  unfold gIfS lift
  rw [h]
  exact k
theorem if_eqF {t : GT} {a b : GS} {δ : Sl} {r : Rn Sl Fl} (h : t δ = .ok false) (k : b δ = r) : gIfS t a b δ = r := by
  unfold gIfS lift
  rw [h]
  exact k
theorem gRange_ok {f : List D → Rn Unit (List P)} {gs : GA} {δ : Sl} {rs : List R} {r : Rn Unit (List P)} (h1 : gs δ = .ok rs) (h2 : f (rs.map R.d) = r) : gRangeI f gs δ = r := by
  unfold gRangeI
  rw [h1]
  exact h2
theorem range1_ok {n : Int} (h0 : -1000000 ≤ n) (h : n ≤ 1000000) : fRange1 [.p (.int n)] = .ok (rangeP 0 n) := by
  have hh : -(2 ^ 62) ≤ n ∧ n < 2 ^ 62 := by omega
  unfold fRange1
  simp only [hh, and_self, if_true]
theorem eq_self {x : P} (n : Bool) (h1 : P.scal x x = false) (h2 : SeqAt.shaped x.py = true) : fEqB n (.p x) (.p x) = .ok (!n) := by
  have c : x.py.canLay0 = true := by
    unfold SeqAt.shaped at h2
    simp only [Bool.and_eq_true] at h2
    exact h2.1
  unfold fEqB
  dsimp only
  rw [if_neg (by rw [h1]; decide), if_pos ⟨h2, h2⟩, show PyData.eqv x.py x.py = true from SeqAt.eqv_refl _ c]
  cases n <;> rfl
theorem eq_selfD {d : D} {x : P} (n : Bool) (e : d = .p x) (h1 : P.scal x x = false) (h2 : SeqAt.shaped x.py = true) : fEqB n d d = .ok (!n) := by
  subst e
  exact eq_self n h1 h2
theorem op2_eq {f : D → D → Rn Unit R} {a b : GE} {δ : Sl} {x y : R} {r : Rn Unit R} (h1 : a δ = .ok x) (h2 : b δ = .ok y) (h3 : f x.d y.d = r) : gOp2 f a b δ = r := by
  unfold gOp2
  rw [h1, Rn.bind_ok, h2]
  exact h3
theorem tb_eq {a : GE} {δ : Sl} {k : Bool} (h : a δ = .ok (.own (.p (.bl k)))) : gTB a δ = .ok k := by
  unfold gTB
  rw [h]
  rfl
theorem fB_eq {f : D → D → Rn Unit Bool} {x y : D} {k : Bool} (h : f x y = .ok k) : fB f x y = .ok (.own (.p (.bl k))) := by
  unfold fB
  rw [h]
  rfl
theorem forL_eq {t : Tg} {g : GS} {x : P} {xs : List P} {δ δ1 δ' : Sl} {r : Rn Sl Fl} (e : t.set (.p x) δ = some δ1) (w : g δ1 = .ok (.nx δ')) (k : gForL t g xs δ' = r) : gForL t g (x :: xs) δ = r := by
  unfold gForL
  rw [e]
  show ((g δ1).bind _) = r
  rw [w]
  exact k
def fuelAt (i k : Nat) : Sl → Nat := fun δ => match δ[i]? with
  | some (S.own (D.p (P.int b))) => b.natAbs + k
  | some (S.bor _ (D.p (P.int b))) => b.natAbs + k
  | _ => 0
/-! ### gcd -/
def fGcd : List D → Rn Unit R
  | [.p (.int a), .p (.int b)] => .ok (.own (.p (.int ((Nat.gcd a.natAbs b.natAbs : Nat) : Int))))
  | _ => .bad
theorem cg_gcd {K : PySem.W.Frag} : CallG K rGcd fGcd := by
  intro H ds vs Q E hl h
  unfold fGcd at h
  split at h
  · obtain ⟨v, u, fp, gp, rfl, r1, r2⟩ := hl.two
    obtain rfl : v = .int _ := r1.1
    obtain rfl : u = .int _ := r2.1
    exact ⟨_, _, rfl, RepP.up h rfl⟩
  · exact h.elim
section
variable {W : WX} {X : Cx} {e : Expr} {es : List Expr} {gs : GA} {p pos p2 : Pos}
theorem de_gcd {x : Str} (hm : X.mg x = some (.builtin "math.gcd")) (ha : DA W X (e :: es) gs) (hg : Gl X x := by rfl) (hdb : (x == ("__debug__" : Str)) = false := by decide) (he : starEach (e :: es) X.env = (false, eval e X.env) :: starEach es X.env := by rfl) (hpl : (backTo pos (starEach es X.env)).any (·.1) = false := by rfl) : DE W X (.Call (.Name x p) (e :: es) [] pos) (gCall fGcd gs) :=
  PE.imp (pe_callBfun cr_gcd hg hm ha hdb he hpl) fun σ H Q h => call_of cg_gcd σ H Q h
end
/-! ### try without a name -/
def outEx0 (δ : Sl) : Sl := δ.map S.noExn
def gTryOW (sub : Str → Option Bool) (gsu : Str → GS) : Rn Sl Fl → Rn Sl Fl
  | .ok fl => .ok fl
  | .err c δ' => match sub c with
    | some true => ((gsu c δ').noErrS).bind fun fl => .ok (fl.map outEx0)
    | some false => .err c δ'
    | none => .bad
  | .bad => .bad
  | .pick n k => .pick n fun j => gTryOW sub gsu (k j)
def gTryO (sub : Str → Option Bool) (g : GS) (gsu : Str → GS) : GS := fun δ => gTryOW sub gsu (g δ)
theorem gTryOW_wp {sub : Str → Option Bool} {gsu : Str → GS} {Q : Fl → Prop} {E : Str → Sl → Prop} : ∀ {r : Rn Sl Fl}, (gTryOW sub gsu r).wp Q E →
    r.wp Q fun c δ' => (sub c = some true ∧ (((gsu c δ').noErrS).bind fun fl => .ok (fl.map outEx0)).wp Q E) ∨ (sub c = some false ∧ E c δ') := by
  intro r
  induction r with
  | ok fl => exact fun h => h
  | err c δ' =>
    intro h
    unfold gTryOW at h
    split at h
    · rename_i e; exact .inl ⟨e, h⟩
    · rename_i e; exact .inr ⟨e, h⟩
    · exact h.elim
  | bad => exact fun h => h
  | pick n k ih => exact fun h j hj => ih j (h j hj)
section
variable {K : PySem.W.Frag} {B H : Hp}
theorem SRel.outEx0 {Rg : Option Nat → Hp} {ex : Option Addr} {σ : L2.St} {δ : Sl} (S0 : SRel K B (ex := ex) Rg σ H δ) : SRel K B (ex := none) Rg σ H (outEx0 δ) := by
  obtain ⟨b, u, fp, q, n, f⟩ := S0
  exact ⟨b, u, fp, q.offEx, n, f⟩
end
section
variable {W : WX} {X : Cx} {body suite : List Stmt} {b₀ : Stmt} {g1 : GS} {pos p np pos' : Pos}
theorem try_ofO {sub : Str → Option Bool} {gsu : Str → GS} {c : Value} {ts : Addr → Value → Option Addr → TS}
    (hts : ts = fun a cls d D σ H => ∃ cl C, X.mg cl = some (.ref C) ∧ cls = .ref C ∧ d = none ∧ tDS ⟨X.K, X.mg, W0, some a⟩ (gsu cl) D σ H) (et : ErrT X.K X.mg c sub) (hc : X.calm = true)
    (D : Ends) (σ : L2.St) (H : Hp) (h : tDS (dc X W) (gTryO sub g1 gsu) D σ H) : tDS ⟨X.K, X.mg, wOnly X.K c ts W D, none⟩ g1 D σ H := by
  rw [dc_calm hc] at h
  obtain ⟨B, Rg, δ, S0, w⟩ := h
  refine ⟨B, Rg, δ, S0, Rn.wp_mono (gTryOW_wp w) (fun _ q => q) fun cl δ' q C σ1 H1 hm S1 => ?_⟩
  rcases q with ⟨e, q⟩ | ⟨e, q⟩
  · refine ⟨true, et cl true C e hm, fun _ a ha => ?_, fun z => Bool.noConfusion z⟩
    subst hts
    refine ⟨cl, C, hm, rfl, rfl, ?_⟩
    obtain ⟨b, u, fp, r, n, f⟩ := S1
    refine ⟨B, Rg, δ', ⟨b, u, fp, r.toEx (a := a), n, f⟩, Rn.wp_noErrS (Rn.wp_mono (Rn.wp_bind.mp q) (fun fl q => ?_) fun _ _ q => q)⟩
    cases fl with
    | nx δ2 => exact fun σ2 H2 S2 => q _ _ S2.outEx0
    | bk δ2 => exact fun σ2 H2 S2 => q _ _ S2.outEx0
    | ct δ2 => exact fun σ2 H2 S2 => q _ _ S2.outEx0
    | ret d => exact q
  · exact ⟨false, et cl false C e hm, fun z => Bool.noConfusion z, fun _ => q C σ1 H1 hm S1⟩
theorem ds_tryOnly {x : Str} {c : Value} {sub : Str → Option Bool} {gsu : Str → GS} (hs : X.stack = X.env :: X.outer) (hf : X.env.frame = some X.env.locals) (hcal : X.calm = true)
    (hc : Names X x c) (et : ErrT X.K X.mg c sub) (tk : Takes X W)
    (hb : ∀ (W' : WX) (pn : List (Addr × Obj)) (xe : Value → Shared → Prop), Takes (X.tr pn xe) W' → PassesOwn (model X.prog X.w) X.A X.env xe → DSs W' (X.tr pn xe) body g1)
    (hsu : ∀ (cl : Str) (C a : Addr) (oe : Obj) (pn : List (Addr × Obj)), X.mg cl = some (.ref C) → Zc (.ref C) none oe → (∃ vs, oe.data = .fields vs) → DSs W0 (X.suite a ((a, oe) :: pn)) (b₀ :: suite) (gsu cl)) :
    DS W X (.Try body [.ExceptHandler (some (.Name x np)) none (b₀ :: suite) pos'] [] [] pos) (gTryO sub g1 gsu) := by
  refine PS.imp (ps_try_only (Wout := W) (tb := fun W' => tDS ⟨X.K, X.mg, W', none⟩ g1) (ts := fun a cls d D σ H => ∃ cl C, X.mg cl = some (.ref C) ∧ cls = .ref C ∧ d = none ∧ tDS ⟨X.K, X.mg, W0, some a⟩ (gsu cl) D σ H)
    hs hf hc tk (fun W' pn xe t1 t2 => ?_) fun a oe cls d pn hz hv => ?_) fun D σ H h => try_ofO rfl et hcal D σ H h
  · have := hb W' pn xe t1 t2
    unfold DSs at this
    rw [dc_calm (X := X.tr pn xe) hcal] at this
    exact this
  · refine ⟨fun pins s σ H D I ⟨cl, C, hm, e1, e2, h⟩ => ?_⟩
    subst e1 e2
    exact (hsu cl C a oe pn hm hz hv).run pins s σ H D I h
theorem ds_tryOC {x : Str} {sub : Str → Option Bool} {gsu : Str → GS} (cc : CatchC X.K X.mg x sub) (hs : X.stack = X.env :: X.outer) (hf : X.env.frame = some X.env.locals) (hcal : X.calm = true) (tk : Takes X W)
    (hb : ∀ (W' : WX) (pn : List (Addr × Obj)) (xe : Value → Shared → Prop), Takes (X.tr pn xe) W' → PassesOwn (model X.prog X.w) X.A X.env xe → DSs W' (X.tr pn xe) body g1)
    (hsu : ∀ (cl : Str) (C a : Addr) (oe : Obj) (pn : List (Addr × Obj)), X.mg cl = some (.ref C) → Zc (.ref C) none oe → (∃ vs, oe.data = .fields vs) → DSs W0 (X.suite a ((a, oe) :: pn)) (b₀ :: suite) (gsu cl))
    (hg : Gl X x := by rfl) (hdb : (x == ("__debug__" : Str)) = false := by decide) :
    DS W X (.Try body [.ExceptHandler (some (.Name x np)) none (b₀ :: suite) pos'] [] [] pos) (gTryO sub g1 gsu) := by
  obtain ⟨C, hC, et⟩ := cc.ex
  exact ds_tryOnly hs hf hcal ⟨hg, hdb, .inl hC⟩ et tk hb hsu
end
/-! ### isinstance of an error by a built-in class -/
structure IsTB (K : PySem.W.Frag) (mg : Str → Option Value) (T : String) (sub : Str → Option Bool) : Prop where
  ex : ∀ c b C, sub c = some b → mg c = some (.ref C) → ExcC K C ∧ PySem.W.kitOne K (.ref C) (.type T) = some b
/-- which classes are kinds of a built-in class -/
inductive SubTB (K : PySem.W.Frag) (mg : Str → Option Value) (T : String) : List (Str × Bool) → Prop
  | nil : SubTB K mg T []
  | cons {x : Str} {D : Addr} {b : Bool} {t : List (Str × Bool)} (C : ClsT K mg x D) (h : PySem.W.subIn K (.ref D) (.type T) = some b) (r : SubTB K mg T t) : SubTB K mg T ((x, b) :: t)
theorem SubTB.get {K : PySem.W.Frag} {mg : Str → Option Value} {T : String} : ∀ {t : List (Str × Bool)} {x : Str} {b : Bool}, SubTB K mg T t → (x, b) ∈ t → ∃ D, ClsT K mg x D ∧ PySem.W.subIn K (.ref D) (.type T) = some b
  | _, _, _, .nil, h => by cases h
  | _, x, b, .cons C h r, hm => by
    rcases List.mem_cons.mp hm with e | e
    · cases e; exact ⟨_, C, h⟩
    · exact SubTB.get r e
theorem isTB_of {K : PySem.W.Frag} {mg : Str → Option Value} {T : String} {t : List (Str × Bool)} (O : ObjT K) (hk : PySem.W.kitMeta T = true)
    (S : SubTB K mg T t) : IsTB K mg T (tabS t) := by
  refine ⟨fun c b C e hm => ?_⟩
  obtain ⟨D', T', h⟩ := S.get (tab_mem e)
  have : D' = C := by have := T'.mg.symm.trans hm; exact Value.ref.inj (Option.some.inj this)
  subst this
  refine ⟨T'.excC O, ?_⟩
  unfold PySem.W.kitOne
  rw [if_neg (by simp)]
  show (if PySem.W.kitMeta T = true then PySem.W.subIn K (.ref D') (.type T) else none) = some b
  rw [if_pos hk]
  exact h
section
variable {W : WX} {X : Cx} {p pos p2 : Pos}
theorem de_isEB {T : String} {x y cl : Str} {C a : Addr} {oe : Obj} {pn : List (Addr × Obj)} {i : Nat} {sub : Str → Option Bool} {py : Pos} (it : IsTB X.K X.mg T sub) (hm2 : X.mg x = none) (hcl : X.mg cl = some (.ref C)) (hz : Zc (.ref C) none oe) (hf : ∃ vs, oe.data = .fields vs)
    (hm : X.mg "isinstance" = none) (hN : X.N[i]? = some y) (hv : Vis X.env.scope y) (hb : bootBuiltins x = some (.type T)) (hn : x ≠ "__name__" := by decide) (hg2 : Gl X x := by rfl) (hg : Gl X "isinstance" := by rfl)
    (hdb : (x == ("__debug__" : Str)) = false := by decide) (hdy : (y == ("__debug__" : Str)) = false := by decide) (hcd : (y == ("__classdict__" : Str)) = false := by decide)
    (he : starEach [.Name y py, .Name x p2] X.env = (false, eval (.Name y py) X.env) :: starEach [.Name x p2] X.env := by rfl) (he2 : starEach [.Name x p2] X.env = (false, eval (.Name x p2) X.env) :: starEach [] X.env := by rfl) (hpl : (backTo pos (starEach [.Name x p2] X.env)).any (·.1) = false := by rfl) :
    DE W0 (X.suite a ((a, oe) :: pn)) (.Call (.Name "isinstance" p) [.Name y py, .Name x p2] [] pos) (gIsE i (sub cl)) := by
  cases eb : sub cl with
  | none => exact ⟨fun pins s σ H Q I ⟨B, Rg, δ, S0, w⟩ => by
      unfold gIsE at w
      split at w
      · rename_i z; cases z
      · exact w.elim⟩
  | some b =>
    obtain ⟨ec, hkit⟩ := it.ex cl b C eb hcl
    refine PE.imp (pe_callB (X := X.suite a ((a, oe) :: pn)) (call_isE ec hz hf) hg hm (by decide +kernel) (pa_cons (pe_var (i := i) hN hv hdy hcd) (pa_cons (pe_bltn (v := .ty T) hg2 hm2 hb rfl hn hdb) pa_nil he2) he) (by decide) (by decide) he hpl) fun σ H Q ⟨B, Rg, δ, S0, w⟩ => ?_
    unfold gIsE at w
    split at w
    · rename_i b' e1 e2
      cases e2
      obtain ⟨b0, u, fp, q, n, f⟩ := S0
      obtain ⟨ov, f1, e3, r, _⟩ := q.get e1
      obtain ⟨_, a', ea, rfl⟩ := r
      obtain rfl : a = a' := Option.some.inj ea
      exact ⟨_, e3, .ty T, .type T, b, rfl, fun u h => h, hkit, w _ H (Same.refl H) (RepR.plain rfl)⟩
    · exact w.elim
end
end DL
/-! DLw: unpacking; common readings: bounds, draws, the Euclid of a law. -/
namespace DL
open PySem PySem.Spec PyProof.Rows L2
section
variable {W : WX} {X : Cx} {e : Expr} {es : List Expr} {ga : GE} {pos p : Pos}
/-- a, b = e: e a tuple or a list -/
def gUnpT (is : List Nat) (ga : GE) : GS := fun δ => (lift (ga δ) δ).bind fun r => match r.d with
  | .lst xs => if xs.length = is.length then .ok (.nx (setAll is (xs.map D.p) δ)) else .bad
  | d => match r with
    | .own _ => match (Tg.tup is).set d δ with
      | some δ' => .ok (.nx δ')
      | none => .bad
    | .vw _ => .bad
theorem ds_unpT {k n : Nat} {is : List Nat} (hc : X.calm = true) (hg : PGs X es (gNms is)) (ha : DE W X e ga) (hl : is.length = n) (hn : (assignEach es X.env).length = n := by rfl) (hst : (assignEach es X.env).findIdx? (·.1) = none := by rfl)
    (hs : swapsWithSole [.Tuple es k p] e pos.line X.env = pure false := by rfl) (hw : swappedStores [.Tuple es k p] e X.env = pure none := by rfl)
    (h1 : (assignEach [.Tuple es k p] X.env).map (·.2) = [assign (.Tuple es k p) X.env] := by rfl) : DS W X (.Assign [.Tuple es k p] e pos) (gUnpT is ga) := by
  subst hl
  have hg2 : PG X (.Tuple es k p) (fun v σ H Q => L2.gTup X.K is.length (gNms is) v σ H Q ∨ L2.gLst X.K is.length (gNms is) v σ H Q) :=
    ⟨fun pins s σ H v u Q I r hw => hw.elim (fun q => (pg_tup hc hg hn hst).run pins s σ H v u Q I r q) fun q => (pg_lst hc hg hn hst).run pins s σ H v u Q I r q⟩
  refine PS.imp (ps_asg ha hg2 hs hw h1) fun D σ H ⟨B, Rg, δ, S0, w⟩ => ?_
  refine tDS_val S0 w fun r v H1 s1 rv S1 q => ?_
  split at q
  · rename_i xs ed
    split at q
    · rename_i hl
      obtain ⟨fp0, rd⟩ := rv.look
      rw [ed] at rd
      obtain ⟨a, vs, rfl, qa, _, ra⟩ := rd
      obtain ⟨b, u, fp, z, qn, qf⟩ := S1
      refine .inr ⟨a, vs, rfl, SqL.of qa, by rw [ra.len, hl], setAll_ok is _ vs [] σ _ fp _ (by simpa using hl) z ra.ds (by simpa using qn) fun σ' fp' z1 z2 z3 => q σ' H1 ⟨b, u, fp', z1, z2, fun a ha => qf a (by simpa using z3 a ha)⟩⟩
    · exact q.elim
  · split at q
    · split at q
      · rename_i δ' e1
        obtain ⟨fp, q1, n, f⟩ := rv
        exact .inl (Tg.ok S0 s1 q1 n f e1 fun σ' S2 => q σ' H1 S2)
      · exact q.elim
    · exact q.elim
end
/-- below 2^k in size -/
structure Z (k : Nat) (x : Int) : Prop where
  h : x.natAbs < 2 ^ k
theorem Z.mono {j k : Nat} {x : Int} (h : Z j x) (hk : j ≤ k) : Z k x := ⟨Nat.lt_of_lt_of_le h.h (Nat.pow_le_pow_right (by decide) hk)⟩
theorem Z.mul {j k : Nat} {x y : Int} (hx : Z j x) (hy : Z k y) : Z (j + k) (x * y) := ⟨by
  rw [Int.natAbs_mul, Nat.pow_add]
  exact Nat.mul_lt_mul'' hx.h hy.h⟩
theorem Z.add {k : Nat} {x y : Int} (hx : Z k x) (hy : Z k y) : Z (k + 1) (x + y) := ⟨by
  have h1 := hx.h
  have h2 := hy.h
  rw [Nat.pow_succ]
  generalize 2 ^ k = T at *
  omega⟩
theorem Z.neg {k : Nat} {x : Int} (hx : Z k x) : Z k (-x) := ⟨by rw [Int.natAbs_neg]; exact hx.h⟩
theorem Z.sub {k : Nat} {x y : Int} (hx : Z k x) (hy : Z k y) : Z (k + 1) (x - y) := by
  rw [Int.sub_eq_add_neg]
  exact hx.add hy.neg
theorem Z.log {k : Nat} {x : Int} (h : Z k x) : x.natAbs.log2 ≤ k := by
  by_cases hz : x.natAbs = 0
  · rw [hz]; exact Nat.zero_le _
  · exact Nat.le_of_lt ((Nat.log2_lt hz).mpr h.h)
theorem Z.cmul {j k : Nat} {x y : Int} (hx : Z j x) (hy : Z k y) (h : j + k < 1000000 := by decide) : CMulW x y := by
  have h1 := hx.log
  have h2 := hy.log
  show x.natAbs.log2 + y.natAbs.log2 < 1000000
  omega
theorem Z.cdiv {k : Nat} {x y : Int} (hy : Z k y) (hp : 0 < y) (h : k < 9000 := by decide) : CDivW x y := ⟨hp, Nat.lt_of_le_of_lt hy.log h⟩
theorem Z.of {k : Nat} {x : Int} (h1 : -(2 ^ k) < x) (h2 : x < 2 ^ k) : Z k x := ⟨by
  have e : ((2 ^ k : Nat) : Int) = (2 : Int) ^ k := by rw [Int.natCast_pow]; rfl
  rw [← e] at h1 h2
  generalize (2 ^ k : Nat) = T at *
  omega⟩
theorem Z.lt {k : Nat} {x : Int} (h : Z k x) : -(2 ^ k) < x ∧ x < 2 ^ k := by
  have e : ((2 ^ k : Nat) : Int) = (2 : Int) ^ k := by rw [Int.natCast_pow]; rfl
  have := h.h
  rw [← e]
  generalize (2 ^ k : Nat) = T at *
  omega
theorem Z.div {k : Nat} {x y : Int} (hx : Z k x) (hy : 0 < y) : Z k (x / y) := ⟨by
  have h := hx.h
  obtain ⟨Y, rfl⟩ : ∃ Y : Nat, y = (Y : Int) := ⟨y.toNat, by omega⟩
  have h1 : (Y : Int) * (x / (Y : Int)) ≤ x := Int.mul_ediv_self_le (by omega)
  have h2 : x < (Y : Int) * (x / (Y : Int)) + (Y : Int) := Int.lt_mul_ediv_self_add (by omega)
  generalize x / (Y : Int) = q at *
  generalize (2 ^ k : Nat) = T at *
  by_cases hq : 0 ≤ q
  · have : q ≤ (Y : Int) * q := by
      have := Int.mul_le_mul_of_nonneg_right (show (1 : Int) ≤ Y by omega) hq
      omega
    omega
  · have : (Y : Int) * q + (Y : Int) ≤ q + 1 := by
      have e : (Y : Int) * q + (Y : Int) = (Y : Int) * (q + 1) := by rw [Int.mul_add, Int.mul_one]
      rw [e]
      have := Int.mul_le_mul_of_nonneg_right (show (1 : Int) ≤ Y by omega) (show 0 ≤ -(q + 1) by omega)
      simp only [Int.mul_neg, Int.one_mul] at this
      omega
    omega⟩
section
variable {δ : Sl} {Q : R → Prop}
/-- a draw of fewer than n -/
theorem draw_eq {n : Int} {gs : GA} (h0 : 0 < n) (h1 : n < 2 ^ 250) (hg : gs δ = .ok [.vw .orc, .own (.p (.int n))]) (h : ∀ i : Int, 0 ≤ i → i < n → Q (.own (.p (.int i)))) : Wp (gFn 2 takeF gs δ) Q (fun _ _ => False) := by
  refine w_fn hg rfl ?_
  show Wp (takeF [.orc, .p (.int n)]) _ _
  rw [take_big h0 h1]
  refine wp_pick.mpr fun i hi => wp_ok.mpr (h _ (by omega) (by omega))
theorem set_fn {i n : Nat} {f : Fn} {gs : GA} {rs : List R} {T : D → Prop} {Q : Fl → Prop} (h1 : gs δ = .ok rs) (h2 : rs.length = n) (h3 : Wp (f (rs.map R.d)) T (fun _ _ => False)) (h4 : ∀ d, T d → Q (.nx (δ.set i (.own d)))) : Wp (gSet i (gFn n f gs) δ) Q (fun _ _ => False) :=
  w_set (w_fn h1 h2 (wp_imp h3 (fun d t => ⟨d, rfl, h4 d t⟩) fun _ _ z => z))
end
theorem cons_eq {a : GE} {gs : GA} {δ : Sl} {r : R} {rs : List R} (h1 : a δ = .ok r) (h2 : gs δ = .ok rs) : gCons a gs δ = .ok (r :: rs) := by
  unfold gCons
  rw [h1, Rn.bind_ok, h2]
  rfl
theorem fn_val {n : Nat} {f : Fn} {gs : GA} {δ : Sl} {rs : List R} {d : D} (h1 : gs δ = .ok rs) (h2 : rs.length = n) (h3 : f (rs.map R.d) = .ok d) : gFn n f gs δ = .ok (.own d) := by
  unfold gFn
  rw [h1, Rn.bind_ok, if_pos h2, h3]
  rfl
theorem set_eq {i : Nat} {a : GE} {δ : Sl} {d : D} (h : a δ = .ok (.own d)) : gSet i a δ = .ok (.nx (δ.set i (.own d))) := by
  unfold gSet lift
  rw [h]
  rfl
theorem ret_eq {a : GE} {δ : Sl} {d : D} (h : a δ = .ok (.own d)) : gRet a δ = .ok (.ret d) := by
  unfold gRet lift
  rw [h]
  rfl
theorem andV_eq {a b : GE} {δ : Sl} {r : Rn Unit R} (h1 : a δ = .ok (.own (.p (.bl true)))) (h2 : b δ = r) : gAndV a b δ = r := by
  unfold gAndV
  rw [h1]
  exact h2
theorem andV_eqF {a b : GE} {δ : Sl} (h1 : a δ = .ok (.own (.p (.bl false)))) : gAndV a b δ = .ok (.own (.p (.bl false))) := by
  unfold gAndV
  rw [h1]
  rfl
theorem orV_eqT {a b : GE} {δ : Sl} (h1 : a δ = .ok (.own (.p (.bl true)))) : gOrV a b δ = .ok (.own (.p (.bl true))) := by
  unfold gOrV
  rw [h1]
  rfl
theorem orV_eqF {a b : GE} {δ : Sl} {r : Rn Unit R} (h1 : a δ = .ok (.own (.p (.bl false)))) (h2 : b δ = r) : gOrV a b δ = r := by
  unfold gOrV
  rw [h1]
  exact h2
theorem or_eqF {a b : GT} {δ : Sl} {r : Rn Unit Bool} (h1 : a δ = .ok false) (h2 : b δ = r) : gOr a b δ = r := by
  unfold gOr
  rw [h1]
  exact h2
theorem or_eqT {a b : GT} {δ : Sl} (h1 : a δ = .ok true) : gOr a b δ = .ok true := by
  unfold gOr
  rw [h1]
  rfl
theorem and_eqT {a b : GT} {δ : Sl} {r : Rn Unit Bool} (h1 : a δ = .ok true) (h2 : b δ = r) : gAnd a b δ = r := by
  unfold gAnd
  rw [h1]
  exact h2
theorem and_eqF {a b : GT} {δ : Sl} (h1 : a δ = .ok false) : gAnd a b δ = .ok false := by
  unfold gAnd
  rw [h1]
  rfl
theorem not_eq {a : GT} {δ : Sl} {k : Bool} (h1 : a δ = .ok k) : gNot a δ = .ok (!k) := by
  unfold gNot
  rw [h1]
  rfl
theorem tru_eq {a : GE} {δ : Sl} {k : Bool} (h : a δ = .ok (.own (.p (.bl k)))) : gTru a δ = .ok k := by
  unfold gTru
  rw [h]
  rfl
theorem if_eq {t : GT} {a b : GE} {δ : Sl} {k : Bool} {r : Rn Unit R} (h : t δ = .ok k) (h2 : (if k = true then a δ else b δ) = r) : gIf t a b δ = r := by
  unfold gIf
  rw [h]
  exact h2
theorem call_eq {f : List D → Rn Unit R} {gs : GA} {δ : Sl} {rs : List R} {r : Rn Unit R} (h1 : gs δ = .ok rs) (h2 : f (rs.map R.d) = r) : gCall f gs δ = r := by
  unfold gCall
  rw [h1]
  exact h2
def signedF : Fn := fnD 2 (gRet (gOp2 iSub (gFn 2 takeF (gCons (gVar 0) (gCons (gOp2 fAdd (gOp2 fMul (gC (.int 2)) (gVar 1)) (gC (.int 1))) gNil))) (gVar 1)))
theorem signed_wp (m : Int) (h0 : 0 ≤ m) (h1 : m < 2 ^ 240) : Wp (signedF [.orc, .p (.int m)]) (fun d => ∃ i : Int, -m ≤ i ∧ i ≤ m ∧ d = .p (.int i)) (fun _ _ => False) := by
  have cm : CMulW 2 m := Z.cmul (j := 2) (k := 240) ⟨by decide⟩ (Z.of (by omega) h1)
  refine fn_wp (w_ret (w_op2 (draw_eq (n := 2 * m + 1) (by omega) (by omega) ?_ fun i h2 h3 => ?_)))
  · have e : gOp2 fMul (gC (.int 2)) (gVar 1) (startS 2 [.orc, .p (.int m)]) = .ok (.own (.p (.int (2 * m)))) := by
      show (if CMulW 2 m then _ else _) = _
      rw [if_pos cm]
    have e2 : gOp2 fAdd (gOp2 fMul (gC (.int 2)) (gVar 1)) (gC (.int 1)) (startS 2 [.orc, .p (.int m)]) = .ok (.own (.p (.int (2 * m + 1)))) := op2_eq e rfl rfl
    unfold gCons
    rw [e2]
    rfl
  · exact w_of (v := .own (.p (.int m))) rfl (w_of (v := .own (.p (.int (i - m)))) rfl ⟨_, rfl, i - m, by omega, by omega, rfl⟩)
/-! ### Euclid -/
def divisorG : GS := gSeq (gSet 0 (gCall fAbs (gCons (gVar 0) gNil)))
  (gSeq (gSet 1 (gCall fAbs (gCons (gVar 1) gNil)))
  (gSeq (fun δ => gWhile (gTB (gOp2 (fB fGt) (gVar 1) (gC (.int 0)))) (gPar 0 1 (gCons (gVar 1) (gCons (gOp2 fMod (gCall fInt1 (gCons (gVar 0) gNil)) (gVar 1)) gNil))) ((fuelAt 1 1) δ) δ)
  (gRetV 0)))
theorem while_tt {gt : GT} {g : GS} {n : Nat} {δ δ' : Sl} {r : Rn Sl Fl} (h : gt δ = .ok true) (w : g δ = .ok (.nx δ')) (k : gWhile gt g n δ' = r) : gWhile gt g (n + 1) δ = r := by
  unfold gWhile lift
  rw [h]
  show ((g δ).bind _) = r
  rw [w]
  exact k
theorem while_ff {gt : GT} {g : GS} {n : Nat} {δ : Sl} (h : gt δ = .ok false) : gWhile gt g (n + 1) δ = .ok (.nx δ) := by
  unfold gWhile lift
  rw [h]
  rfl
theorem euclid : ∀ (n a b : Nat) (ss : Sl), b ≤ n → gWhile (gTB (gOp2 (fB fGt) (gVar 1) (gC (.int 0)))) (gPar 0 1 (gCons (gVar 1) (gCons (gOp2 fMod (gCall fInt1 (gCons (gVar 0) gNil)) (gVar 1)) gNil))) (n + 1) (.own (.p (.int (a : Int))) :: .own (.p (.int (b : Int))) :: ss) =
    .ok (.nx (.own (.p (.int ((Nat.gcd a b : Nat) : Int))) :: .own (.p (.int 0)) :: ss))
  | n, a, 0, ss, _ => by
    rw [Nat.gcd_zero_right]
    exact while_ff rfl
  | n, a, b + 1, ss, h => by
    obtain ⟨m, rfl⟩ : ∃ m, n = m + 1 := ⟨n - 1, by omega⟩
    have e : Nat.gcd a (b + 1) = Nat.gcd (b + 1) (a % (b + 1)) := by
      rw [Nat.gcd_comm a, Nat.gcd_rec (b + 1) a, Nat.gcd_comm]
    have lt := Nat.mod_lt a (show 0 < b + 1 by omega)
    rw [e]
    refine while_tt (δ' := .own (.p (.int ((b + 1 : Nat) : Int))) :: .own (.p (.int ((a % (b + 1) : Nat) : Int))) :: ss) ?_ ?_ (euclid m (b + 1) (a % (b + 1)) ss (by omega))
    · show (fB fGt (.p (.int ((b + 1 : Nat) : Int))) (.p (.int 0))).bind _ = _
      have : fGt (.p (.int ((b + 1 : Nat) : Int))) (.p (.int 0)) = .ok true := by
        show Rn.ok _ = _
        have hh : (0 : Int) < ((b + 1 : Nat) : Int) := by omega
        simp [hh]
      rw [fB_eq this]
      rfl
    · have e2 : gOp2 fMod (gCall fInt1 (gCons (gVar 0) gNil)) (gVar 1) (.own (.p (.int (a : Int))) :: .own (.p (.int ((b + 1 : Nat) : Int))) :: ss) = .ok (.own (.p (.int ((a % (b + 1) : Nat) : Int)))) := by
        refine op2_eq (x := .own (.p (.int (a : Int)))) (y := .own (.p (.int ((b + 1 : Nat) : Int)))) rfl rfl ?_
        show (if 0 < ((b + 1 : Nat) : Int) then _ else _) = _
        rw [if_pos (by omega), Int.natCast_emod]
      have e3 := cons_eq (a := gVar 1) (r := .own (.p (.int ((b + 1 : Nat) : Int)))) rfl (cons_eq e2 (rfl : gNil (.own (.p (.int (a : Int))) :: .own (.p (.int ((b + 1 : Nat) : Int))) :: ss) = .ok []))
      unfold gPar lift
      rw [e3]
      rfl
theorem divisor_eq (a b : Int) : fnD 2 divisorG [.p (.int a), .p (.int b)] = .ok (.p (.int ((Nat.gcd a.natAbs b.natAbs : Nat) : Int))) := by
  have ab : ∀ x : Int, (if x < 0 then -x else x) = ((x.natAbs : Nat) : Int) := fun x => by split <;> omega
  refine fn_eq (seq_eq (δ' := [.own (.p (.int (a.natAbs : Int))), .bor none (.p (.int b))]) ?_ (seq_eq (δ' := [.own (.p (.int (a.natAbs : Int))), .own (.p (.int (b.natAbs : Int)))]) ?_ (seq_eq (euclid b.natAbs a.natAbs b.natAbs [] (Nat.le_refl _)) rfl)))
  · rw [← ab a]; rfl
  · rw [← ab b]; rfl
end DL
/-! DLx: range downwards; another Euclid; shifts. -/
namespace DL
open PySem PySem.Spec PyProof.Rows L2
section
variable {K : PySem.W.Frag} {H0 H : Hp}
theorem Walk.rangeC (lo c : Int) (n : Nat) : Walk K H0 H (Itc lo c n) ((List.range n).map fun (i : Nat) => P.int (lo + (i : Int) * c)) := by
  refine ⟨fun _ => none, (fun _ _ z => by cases z), (fun _ z => absurd rfl z), fun H' _ i => ⟨fun p e => ?_, fun h => (by have h' : n ≤ i := (by simpa using h); exact h')⟩⟩
  simp only [List.getElem?_map, Option.map_eq_some_iff] at e
  obtain ⟨j, ej, rfl⟩ := e
  obtain ⟨hj, ej⟩ := List.getElem?_eq_some_iff.mp ej
  simp at hj ej
  subst ej
  refine ⟨hj, fun x H'' y => ?_⟩
  obtain ⟨rfl, rfl⟩ := y
  exact ⟨Same.refl _, rfl⟩
end
/-- lo, lo - 1, .., hi + 1 -/
def rangeN (lo hi : Int) : List P := (List.range (lo - hi).toNat).map fun (i : Nat) => P.int (lo + (i : Int) * (-1))
def fRange3 : List D → Rn Unit (List P)
  | [.p (.int i), .p (.int j), .p (.int c)] => if c = -1 ∧ -(2 ^ 62) ≤ i ∧ i < 2 ^ 62 ∧ -(2 ^ 62) ≤ j ∧ j < 2 ^ 62 then .ok (rangeN i j) else .bad
  | _ => .bad
section
variable {W : WX} {X : Cx} {a b c e tg : Expr} {gs : GA} {p pos : Pos}
theorem di_range3 (hm : X.mg "range" = none) (ha : DA W X [a, b, c] gs) (hg : Gl X "range" := by rfl) (hs : starEach [a, b, c] X.env = (false, eval a X.env) :: starEach [b, c] X.env := by rfl) (hpl : (backTo pos (starEach [b, c] X.env)).any (·.1) = false := by rfl) : DI W X tg (.Call (.Name "range" p) [a, b, c] [] pos) (gRangeI fRange3 gs) := by
  refine PI.imp (pi_range3 hg hm ha hs hpl) fun σ H Rk ⟨B, Rg, δ, S0, w⟩ => ?_
  refine ⟨B, Rg, δ, S0, Rn.wp_mono (Rn.wp_bind.mp w) (fun rs q vs H1 s1 ra => ?_) fun _ _ q => q⟩
  obtain ⟨fp, r, _⟩ := ra
  have lk := r.look
  generalize rs.map R.d = ds at lk q
  unfold fRange3 at q
  split at q
  · rename_i i j k
    obtain ⟨v, r, rfl, ⟨fp1, q1⟩, u, r', rfl, ⟨gp, q2⟩, w, r'', rfl, ⟨hp, q3⟩, rfl⟩ := lk
    obtain rfl : v = .int i := q1.1
    obtain rfl : u = .int j := q2.1
    obtain rfl : w = .int k := q3.1
    split at q
    · rename_i hz
      obtain ⟨rfl, h1, h2, h3, h4⟩ := hz
      exact ⟨i, j, -1, _, rfl, RgC.neg h1 h2 h3 h4, q _ H1 s1 (Walk.rangeC _ _ _)⟩
    · exact q.elim
  · exact q.elim
end
/-- a slot with an int -/
def IsI (s : S) (a : Int) : Prop := s = .own (.p (.int a)) ∨ s = .bor none (.p (.int a))
theorem euclidN : ∀ (n a b : Nat) (s0 s1 : S) (ss : Sl), IsI s0 (a : Int) → IsI s1 (b : Int) → b ≤ n → ∃ s0' s1', IsI s0' ((Nat.gcd a b : Nat) : Int) ∧
    gWhile (gTB (gOp2 (fB (fEqB true)) (gVar 1) (gC (.int 0)))) (gPar 0 1 (gCons (gVar 1) (gCons (gOp2 fMod (gCall fInt1 (gCons (gVar 0) gNil)) (gVar 1)) gNil))) (n + 1) (s0 :: s1 :: ss) = .ok (.nx (s0' :: s1' :: ss))
  | n, a, 0, s0, s1, ss, h0, h1, _ => by
    rw [Nat.gcd_zero_right]
    refine ⟨s0, s1, h0, while_ff ?_⟩
    rcases h1 with rfl | rfl <;> rfl
  | n, a, b + 1, s0, s1, ss, h0, h1, h => by
    obtain ⟨m, rfl⟩ : ∃ m, n = m + 1 := ⟨n - 1, by omega⟩
    have e : Nat.gcd a (b + 1) = Nat.gcd (b + 1) (a % (b + 1)) := by
      rw [Nat.gcd_comm a, Nat.gcd_rec (b + 1) a, Nat.gcd_comm]
    have lt := Nat.mod_lt a (show 0 < b + 1 by omega)
    rw [e]
    obtain ⟨t0, t1, i0, w⟩ := euclidN m (b + 1) (a % (b + 1)) (.own (.p (.int ((b + 1 : Nat) : Int)))) (.own (.p (.int ((a % (b + 1) : Nat) : Int)))) ss (.inl rfl) (.inl rfl) (by omega)
    refine ⟨t0, t1, i0, while_tt (δ' := .own (.p (.int ((b + 1 : Nat) : Int))) :: .own (.p (.int ((a % (b + 1) : Nat) : Int))) :: ss) ?_ ?_ w⟩
    · have hv : gVar 1 (s0 :: s1 :: ss) = .ok (.own (.p (.int ((b + 1 : Nat) : Int)))) := by rcases h1 with rfl | rfl <;> rfl
      have hk : decide (((b + 1 : Nat) : Int) ≠ 0) = true := decide_eq_true (by omega)
      refine tb_eq (op2_eq hv rfl ?_)
      show fB (fEqB true) (.p (.int ((b + 1 : Nat) : Int))) (.p (.int 0)) = _
      rw [ne_ints, hk]
    · have hv : gVar 1 (s0 :: s1 :: ss) = .ok (.own (.p (.int ((b + 1 : Nat) : Int)))) := by rcases h1 with rfl | rfl <;> rfl
      have hu : gVar 0 (s0 :: s1 :: ss) = .ok (.own (.p (.int (a : Int)))) := by rcases h0 with rfl | rfl <;> rfl
      have e2 : gOp2 fMod (gCall fInt1 (gCons (gVar 0) gNil)) (gVar 1) (s0 :: s1 :: ss) = .ok (.own (.p (.int ((a % (b + 1) : Nat) : Int)))) := by
        refine op2_eq (x := .own (.p (.int (a : Int)))) (call_eq (cons_eq hu (rfl : gNil (s0 :: s1 :: ss) = .ok [])) rfl) hv ?_
        show (if 0 < ((b + 1 : Nat) : Int) then _ else _) = _
        rw [if_pos (by omega), Int.natCast_emod]
      have e3 := cons_eq hv (cons_eq e2 (rfl : gNil (s0 :: s1 :: ss) = .ok []))
      unfold gPar lift
      rw [e3]
      rfl
theorem Z.bits {k : Nat} {x : Int} (h : Z k x) : Builtin.Int.intBits x ≤ k + 1 := by
  have b : Builtin.Int.intBits x ≤ x.natAbs.log2 + 1 := by
    unfold Builtin.Int.intBits
    split <;> omega
  have := h.log
  omega
theorem Z.cshl {k : Nat} {x n : Int} (h : Z k x) (h0 : 0 ≤ n) (hn : (k : Int) + 1 + n ≤ 2 ^ 27) : CShl x n := ⟨h0, by
  have := h.bits
  omega⟩
theorem Z.pow2 {k n : Nat} (h : n < k) : Z k ((2 : Int) ^ n) := ⟨by
  rw [show ((2 : Int) ^ n) = (((2 : Nat) ^ n : Nat) : Int) by rw [Int.natCast_pow]; rfl, Int.natAbs_natCast]
  exact Nat.pow_lt_pow_right (by decide) h⟩
end DL
/-! DLy: texts: split, str, int of a text, f-strings, text times number. -/
namespace DL
open PySem PySem.Spec PyProof.Rows L2
theorem RepPs.strs {K : PySem.W.Frag} {H : Hp} : ∀ ys : List Str, RepPs K H (ys.map P.str) (ys.map V.str)
  | [] => rfl
  | y :: ys => ⟨.str y, ys.map V.str, rfl, rfl, RepPs.strs ys⟩
def fSplit (a : Str) : D → Rn Unit R
  | .p (.str b) => if (b.length == 0) = false ∧ a.length + 2 ≤ sizeLine then .ok (.own (.lst ((Txt.split a b).map P.str))) else .bad
  | _ => .bad
def gSplit (go ge : GE) : GE := fun δ => (go δ).bind fun s => match s.d with
  | .p (.str a) => (ge δ).bind fun r => fSplit a r.d
  | _ => .bad
section
variable {W : WX} {X : Cx} {a b e o tg iter : Expr} {es : List Expr} {ga gb gc go ge : GE} {gs : GA} {pos p p2 : Pos}
theorem de_split {apos : Pos} (ho : DE W X o go) (he : DE W X e ge) (hs : starEach [e] X.env = [(false, eval e X.env)] := by rfl) (hbase : attributeBase o "split" X.env (eval o X.env) = eval o X.env := by rfl) (hline : (apos.endLine == pos.line) = true := by rfl) :
    DE W X (.Call (.Attribute o "split" apos) [e] [] pos) (gSplit go ge) := by
  refine PE.imp (pe_split ho he hs hbase hline) fun σ H Q ⟨B, Rg, δ, S0, w⟩ => ?_
  refine tD_val S0 w fun r1 v1 H1 s1 rv1 S1 w1 => ?_
  split at w1
  · rename_i a ea
    obtain rfl : v1 = .str a := rv1.getP ea
    refine ⟨⟨a, rfl⟩, ?_⟩
    refine tD_val S1 w1 fun r2 v2 H2 s2 rv2 S2 w2 => ?_
    unfold fSplit at w2
    split at w2
    · rename_i b eb
      obtain rfl : v2 = .str b := rv2.getP eb
      split at w2
      · rename_i hz
        refine ⟨a, b, rfl, rfl, hz.1, hz.2, fun p hp => ?_⟩
        exact up_lst w2 (RepPs.strs _) hp
      · exact w2.elim
    · exact w2.elim
  · exact w1.elim
/-- str(x) -/
def fStrc : List D → Rn Unit R
  | [.p (.int i)] => if i.natAbs.log2 < 1920 then .ok (.own (.p (.str (Str.ofString (toString i))))) else .bad
  | [.p (.str a)] => .ok (.own (.p (.str a)))
  | _ => .bad
theorem cg_strc {K : PySem.W.Frag} : CallG K (fun xs H Q => (∃ i, xs = [V.int i] ∧ i.natAbs.log2 < 1920 ∧ Q (.str (Str.ofString (toString i))) H) ∨ ∃ a, xs = [V.str a] ∧ Q (.str a) H) fStrc := by
  intro H ds vs Q E hl h
  unfold fStrc at h
  split at h
  · rename_i i
    obtain ⟨v, fp, rfl, r⟩ := hl.one
    obtain rfl : v = .int i := r.1
    split at h
    · rename_i hz
      exact .inl ⟨i, rfl, hz, RepP.up h rfl⟩
    · exact h.elim
  · rename_i a
    obtain ⟨v, fp, rfl, r⟩ := hl.one
    obtain rfl : v = .str a := r.1
    exact .inr ⟨a, rfl, RepP.up h rfl⟩
  · exact h.elim
theorem call_strc : CallR X (.type "str") (fun xs H Q => (∃ i, xs = [V.int i] ∧ i.natAbs.log2 < 1920 ∧ Q (.str (Str.ofString (toString i))) H) ∨ ∃ a, xs = [V.str a] ∧ Q (.str a) H) := fun pins s σ H xs us Q I r h =>
  h.elim (fun q => call_str_int pins s σ H xs us Q I r q) fun q => SkE.call_str_str pins s σ H xs us Q I r q
theorem de_strc (hm : X.mg "str" = none) (ha : DA W X (e :: es) gs) (hg : Gl X "str" := by rfl) (he : starEach (e :: es) X.env = (false, eval e X.env) :: starEach es X.env := by rfl) (hpl : (backTo pos (starEach es X.env)).any (·.1) = false := by rfl) : DE W X (.Call (.Name "str" p) (e :: es) [] pos) (gCall fStrc gs) :=
  de_callTy call_strc cg_strc hm (by decide +kernel) ha hg (he := he) (hpl := hpl)
/-- int(x) -/
def fIntT : List D → Rn Unit R
  | [.p (.str a)] => match intText? a with
    | some n => if a.length ≤ 640 then .ok (.own (.p (.int n))) else .bad
    | none => .bad
  | ds => fInt1 ds
def rIntT : List V → Hp → VK → Prop := fun xs H Q => ((∃ i, xs = [.int i] ∧ Q (.int i) H) ∨ ∃ k, xs = [.bl k] ∧ Q (.int (if k then 1 else 0)) H) ∨ (∃ a n, xs = [.str a] ∧ PySem.intText? a = some n ∧ a.length ≤ 640 ∧ Q (.int n) H)
theorem cg_intT {K : PySem.W.Frag} : CallG K rIntT fIntT := by
  intro H ds vs Q E hl h
  unfold fIntT at h
  split at h
  · rename_i a
    obtain ⟨v, fp, rfl, r⟩ := hl.one
    obtain rfl : v = .str a := r.1
    split at h
    · rename_i n en
      split at h
      · rename_i hz
        exact .inr ⟨a, n, rfl, en, hz, RepP.up h rfl⟩
      · exact h.elim
    · exact h.elim
  · exact .inl (cg_int H _ vs Q E hl h)
theorem call_intT : CallR X (.type "int") rIntT := fun pins s σ H xs us Q I r h =>
  h.elim (fun q => call_int1 pins s σ H xs us Q I r q) fun q => call_int_str pins s σ H xs us Q I r q
theorem de_intT (hm : X.mg "int" = none) (ha : DA W X (e :: es) gs) (hg : Gl X "int" := by rfl) (he : starEach (e :: es) X.env = (false, eval e X.env) :: starEach es X.env := by rfl) (hpl : (backTo pos (starEach es X.env)).any (·.1) = false := by rfl) : DE W X (.Call (.Name "int" p) (e :: es) [] pos) (gCall fIntT gs) :=
  de_callTy call_intT cg_intT hm (by decide +kernel) ha hg (he := he) (hpl := hpl)
theorem fold_size (a : Array Nat) : ∀ (n : Nat) (acc : Array Nat), ((List.replicate n a).foldl (· ++ ·) acc).size = acc.size + n * a.size
  | 0, acc => by simp
  | n + 1, acc => by
    rw [List.replicate_succ, List.foldl_cons, fold_size a n (acc ++ a), Array.size_append, Nat.add_mul]
    omega
/-- a text times a number -/
def fMulS : D → D → Rn Unit R
  | .p (.str x), .p (.int k) => if 2 ≤ k ∧ k ≤ 1000 ∧ 1 ≤ x.length ∧ x.length ≤ 1000 then .ok (.own (.p (.str ⟨(List.replicate k.toNat x.cps).foldl (· ++ ·) #[]⟩))) else .bad
  | x, y => fMul x y
def rMulS : R2 := fun x y H Q => ∃ z k, x = .str z ∧ y = .int k ∧ (2 ≤ k ∧ k ≤ 1000 ∧ 1 ≤ z.length ∧ z.length ≤ 1000) ∧ Q (.str ⟨(List.replicate k.toNat z.cps).foldl (· ++ ·) #[]⟩) H
theorem op_mulS : OpR X (binaryOp .Mult) rMulS := by
  intro pins s σ H x y v u Q I rx ry h
  obtain ⟨z, k, rfl, rfl, ⟨h1, h2, h3, h4⟩, q⟩ := h
  obtain ⟨t, rfl⟩ := rx
  obtain ⟨t2, rfl⟩ := ry
  have e1 : ¬ k < 1 := by omega
  have e2 : (k == 1 || z.length == 0) = false := by
    rw [Bool.or_eq_false_iff]
    exact ⟨by simp; omega, by simp; omega⟩
  refine PySem.P.mul_str ?_ (fun _ _ => ?_) (fun _ _ => ?_) ?_
  · rw [decide_eq_false (by omega), decide_eq_false (by omega)]; rfl
  · have : (1000 : Int) ≤ (2 ^ 63 - 1) / k := (Int.le_ediv_iff_mul_le (by omega)).mpr (by omega)
    omega
  · have : z.length * k.toNat ≤ 1000 * 1000 := Nat.mul_le_mul h4 (by omega)
    generalize z.length * k.toNat = T at *
    show decide _ = false
    have hs := sizeLine_eq
    exact decide_eq_false (by omega)
  · rw [if_neg e1, e2, if_neg (by decide)]
    have hz : (⟨(List.replicate k.toNat z.cps).foldl (· ++ ·) #[]⟩ : Str).length ≤ sizeLine := by
      have e := fold_size z.cps k.toNat #[]
      have : k.toNat * z.cps.size ≤ 1000 * 1000 := Nat.mul_le_mul (by omega) h4
      have hs := sizeLine_eq
      show ((List.replicate k.toNat z.cps).foldl (· ++ ·) #[]).size ≤ sizeLine
      rw [e]
      generalize k.toNat * z.cps.size = T at *
      simp
      omega
    exact ⟨hz, .str _, H, I.tok _, ⟨_, rfl⟩, q⟩
theorem og_mulS {K : PySem.W.Frag} : OpG K (fun x y H Q => rMulS x y H Q ∨ rRep x y H Q ∨ rI CMulW (fun i j => .int (i * j)) x y H Q) fMulS := by
  intro H x y v u fx fy Q E rx ry h
  unfold fMulS at h
  split at h
  · rename_i z k
    obtain rfl : v = .str z := rx.1
    obtain rfl : u = .int k := ry.1
    split at h
    · rename_i hz
      exact .inl ⟨z, k, rfl, rfl, hz, RepP.up h rfl⟩
    · exact h.elim
  · exact .inr (og_mul H x y v u fx fy Q E rx ry h)
theorem de_mulS (ha : DE W X a ga) (hb : DE W X b gb) : DE W X (.BinOp a .Mult b pos) (gOp2 fMulS ga gb) := de_op2 (op_mulS.or op_mulA) og_mulS ha hb
/-! ### f-strings -/
def gFmt (g : GE) : GE := fun δ => (g δ).bind fun r => match r.d with
  | .p (.str y) => if y.length ≤ sizeLine then .ok (.own (.p (.str y))) else .bad
  | .p (.int i) => if i.natAbs.log2 < 1920 then .ok (.own (.p (.str (Str.ofString (toString i))))) else .bad
  | _ => .bad
theorem de_fmt (he : DE W X e ge) : DE W X (.FormattedValue e (-1) none pos) (gFmt ge) := by
  refine PE.imp (pe_fmt he) fun σ H Q ⟨B, Rg, δ, S0, w⟩ => ?_
  refine ⟨B, Rg, δ, S0, Rn.wp_mono (Rn.wp_bind.mp w) (fun r q v H1 s1 rv => ?_) fun _ _ q => q⟩
  split at q
  · rename_i y ey
    obtain rfl : v = .str y := rv.getP ey
    split at q
    · rename_i hz
      exact .inl ⟨y, rfl, hz, q _ H1 s1 (RepR.plain rfl)⟩
    · exact q.elim
  · rename_i i ei
    obtain rfl : v = .int i := rv.getP ei
    split at q
    · rename_i hz
      exact .inr ⟨i, rfl, hz, q _ H1 s1 (RepR.plain rfl)⟩
    · exact q.elim
  · exact q.elim
inductive DJ (W : WX) (X : Cx) : List Expr → List GE → Prop where
  | nil : DJ W X [] []
  | cons {e : Expr} {g : GE} {es : List Expr} {gs : List GE} (h : DE W X e g) (r : DJ W X es gs) : DJ W X (e :: es) (g :: gs)
theorem DJ.pj {es : List Expr} {gs : List GE} (h : DJ W X es gs) : PJ X es (gs.map (tD (dc X W))) := by
  induction h with
  | nil => exact .nil
  | cons h _ ih => exact .cons h ih
def gJl : List GE → Str → Sl → Rn Unit Str
  | [], acc, _ => .ok acc
  | g :: gs, acc, δ => (g δ).bind fun r => match r.d with
    | .p (.str y) => if (acc ++ y).length ≤ sizeLine then gJl gs (acc ++ y) δ else .bad
    | _ => .bad
def gJs (gs : List GE) : GE := fun δ => (gJl gs Str.empty δ).bind fun s => .ok (.own (.p (.str s)))
theorem js_of {c : DC} {B : Hp} {Rg : Rgs c.ex} {σ : L2.St} {δ : Sl} {H0 : Hp} : ∀ (gs : List GE) (acc : Str) (H : Hp) (Q : Str → Hp → Prop), SRel c.K B Rg σ H δ → Same H0 H →
    (gJl gs acc δ).wp (fun s => ∀ H', Same H0 H' → Q s H') (fun cl _ => ∀ C H', c.mg cl = some (.ref C) → Same H0 H' → c.W (.ref C) none σ H') → tJs (gs.map (tD c)) acc σ H Q
  | [], acc, H, Q, S0, s0, w => w H s0
  | g :: gs, acc, H, Q, S0, s0, w => by
    refine ⟨B, Rg, δ, S0, Rn.wp_mono (Rn.wp_bind.mp w) (fun r q v H1 s1 rv => ?_) fun cl _ q C H' hm s => q C H' hm (s0.trans s)⟩
    split at q
    · rename_i y ey
      obtain rfl : v = .str y := rv.getP ey
      split at q
      · rename_i hz
        exact ⟨y, rfl, hz, js_of gs (acc ++ y) H1 Q (S0.grow s1) (s0.trans s1) q⟩
      · exact q.elim
    · exact q.elim
theorem de_js {v1 v2 : Expr} {rest : List Expr} {gs : List GE} (h : DJ W X (v1 :: v2 :: rest) gs) : DE W X (.JoinedStr (v1 :: v2 :: rest) pos) (gJs gs) := by
  refine PE.imp (pe_joined h.pj) fun σ H Q ⟨B, Rg, δ, S0, w⟩ => ?_
  refine js_of gs Str.empty H _ S0 (Same.refl H) (Rn.wp_mono (Rn.wp_bind.mp w) (fun s q H' s1 => q _ H' s1 (RepR.plain rfl)) fun _ _ q => q)
end
end DL
/-! DLz: ord, index in a text. -/
namespace DL
open PySem PySem.Spec PyProof.Rows L2
section
variable {W : WX} {X : Cx} {a b e o tg iter : Expr} {es : List Expr} {ga gb gc go ge : GE} {gs : GA} {pos p p2 : Pos}
def fOrd : List D → Rn Unit R
  | [.p (.str x)] => if x.length = 1 then .ok (.own (.p (.int (x.cps.getD 0 0 : Nat)))) else .bad
  | _ => .bad
theorem cg_ord {K : PySem.W.Frag} : CallG K (fun xs H Q => ∃ x, xs = [V.str x] ∧ x.length = 1 ∧ Q (.int (x.cps.getD 0 0 : Nat)) H) fOrd := by
  intro H ds vs Q E hl h
  unfold fOrd at h
  split at h
  · rename_i x
    obtain ⟨v, fp, rfl, r⟩ := hl.one
    obtain rfl : v = .str x := r.1
    split at h
    · rename_i hz
      exact ⟨x, rfl, hz, RepP.up h rfl⟩
    · exact h.elim
  · exact h.elim
theorem de_ord (hm : X.mg "ord" = none) (ha : DA W X (e :: es) gs) (hg : Gl X "ord" := by rfl) (he : starEach (e :: es) X.env = (false, eval e X.env) :: starEach es X.env := by rfl) (hpl : (backTo pos (starEach es X.env)).any (·.1) = false := by rfl) : DE W X (.Call (.Name "ord" p) (e :: es) [] pos) (gCall fOrd gs) :=
  de_callB call_ord cg_ord hm (by decide +kernel) ha hg (he := he) (hpl := hpl)
/-- s.index(y, i), found -/
def gIdx (go : GE) (gs : GA) : GE := fun δ => (go δ).bind fun s => match s.d with
  | .p (.str a) => (gs δ).bind fun rs => match rs.map R.d with
    | [.p (.str b), .p (.int i)] => match Txt.indexFrom a b i with
      | some k => .ok (.own (.p (.int (k : Nat))))
      | none => .bad
    | _ => .bad
  | _ => .bad
theorem de_idx {apos : Pos} (hc : X.calm = true) (tk : Takes X W) (ho : DE W X o go) (ha : DA W X (e :: es) gs)
    (hbase : attributeBase o "index" X.env (eval o X.env) = eval o X.env := by rfl)
    (hfew : ((backTo pos (starEach (e :: es) X.env)).all (fun x => !x.1) && (backToKw pos (keywordEach [] X.env)).all (fun x => x.1.isSome)
      && decide ((e :: es).length + ([] : List Keyword).length + (if ([] : List Keyword).isEmpty then 0 else 1) < 30)) = true := by rfl)
    (hline : (apos.endLine == pos.line) = true := by rfl) (hs : starEach (e :: es) X.env = (false, eval e X.env) :: starEach es X.env := by rfl) (hplain : (backTo pos (starEach es X.env)).any (·.1) = false := by rfl) :
    DE W X (.Call (.Attribute o "index" apos) (e :: es) [] pos) (gIdx go gs) := by
  refine PE.imp (pe_bmS PySem.F.plainAttrs_str PySem.F.slot_str_index PySem.F.type_str_index (mt_indexFromX hc tk) ho ha hbase hfew hline hs hplain) fun σ H Q ⟨B, Rg, δ, S0, w⟩ => ?_
  refine tD_val S0 w fun r1 v1 H1 s1 rv1 S1 w1 => ?_
  split at w1
  · rename_i a ea
    obtain rfl : v1 = .str a := rv1.getP ea
    refine ⟨rfl, ?_⟩
    refine ⟨B, Rg, δ, S1, Rn.wp_mono (Rn.wp_bind.mp w1) (fun rs q vs H2 s2 ra => ?_) fun _ _ q C H' hm s => q C H' hm s⟩
    obtain ⟨fp, q1, _⟩ := ra
    have lk := q1.look
    generalize rs.map R.d = ds at lk q
    split at q
    · rename_i b i
      obtain ⟨v, u, fp1, gp, rfl, r1, r2⟩ := lk.two
      obtain rfl : v = .str b := r1.1
      obtain rfl : u = .int i := r2.1
      split at q
      · rename_i k ek
        refine ⟨a, b, i, rfl, rfl, fun k' e' => ?_, fun z => by rw [ek] at z; cases z⟩
        rw [ek] at e'
        obtain rfl := Option.some.inj e'
        exact q _ H2 s2 (RepR.plain rfl)
      · exact q.elim
    · exact q.elim
  · exact w1.elim
end
end DL
/-! DLza: a <= b <= c <= d; written dicts of the top. -/
namespace DL
open PySem PySem.Spec PyProof.Rows L2
section
variable {W : WX} {X : Cx} {a b c e : Expr} {ga gb gc gd : GE} {pos p p2 : Pos}
/-- a op1 b op2 c op3 d -/
def tChain3 (r r' r'' : R2) (ta tb tc td : TE) : TE := fun σ H Q => ta σ H fun x H1 => tb σ H1 fun y H2 => r x y H2 fun z H3 => ∃ k, z = .bl k ∧
  (if k = true then tc σ H3 fun w' H4 => r' y w' H4 (fun z H5 => ∃ k, z = .bl k ∧ (if k = true then td σ H5 fun u H6 => r'' w' u H6 Q else Q (.bl false) H5)) else Q (.bl false) H3)
theorem pe_chain3 {op op' op'' : CmpOp} {r r' r'' : R2} {d : Expr} {ta tb tc td : TE} (ho : OpR X (compareOp op) r) (ho' : OpR X (compareOp op') r') (ho'' : OpR X (compareOp op'') r'') (ha : PE X a ta) (hb : PE X b tb) (hc : PE X c tc) (hd : PE X d td)
    (hm : lastMarks [op, op', op''] [b, c, d] = false := by with_unfolding_all rfl) : PE X (.Compare a [op, op', op''] [b, c, d] pos) (tChain3 r r' r'' ta tb tc td) := by
  refine ⟨fun pins s σ H Q I h => ?_⟩
  refine Compare_chain (thn (ha.run pins s σ H _ I h) fun v s1 ⟨x, H1, I1, r1, q1⟩ => chain_link (thn (hb.run pins s1 σ H1 _ I1 q1) fun u s2 ⟨y, H2, I2, r2, q2⟩ =>
    thn (ho pins s2 σ H2 x y v u _ I2 r1 r2 q2) fun d s3 ⟨z, H3, I3, r3, k, e, q3⟩ => ?_)) hm
  subst e
  cases r3
  refine wpAny_truthy_bool ?_
  cases k with
  | false => exact ite_ff ⟨.bl false, H3, I3, rfl, q3⟩
  | true =>
    refine ite_tt (chain_link (thn (hc.run pins s3 σ H3 _ I3 q3) fun w' s4 ⟨z', H4, I4, r4, q4⟩ => thn (ho' pins s4 σ H4 y z' u w' _ I4 r2 r4 q4) fun d s5 ⟨z5, H5, I5, r5, k5, e5, q5⟩ => ?_))
    subst e5
    cases r5
    refine wpAny_truthy_bool ?_
    cases k5 with
    | false => exact ite_ff ⟨.bl false, H5, I5, rfl, q5⟩
    | true => exact ite_tt (chain_last (thn (hd.run pins s5 σ H5 _ I5 q5) fun u' s6 ⟨z6, H6, I6, r6, q6⟩ => ho'' pins s6 σ H6 z' z6 w' u' Q I6 r4 r6 q6))
def gChain3 (f f' f'' : D → D → Rn Unit Bool) (ga gb gc gd : GE) : GE := fun δ => (ga δ).bind fun x => (gb δ).bind fun y => (f x.d y.d).bind fun k => if k = true then (gc δ).bind fun z => (f' y.d z.d).bind fun k => if k = true then (gd δ).bind fun u => fB f'' z.d u.d else .ok (.own (.p (.bl false))) else .ok (.own (.p (.bl false)))
theorem chain3_of {r r' r'' : R2} {f f' f'' : D → D → Rn Unit Bool} (hf : OpG X.K r (fB f)) (hf' : OpG X.K r' (fB f')) (hf'' : OpG X.K r'' (fB f'')) (σ : L2.St) (H : Hp) (Q : VK) (h : tD (dc X W) (gChain3 f f' f'' ga gb gc gd) σ H Q) :
    tChain3 r r' r'' (tD (dc X W) ga) (tD (dc X W) gb) (tD (dc X W) gc) (tD (dc X W) gd) σ H Q := by
  obtain ⟨B, Rg, δ, S0, w⟩ := h
  refine tD_val S0 w fun r1 v1 H1 s1 rv1 S1 w1 => ?_
  refine tD_val S1 w1 fun r2 v2 H2 s2 rv2 S2 w2 => ?_
  obtain ⟨f1, q1⟩ := (rv1.grow s2).look
  obtain ⟨f2, q2⟩ := rv2.look
  refine hf H2 r1.d r2.d v1 v2 f1 f2 _ (fun cl _ => ∀ C H', (dc X W).mg cl = some (.ref C) → Same H2 H' → (dc X W).W (.ref C) none σ H') q1 q2 (Rn.wp_bind.mpr (Rn.wp_mono (Rn.wp_bind.mp w2) (fun k q v H3 s3 rv3 => ?_) fun _ _ q => q))
  obtain rfl : v = .bl k := rv3.getP rfl
  refine ⟨k, rfl, ?_⟩
  cases k with
  | false =>
    rw [if_neg (by decide)] at q ⊢
    exact q _ _ s3 (RepR.plain rfl)
  | true =>
    rw [if_pos rfl] at q ⊢
    refine tD_val (S2.grow s3) (Rn.wp_mono q (fun r q v H' s rv => q v H' (s3.trans s) (rv.back s3)) fun cl _ q C H' e s => q C H' e (s3.trans s)) fun r4 v4 H4 s4 rv4 S4 w4 => ?_
    obtain ⟨f4, q4⟩ := rv4.look
    obtain ⟨f2', q2'⟩ := ((rv2.grow s3).grow s4).look
    refine hf' H4 r2.d r4.d v2 v4 f2' f4 _ (fun cl _ => ∀ C H', (dc X W).mg cl = some (.ref C) → Same H4 H' → (dc X W).W (.ref C) none σ H') q2' q4 (Rn.wp_bind.mpr (Rn.wp_mono (Rn.wp_bind.mp w4) (fun k q v H5 s5 rv5 => ?_) fun _ _ q => q))
    obtain rfl : v = .bl k := rv5.getP rfl
    refine ⟨k, rfl, ?_⟩
    cases k with
    | false =>
      rw [if_neg (by decide)] at q ⊢
      exact q _ _ s5 (RepR.plain rfl)
    | true =>
      rw [if_pos rfl] at q ⊢
      refine tD_val (S4.grow s5) (Rn.wp_mono q (fun r q v H' s rv => q v H' (s5.trans s) (rv.back s5)) fun cl _ q C H' e s => q C H' e (s5.trans s)) fun r6 v6 H6 s6 rv6 S6 w6 => ?_
      obtain ⟨f6, q6⟩ := rv6.look
      obtain ⟨f4', q4'⟩ := ((rv4.grow s5).grow s6).look
      exact hf'' H6 r4.d r6.d v4 v6 f4' f6 Q _ q4' q6 w6
theorem de_chain3 {op op' op'' : CmpOp} {d : Expr} {r r' r'' : R2} {f f' f'' : D → D → Rn Unit Bool} (ho : OpR X (compareOp op) r) (hf : OpG X.K r (fB f)) (ho' : OpR X (compareOp op') r') (hf' : OpG X.K r' (fB f')) (ho'' : OpR X (compareOp op'') r'') (hf'' : OpG X.K r'' (fB f'')) (ha : DE W X a ga) (hb : DE W X b gb) (hc : DE W X c gc) (hd : DE W X d gd)
    (hm : lastMarks [op, op', op''] [b, c, d] = false := by with_unfolding_all rfl) : DE W X (.Compare a [op, op', op''] [b, c, d] pos) (gChain3 f f' f'' ga gb gc gd) := PE.imp (pe_chain3 ho ho' ho'' ha hb hc hd hm) (chain3_of hf hf' hf'')
end
/-! ### a written dict of the top, its keys texts -/
inductive DEnt (K : PySem.W.Frag) : List DictEntry → List (Str × P) → Prop
  | nil : DEnt K [] []
  | cons {e : DictEntry} {k : Str} {p : P} {es : List DictEntry} {t : List (Str × P)} (hk : ∃ tk, e.key = .str k tk) (hv : RepK K e.val p) (r : DEnt K es t) : DEnt K (e :: es) ((k, p) :: t)
theorem DEnt.find {K : PySem.W.Frag} {z : Str} : ∀ {es : List DictEntry} {t : List (Str × P)}, DEnt K es t → (match t.lookup z with
    | some p => ∃ e, es.find? (·.key.isStr z) = some e ∧ RepK K e.val p
    | none => es.find? (·.key.isStr z) = none ∧ es.any (·.refKey) = false)
  | _, _, .nil => ⟨rfl, rfl⟩
  | e :: es, (k, p) :: t, .cons ⟨tk, hk⟩ hv r => by
    have ih := DEnt.find (z := z) r
    have hs : e.key.isStr z = (k == z) := by rw [hk]; rfl
    rw [List.lookup_cons, List.find?_cons, hs]
    by_cases h : z = k
    · subst h
      have e1 : (z == z) = true := by simp
      rw [e1]
      exact ⟨e, rfl, hv⟩
    · have e1 : (z == k) = false := by simpa using h
      have e2 : (k == z) = false := by simpa using fun q : k = z => h q.symm
      rw [e1, e2]
      dsimp only
      cases hq : t.lookup z with
      | some p => rw [hq] at ih; exact ih
      | none =>
        rw [hq] at ih
        obtain ⟨h1, h2⟩ := ih
        refine ⟨h1, ?_⟩
        rw [List.any_cons, h2, Bool.or_false]
        show e.refKey = false
        unfold DictEntry.refKey
        rw [hk]
structure DictT (K : PySem.W.Frag) (w : World) (mg : Str → Option Value) (x : Str) (tab : List (Str × P)) : Prop where
  ex : ∃ d es n, mg x = some (.ref d) ∧ L2.KDict K w d es n ∧ DEnt K es.toList tab
theorem DictT.ns {K : PySem.W.Frag} {w : World} {d : Addr} {es : Array DictEntry} {n : Nat} {tab : List (Str × P)} (D : L2.KDict K w d es n) (E : DEnt K es.toList tab) (z : Str) : match tab.lookup z with
    | some p => ∃ u, PySem.W.nsIn K d z = some (some u) ∧ RepK K u p
    | none => PySem.W.nsIn K d z = some none := by
  have f := E.find (z := z)
  have un : PySem.W.nsIn K d z = (match es.toList.find? (·.key.isStr z) with
      | some e => some (some e.val)
      | none => if es.toList.any (·.refKey) then none else some none) := by
    unfold PySem.W.nsIn
    rw [D.at_]
    rfl
  split at f
  · obtain ⟨e, h1, h2⟩ := f
    exact ⟨e.val, by rw [un, h1], h2⟩
  · obtain ⟨h1, h2⟩ := f
    show PySem.W.nsIn K d z = some none
    rw [un, h1]
    dsimp only
    rw [h2]
    rfl
/-- e in x -/
def gInT (tab : List (Str × P)) (neg : Bool) (ga : GE) : GE := fun δ => (ga δ).bind fun r => match r.d with
  | .p (.str z) => .ok (.own (.p (.bl (if neg then !(tab.lookup z).isSome else (tab.lookup z).isSome))))
  | _ => .bad
/-- x[e] -/
def gItT (tab : List (Str × P)) (ga : GE) : GE := fun δ => (ga δ).bind fun r => match r.d with
  | .p (.str z) => match tab.lookup z with
    | some p => .ok (.own (.p p))
    | none => .bad
  | _ => .bad
section
variable {W : WX} {X : Cx} {a : Expr} {ga : GE} {pos p : Pos}
theorem de_inT {x : Str} {tab : List (Str × P)} (T : DictT X.K X.w X.mg x tab) (ha : DE W X a ga) (hg : Gl X x := by rfl) (hd : (x == ("__debug__" : Str)) = false := by decide) (hm : behindInMarks .In (.Name x p) = false := by rfl) : DE W X (.Compare a [.In] [.Name x p] pos) (gInT tab false ga) := by
  obtain ⟨d, es, n, e, kd, en⟩ := T.ex
  refine PE.imp (pe_cmpR (op_in_kd kd) ha (pe_glob (v := .ref d) hg e rfl hd) hm) fun σ H Q ⟨B, Rg, δ, S0, w⟩ => ?_
  refine tD_val S0 w fun r1 v1 H1 s1 rv1 S1 w1 => ?_
  split at w1
  · rename_i z ez
    obtain rfl : v1 = .str z := rv1.getP ez
    have ns := DictT.ns kd en z
    split at ns
    · rename_i q eq
      obtain ⟨u, h1, _⟩ := ns
      refine ⟨z, some u, rfl, rfl, h1, ?_⟩
      rw [eq] at w1
      exact RepP.up w1 rfl
    · rename_i eq
      refine ⟨z, none, rfl, rfl, ns, ?_⟩
      rw [eq] at w1
      exact RepP.up w1 rfl
  · exact w1.elim
theorem de_niT {x : Str} {tab : List (Str × P)} (T : DictT X.K X.w X.mg x tab) (ha : DE W X a ga) (hg : Gl X x := by rfl) (hd : (x == ("__debug__" : Str)) = false := by decide) (hm : behindInMarks .NotIn (.Name x p) = false := by rfl) : DE W X (.Compare a [.NotIn] [.Name x p] pos) (gInT tab true ga) := by
  obtain ⟨d, es, n, e, kd, en⟩ := T.ex
  refine PE.imp (pe_cmpR (op_notIn_kd kd) ha (pe_glob (v := .ref d) hg e rfl hd) hm) fun σ H Q ⟨B, Rg, δ, S0, w⟩ => ?_
  refine tD_val S0 w fun r1 v1 H1 s1 rv1 S1 w1 => ?_
  split at w1
  · rename_i z ez
    obtain rfl : v1 = .str z := rv1.getP ez
    have ns := DictT.ns kd en z
    split at ns
    · rename_i q eq
      obtain ⟨u, h1, _⟩ := ns
      refine ⟨z, some u, rfl, rfl, h1, ?_⟩
      rw [eq] at w1
      exact RepP.up w1 rfl
    · rename_i eq
      refine ⟨z, none, rfl, rfl, ns, ?_⟩
      rw [eq] at w1
      exact RepP.up w1 rfl
  · exact w1.elim
theorem de_itT {x : Str} {tab : List (Str × P)} (T : DictT X.K X.w X.mg x tab) (ha : DE W X a ga) (hg : Gl X x := by rfl) (hd : (x == ("__debug__" : Str)) = false := by decide) (hs : PlainIx a := by exact fun _ _ => rfl) : DE W X (.Subscript (.Name x p) a pos) (gItT tab ga) := by
  obtain ⟨d, es, n, e, kd, en⟩ := T.ex
  refine PE.imp (pe_ix ix_kdict (pe_glob (v := .ref d) hg e rfl hd) ha hs) fun σ H Q ⟨B, Rg, δ, S0, w⟩ => ?_
  refine tD_val S0 w fun r1 v1 H1 s1 rv1 S1 w1 => ?_
  split at w1
  · rename_i z ez
    obtain rfl : v1 = .str z := rv1.getP ez
    have ns := DictT.ns kd en z
    split at w1
    · rename_i q eq
      rw [eq] at ns
      obtain ⟨u, h1, h2⟩ := ns
      obtain ⟨v, rv, rp⟩ := h2.ok
      exact ⟨d, z, v, rfl, rfl, ⟨es, n, u, kd.at_, kd.lit, h1, rv⟩, RepP.up w1 (rp _)⟩
    · exact w1.elim
  · exact w1.elim
end

/-! ### a new list of ints, locked for good -/
def tFz (t : TE) : TE := fun σ H Q => t σ H fun v H' => ∃ d u, H' d = some u ∧ Mut (some u) ∧ ∀ od, Q v (upd H' d (.frz od u))
theorem pe_fz {X : Cx} {e : Expr} {t : TE} (h : PE X e t) : PE X e (tFz t) := by
  refine ⟨fun pins s σ H Q I hw => ?_⟩
  refine thn (h.run pins s σ _ _ I hw) fun v s1 ⟨x, H1, I2, r, d, u, e, mu, q⟩ => ?_
  obtain ⟨od, I3⟩ := I2.lock e mu
  exact ⟨x, _, I3, r, q od⟩
def intsP : List P → Option (List Int)
  | [] => some []
  | .int n :: xs => (intsP xs).map (n :: ·)
  | _ :: _ => none
theorem intsP_eq : ∀ {xs : List P} {ns : List Int}, intsP xs = some ns → xs = ns.map P.int
  | [], ns, h => by
    obtain rfl := Option.some.inj h
    rfl
  | .int n :: xs, ns, h => by
    simp only [intsP, Option.map_eq_some_iff] at h
    obtain ⟨ms, h1, rfl⟩ := h
    rw [intsP_eq h1]
    rfl
  | .non :: _, _, h => nomatch h
  | .bl _ :: _, _, h => nomatch h
  | .str _ :: _, _, h => nomatch h
  | .tup _ :: _, _, h => nomatch h
  | .fl _ :: _, _, h => nomatch h
theorem intsP_of : ∀ ns : List Int, intsP (ns.map P.int) = some ns
  | [] => rfl
  | n :: ns => by
    show (intsP (ns.map P.int)).map (n :: ·) = _
    rw [intsP_of ns]
    rfl
def fFz : R → Rn Unit R
  | .own (.lst xs) => match intsP xs with
    | some ns => .ok (.own (.p (.fl ns)))
    | none => .bad
  | _ => .bad
def gFz (ga : GE) : GE := fun δ => (ga δ).bind fFz
theorem de_fz {W : WX} {X : Cx} {e : Expr} {ga : GE} (ha : DE W X e ga) : DE W X e (gFz ga) := by
  refine PE.imp (pe_fz ha) fun σ H Q ⟨B, Rg, δ, S0, w⟩ => ?_
  refine ⟨B, Rg, δ, S0, Rn.wp_mono (Rn.wp_bind.mp w) (fun r q v H1 s1 rv => ?_) fun _ _ q => q⟩
  unfold fFz at q
  split at q
  · rename_i xs
    split at q
    · rename_i ns e
      obtain rfl := intsP_eq e
      obtain ⟨fp, ⟨a, vs, rfl, qa, rfl, r⟩, n, f⟩ := rv
      refine ⟨a, _, qa, trivial, fun od => ?_⟩
      obtain rfl := RepPs.int r
      have fa : H a = none := f a (by simp)
      refine q (.ref a) _ (fun b o eb => ?_) (RepR.plain ⟨a, od, rfl, upd_same⟩)
      rw [upd_ne (ne_of_none eb fa)]
      exact s1 b o eb
    · exact q.elim
  · exact q.elim
/-! ### recursion -/
def gBad : GS := fun _ => .bad
theorem dss_bad {W : WX} {X : Cx} {sts : List Stmt} : DSs W X sts gBad := ⟨fun pins s σ H D I ⟨_, _, _, _, w⟩ => w.elim⟩
end DL
/-! DLzb: dict displays of ints, get with a default, raise with a made text, tuples repeated. -/
namespace DL
open PySem PySem.Spec PyProof.Rows L2
theorem hu1 {A : Around} {k : Nat} (hr : Room k A) : A.units + 1 < cLine := Nat.lt_of_le_of_lt (by omega) (hu64 hr)
section
variable {W : WX} {X : Cx} {a b c e : Expr} {ga gb gc gd : GE} {pos p p2 : Pos}
/-! ### {'x': 1, ..} -/
def trsC (kvs : List (Str × Int)) : List (TE × TE) := kvs.map fun q => (tC (.str q.1), tC (.int q.2))
def vsC (kvs : List (Str × Int)) : List (Key × V) := kvs.map fun q => (.inr q.1, .int q.2)
def psC (kvs : List (Str × Int)) : List (Key × P) := kvs.map fun q => (.inr q.1, .int q.2)
theorem tPairs_C (σ : L2.St) : ∀ (kvs : List (Str × Int)) (H : Hp) (Q : List (V × V) → Hp → Prop), Q (kvs.map fun q => (V.str q.1, V.int q.2)) H → tPairs (trsC kvs) σ H Q
  | [], H, Q, h => h
  | q :: kvs, H, Q, h => tPairs_C σ kvs H (fun ps H3 => Q ((V.str q.1, V.int q.2) :: ps) H3) h
theorem repKs_C {K : PySem.W.Frag} {H : Hp} : ∀ kvs : List (Str × Int), RepKs K H (psC kvs) (vsC kvs)
  | [] => rfl
  | q :: kvs => ⟨_, _, rfl, rfl, repKs_C kvs⟩
def gDicC (kvs : List (Str × Int)) : GE := fun _ => .ok (.own (.dic (psC kvs)))
theorem de_dicC {keys : List (Option Expr)} {vals : List Expr} {kvs : List (Str × Int)} (h : PPs X pos keys vals (trsC kvs)) (hall : keys.all (·.isSome) = true) (hl : keys.length = vals.length) (h0 : keys ≠ []) (h15 : keys.length ≤ 15)
    (hk : kvs.length ≤ 15) (hm : mergeK [] (vsC kvs) = vsC kvs) : DE W X (.Dict keys vals pos) (gDicC kvs) := by
  refine PE.imp (pe_disp h hall hl h0 h15) fun σ H Q ⟨B, Rg, δ, S0, w⟩ p hp => ?_
  refine tPairs_C σ kvs _ _ ⟨upd_same, vsC kvs, by simp [vsC, kV], by simpa [vsC] using hk, ?_⟩
  rw [hm]
  refine w (.ref p) _ (fun b o eb => ?_) ⟨[p], ⟨p, vsC kvs, rfl, upd_same, rfl, repKs_C kvs⟩, by simp, fun b hb => by
    obtain rfl : b = p := by simpa using hb
    exact hp⟩
  have ne := ne_of_none eb hp
  rw [upd_ne ne, upd_ne ne]
  exact eb
/-! ### d.get(k, z) -/
def gGet2 (gd ge gf : GE) : GE := fun δ => (gd δ).bind fun r => match r.d with
  | .dic kvs => (ge δ).bind fun x => (gf δ).bind fun z => (match x.d, z.d with
    | .p x, .p z => (match keyP x with
      | some k => .ok (.own (.p ((valP kvs k).getD z)))
      | none => .bad)
    | _, _ => .bad)
  | _ => .bad
theorem de_get2 {apos : Pos} (hu : X.A.units + 1 < cLine) (hd : DE W X a gd) (he : DE W X b ge) (hf : DE W X c gf) (m : M2 X a "get" apos b c pos) : DE W X (.Call (.Attribute a "get" apos) [b, c] [] pos) (gGet2 gd ge gf) := by
  refine PE.imp (pe_dget2 hu hd he hf m) fun σ H Q ⟨B, Rg, δ, S0, w⟩ => ?_
  refine tD_val S0 w fun r1 v1 H1 s1 rv1 S1 w1 => ?_
  split at w1
  · rename_i kvs e1
    obtain ⟨f1, q1⟩ := rv1.look
    rw [e1] at q1
    obtain ⟨l, ws, rfl, ql, _, rw_⟩ := q1
    refine ⟨l, rfl, .inl ⟨ws, .inl ql⟩, ?_⟩
    refine tD_val S1 w1 fun r2 v2 H2 s2 rv2 S2 w2 => ?_
    refine tD_val S2 w2 fun r3 v3 H3 s3 rv3 S3 w3 => ?_
    split at w3
    · rename_i x z ex ez
      split at w3
      · rename_i k hk
        obtain ⟨f2, q2⟩ := (rv2.grow s3).look
        obtain ⟨f3, q3⟩ := rv3.look
        rw [ex] at q2
        rw [ez] at q3
        obtain rfl : v2 = kV k := keyP_kV q2.1 hk
        have s13 := s2.trans s3
        have g := RepKs.get (k := k) (RepKs.kt (Same.kt s13) _ _ rw_)
        refine ⟨valV ws k, DGet.k (s13 _ _ ql), ?_⟩
        cases e : valP kvs k with
        | none =>
          rw [e] at g w3
          rw [g]
          exact RepP.up w3 q3.1
        | some y =>
          rw [e] at g w3
          obtain ⟨u, e2, ru⟩ := g
          rw [e2]
          exact RepP.up w3 ru
      · exact w3.elim
    · exact w3.elim
  · exact w1.elim
/-! ### raise X(e) -/
def gRaiseE (c : Str) (ga : GE) : GS := fun δ => (lift (ga δ) δ).bind fun _ => .err c δ
theorem ds_raiseE {x : Str} {pos2 : Pos} (hc : X.calm = true) (tk : Takes X W) (ec : ErrC X.K X.mg x) (ha : DE W X e ga) (hg : Gl X x := by rfl) (hs : starEach [e] X.env = (false, eval e X.env) :: starEach [] X.env := by rfl) (hdb : (x == ("__debug__" : Str)) = false := by decide) :
    DS W X (.Raise (some (.Call (.Name x p) [e] [] pos)) none pos2) (gRaiseE x ga) := by
  obtain ⟨C, hm, h1, h2, h3, h4⟩ := ec.ex
  refine PS.imp (ps_raise hc tk (SkE.pmk_own1 PySem.F.excBase_ValueError h1 hm h2 (raises_own h3 h4) hg ha hs hdb)) fun D σ H ⟨B, Rg, δ, S0, w⟩ => ?_
  exact tDS_val S0 w fun r v H1 s1 rv S1 q => q C σ H1 hm S1
/-! ### (x, ..) * n, up to 100000 -/
def rRepB (K : PySem.W.Frag) : R2 := fun x y H Q => ∃ l k xs, x = .ref l ∧ y = .int k ∧ SqT K H l xs ∧ xs ≠ [] ∧ 2 ≤ k ∧ k ≤ 10000 ∧ xs.length ≤ 10 ∧ ∀ p, H p = none → Q (.ref p) (upd H p (.tup (List.replicate k.toNat xs).flatten))
theorem op_repB : OpR X (binaryOp .Mult) (rRepB X.K) := by
  intro pins s σ H x y v u Q I rx ry ⟨l, k, xs, ex, ey, hT, hne, h1, h2, hz, q⟩
  subst ex ey
  cases rx
  obtain ⟨t, rfl⟩ := ry
  obtain ⟨js, r, ⟨⟨c1, dd, da, sl⟩, ho, hc, n, hd⟩, _⟩ := I.tuple hT
  simp only at hc hd
  subst hc hd
  have jl : js.length = xs.length := r.length.symm
  have emp : js.toArray.isEmpty = false := by
    cases js with
    | nil => exact absurd (List.eq_nil_of_length_eq_zero (by simpa using jl.symm)) hne
    | cons a b => rfl
  have sz0 : js.toArray.size = xs.length := by rw [List.size_toArray, jl]
  have top : ((js.toArray.size : Nat) : Int) * k ≤ 100000 := by
    rw [sz0]
    have : ((xs.length : Nat) : Int) * k ≤ 10 * k := Int.mul_le_mul_of_nonneg_right (by omega) (by omega)
    omega
  have fl : k.toNat * xs.length ≤ sizeLine := Nat.le_trans (Nat.mul_le_mul (by omega : k.toNat ≤ 10000) hz) (by rw [sizeLine_eq]; decide)
  have cB : (decide (k ≤ 0) || js.toArray.isEmpty) = false := by rw [emp, decide_eq_false (by omega)]; rfl
  have cA : (js.toArray.isEmpty || k == 1) = false := by rw [emp, beq_eq_false_iff_ne.mpr (by omega : k ≠ 1)]; rfl
  have cC : (decide (k < -(2 ^ 63)) || decide (k ≥ 2 ^ 63)) = false := by rw [decide_eq_false (by omega), decide_eq_false (by omega)]; rfl
  have cD : Builtin.Tuple.tupleTooMany (((js.toArray.size : Nat) : Int) * k) = false := by unfold Builtin.Tuple.tupleTooMany; rw [sizeLine_eq]; exact decide_eq_false (by omega)
  have mul := tuple_mulW l js.toArray n dd sl k t cC cA cB (by omega) cD (by rw [size_rep, List.size_toArray, PyProof.Rows.lm_len_rep_flat, jl]; exact fl)
  refine wpAny_binaryOp_repeat_ref (U := "int") (T := "tuple") (by decide) ⟨_, ho, rfl⟩ (fun _ => typeIs_int _ k t) noFill_tuple_mul PySem.F.fills_int_mul PySem.F.slot_int_rmul repeat_tuple PySem.F.slot_int_index.lookup
    (call_meets PySem.F.slot_int_rmul (typeIs_int s k t) PySem.F.entry_int_rmul (PySem.F.args_int_rmul_2 _ _) (int_rmul_tuple k t l js.toArray n dd sl) ⟨ho, rfl, ⟨_, ho, rfl⟩, call_meets PySem.F.slot_tuple_mul ⟨_, ho, rfl⟩ PySem.F.entry_tuple_mul (PySem.F.args_tuple_mul_2 _ _) mul ⟨ho, ?_⟩⟩)
  rw [size_rep]
  have new := I.laid (t' := s.toks) (o := .tup (List.replicate k.toNat xs).flatten) (fun b ob q => Heap.get?_push_of_some _ q) (Nat.le_refl _) ⟨by rw [PyProof.Rows.lm_len_rep_flat]; exact fl, _, r.rep k.toNat, IsTup.new _ _⟩
  exact ⟨.ref s.heap.objs.size, _, new, rfl, q _ (I.hok.fresh (Nat.le_refl _))⟩
def fMulT : D → D → Rn Unit R
  | .p (.tup xs), .p (.int k) => if xs ≠ [] ∧ 2 ≤ k ∧ k ≤ 10000 ∧ xs.length ≤ 10 then .ok (.own (.p (.tup (List.replicate k.toNat xs).flatten))) else .bad
  | _, _ => .bad
theorem og_mulT {K : PySem.W.Frag} : OpG K (rRepB K) fMulT := by
  intro H x y v u fx fy Q E rx ry h
  unfold fMulT at h
  split at h
  · rename_i xs k
    split at h
    · rename_i hz
      obtain ⟨⟨a, vs, rfl, qa, ra⟩, _⟩ := rx
      obtain rfl : u = .int k := ry.1
      refine ⟨a, k, vs, rfl, rfl, qa, fun z => ?_, hz.2.1, hz.2.2.1, by rw [ra.len]; exact hz.2.2.2, fun p hp => ?_⟩
      · subst z
        cases xs with
        | nil => exact hz.1 rfl
        | cons x xs => obtain ⟨_, _, z, _⟩ := ra; cases z
      · refine RepD.up hp h ⟨[], ⟨⟨p, (List.replicate k.toNat vs).flatten, rfl, .inl (.inl upd_same), ?_⟩, rfl⟩, List.nodup_nil, fun _ z => nomatch z⟩
        exact RepPs.kt (Same.kt (Same.new hp)) _ _ (ra.rep _)
    · exact h.elim
  · exact h.elim
theorem de_mulT (ha : DE W X a ga) (hb : DE W X b gb) : DE W X (.BinOp a .Mult b pos) (gOp2 fMulT ga gb) := de_op2 op_repB og_mulT ha hb
end
end DL
set_option maxHeartbeats 1000000
/-! DLzc: list(text), sorted(text). -/
namespace DL
open PySem PySem.Spec PyProof.Rows L2
/-- the signs of a text -/
def sgs (z : Str) : List Str := z.cps.toList.map fun c => ⟨#[c]⟩
theorem sgs_len (z : Str) : (sgs z).length = z.length := List.length_map ..
theorem items_sgs {z : Str} {acc : Array Value} (h : ItemsOf (SignAt z) acc z.cps.size) : StrsAre acc.toList (sgs z) := by
  have h1 : ∀ v, v ∈ acc.toList → ∃ x t, v = Value.str x t := by
    intro v hv
    obtain ⟨j, hj, e⟩ := List.getElem_of_mem hv
    obtain ⟨c, u, _, rfl⟩ := h.2 j v (by rw [Array.getElem?_eq_getElem (by simpa using hj)]; simpa using e)
    exact ⟨_, _, rfl⟩
  have h2 := strsAre_map acc.toList h1
  have e : acc.toList.map strOf = sgs z := by
    refine List.ext_getElem (by rw [List.length_map, Array.length_toList, h.1, sgs_len]; rfl) fun j p1 p2 => ?_
    rw [List.getElem_map]
    have pj : j < acc.size := by simpa using p1
    obtain ⟨c, u, ec, ev⟩ := h.2 j acc[j] (Array.getElem?_eq_getElem pj)
    rw [Array.getElem_toList, ev]
    have pz : j < z.cps.size := by rw [← h.1]; exact pj
    rw [Array.getElem?_eq_getElem pz] at ec
    simp only [sgs, List.getElem_map, Array.getElem_toList]
    rw [Option.some.inj ec]
    rfl
  rwa [e] at h2
/-- collecting the signs of a text: what the library's own tells, and that the heap grows -/
theorem collect_z {prog : Program} {w : World} {A : Around} {E : Value → Shared → Prop} {s : Shared} {Q : List Value → Shared → Prop} (calm : A.handled = none) (z : Str) (tk : Tok) (big : z.cps.size ≤ sizeLine)
    (fin : ∀ s1 acc, (∀ b o, s.heap.get? b = some o → s1.heap.get? b = some o) → s1.gens = s.gens → s1.drawn = s.drawn → s1.os = s.os → s.heap.objs.size < s1.heap.objs.size → ItemsOf (SignAt z) acc z.cps.size → Q acc.toList s1) :
    wpAny (model prog w) A (collect (.str z tk)) Q E s := by
  unfold collect
  refine wpAny_bind (wpAny_runValue (codeAny_builtin F.entry_proto_collect (by
    rw [Around.under_plainId (F.plain_proto_collect) _]
    show wpAny _ A.in1 (newList [] >>= fun l => again (.builtin "list.__iadd__" ⟨[l, .str z tk], []⟩)) _ _ s
    refine wpAny_bind (wpAny_newObj_type (wpAny_pure ⟨plainId_quiet F.plain_list_iadd _, codeAny_builtin F.entry_list_iadd ?_⟩))
    rw [Around.under_plainId (F.plain_list_iadd) _]
    show wpAny _ A.in1 (Builtin.List.listExtendWith (.ref s.heap.objs.size) (.str z tk) (.ref s.heap.objs.size)) _ _ _
    unfold Builtin.List.listExtendWith -- the extending
    refine wpAny_bind (wpAny_typeOf (v := .str z tk) (T := "str") rfl ?_)
    have t1 : (Value.type "str" == Value.type "tuple") = false := by decide
    have t2 : (Value.type "str" == Value.type "list") = false := by decide
    have t3 : Builtin.List.listSameRef (.ref s.heap.objs.size) (.str z tk) = false := rfl
    simp only [t1, t2, t3, Bool.false_eq_true, Bool.or_false, if_false]
    refine wpAny_bind (wpAny_pyIter_str fun ob St walk st0 => wpAny_bind (wpAny_holding ?_))
    unfold Builtin.List.listLengthHint -- the hint
    refine wpAny_bind (wpAny_specialOf (v := .str z tk) (T := "str") rfl F.str_len ?_)
    wp_delta
    refine wpAny_bind (wpAny_isInstance (v := .str z tk) (T := "str") (b := true) rfl (by rw [isSubtype_type]; kernel_rfl) ?_)
    show wpAny _ A.in1 (typeOf (Value.str z tk) >>= _) _ _ _
    refine wpAny_bind (wpAny_typeOf (v := .str z tk) (T := "str") rfl (wpAny_pure ?_))
    rw [if_neg (by decide)]
    generalize eH : s.heap.push { cls := .type "list", data := .seq ([] : List Value).toArray } = G at walk st0 ⊢
    have sG : G.objs.size = s.heap.objs.size + 1 := by rw [← eH, Heap.size_push]
    have nm : s.heap.objs.size ∉ [G.objs.size] := fun m => by
      rw [List.mem_singleton.mp m] at sG
      exact absurd sG (Nat.ne_of_lt (Nat.lt_succ_self _))
    have at0 : (G.push ob).get? s.heap.objs.size = some { cls := .type "list", data := .seq ([] : List Value).toArray } := Heap.get?_push_of_some _ (eH ▸ Heap.get?_push_size _ rfl)
    refine wpAny_pure ⟨plainId_quiet F.plain_extend_loop _, codeAny_extend_loopS (walk A.in1 calm).toS big _ nm _ z.cps.size 0 _ _ _ rfl (Nat.zero_le _) st0 at0 (ItemsOf.nil _) fun s1 acc c1 mm at1 it => ?_⟩
    show wpAny _ A (load s.heap.objs.size >>= _) _ _ s1
    refine wpAny_bind (wpAny_load at1 (wpAny_pure (fin s1 acc (fun b o e => mm.heap b o (fun hb => ?_) (Heap.get?_push_of_some _ (eH ▸ Heap.get?_push_of_some _ e))) mm.gens mm.drawn mm.os (Heap.lt_size at1) it)))
    have l := Heap.lt_size e
    rcases List.mem_cons.mp hb with q | q
    · exact absurd l (q ▸ Nat.lt_irrefl _)
    · rw [List.mem_singleton.mp q, sG] at l
      exact absurd l (Nat.not_lt.mpr (Nat.le_succ _)))))
section
variable {X : Cx}
/-- list(z) -/
def rListZ : List V → Hp → VK → Prop := fun xs H Q => ∃ z, xs = [.str z] ∧ z.length ≤ 1000 ∧ ∀ p, H p = none → Q (.ref p) (upd H p (.lst ((sgs z).map V.str)))
theorem call_listZ (hc : X.calm = true) : CallR X (.type "list") rListZ := by
  intro pins s σ H xs us Q I r ⟨z, ez, hz, q⟩
  subst ez
  obtain ⟨u, rfl, t, rfl⟩ := vals1 r
  have big : z.cps.size ≤ sizeLine := Nat.le_trans hz (by rw [sizeLine_eq]; decide)
  refine call_list_str (I.ok.hd hc) z t (fun h1 tk acc ep kp e it => ?_) big
  have al := items_sgs it
  have new := I.laid (t' := tk) (o := .lst ((sgs z).map V.str)) kp (Nat.le_refl _) ⟨by rw [List.length_map, sgs_len]; exact big, acc.toList, ep, vals_of_strs al, e⟩
  exact ⟨.ref s.heap.objs.size, _, new, rfl, q _ (I.hok.fresh (Nat.le_refl _))⟩
/-- sorted(z) -/
def rSortZ : List V → Hp → VK → Prop := fun xs H Q => ∃ z, xs = [.str z] ∧ z.length < 64 ∧ ∀ (ys : List Str) (p : Addr), ys.Perm (sgs z) → sortedS ys = true → H p = none → Q (.ref p) (upd H p (.lst (ys.map V.str)))
theorem call_sortZ (hc : X.calm = true) : CallR X (.builtin "sorted") rSortZ := by
  intro pins s σ H xs us Q I r ⟨z, ez, hz, q⟩
  subst ez
  obtain ⟨u, rfl, t, rfl⟩ := vals1 r
  have big : z.cps.size ≤ sizeLine := Nat.le_trans (Nat.le_of_lt hz) (by rw [sizeLine_eq]; decide)
  refine Calls.call_function_entry (kind_sorted) plain_sorted (entry_sorted) (args_sorted1 _) ?_
  unfold Builtin.«sorted»
  refine wpAny_bind (m := checkCount "sorted" 1 1 _) (wpAny_pure (wpAny_bind ?_))
  refine collect_z (A := X.A.in1) (show X.A.in1.handled = none from I.ok.hd hc) z t big fun s1 acc kp eg ed eo ltS it => ?_
  obtain ⟨h1, g1, d1, k1, o1⟩ := s1
  obtain ⟨h0, g0, d0, k0, o0⟩ := s
  simp only at kp eg ed eo ltS
  subst eg ed eo
  have al := items_sgs it
  have len : acc.toList.length = z.length := by rw [Array.length_toList, it.1]; rfl
  refine wpAny_bind (wpAny_newList ?_ (by rw [len]; exact big))
  have at1 : (h1.push (seqObj "list" acc.toList.toArray 0)).get? h1.objs.size = some (seqObj "list" acc.toList.toArray 0) := Heap.get?_push_size _ rfl
  show wpAny _ _ (holding [Value.ref h1.objs.size] (call (.builtin "list.sort") [.ref h1.objs.size] []) >>= fun _ => ret (.ref h1.objs.size)) _ _ { heap := h1.push (seqObj "list" acc.toList.toArray 0), gens := g1, drawn := d1, toks := k1, os := o1 }
  refine wpAny_bind (wpAny_holding (wpAny_call_entry slot_list_sort ⟨_, at1, rfl⟩ entry_list_sort (list_sort_treeK strKind_oneLt at1 al.keysOf (fun v1 v2 rest e => keyKind_strs (by rw [← e]; exact al)) (by rw [len]; exact hz) fun st hp hs => ⟨_, rfl, ?_⟩) (args_list_sort _)))
  obtain ⟨ys, a1, a2, a3⟩ := sorted_out_str al hp hs
  clear hp hs
  generalize (arrOf st).map (·.2) = out at a1 ⊢
  obtain ⟨ep, e2⟩ := sortedHeap_at (out := out) at1
  have lt : h0.objs.size ≤ h1.objs.size := Nat.le_of_lt ltS
  have kp2 : ∀ b o, h0.get? b = some o → (sortedHeap (h1.push (seqObj "list" acc.toList.toArray 0)) h1.objs.size acc.toList out).get? b = some o := fun b o e => by
    have e1 := kp b o e
    have l1 := Heap.lt_size e1
    rw [sortedHeap_old (Nat.ne_of_lt l1) (by rw [Heap.size_push]; exact Nat.lt_succ_of_lt l1), Heap.get?_push_ne _ _ _ (Nat.ne_of_lt l1)]
    exact e1
  have hl : (ys.map V.str).length ≤ sizeLine := by rw [List.length_map, a2.length_eq, sgs_len]; exact big
  refine wpAny_pure ⟨_, rfl, ?_⟩
  refine ⟨.ref h1.objs.size, upd H h1.objs.size (.lst (ys.map V.str)), ?_, rfl, q ys _ a2 a3 (I.hok.fresh lt)⟩
  have new := I.laid (t' := k1) (h' := sortedHeap (h1.push (seqObj "list" acc.toList.toArray 0)) h1.objs.size acc.toList out) (o := .lst (ys.map V.str)) kp2 lt ⟨hl, out.toList, ep, vals_of_strs a1, e2⟩
  exact new
end
/-! ### the same for the plain data -/
theorem RepPs.sgs {K : PySem.W.Frag} {H : Hp} : ∀ l : List Str, RepPs K H (l.map P.str) (l.map V.str)
  | [] => rfl
  | x :: l => ⟨.str x, l.map V.str, rfl, rfl, RepPs.sgs l⟩
theorem signs_sgs (z : Str) : signs z = (sgs z).map P.str := by
  unfold signs sgs
  rw [List.map_map]
  rfl
def fListZ : List D → Rn Unit R
  | [.p (.str z)] => if z.length ≤ 1000 then .ok (.own (.lst (signs z))) else .bad
  | ds => fList ds
theorem cg_listZ {K : PySem.W.Frag} : CallG K (fun xs H Q => rListZ xs H Q ∨ ∃ p ys, xs = [.ref p] ∧ (SqL K H p ys ∨ SqT K H p ys) ∧ ∀ l, H l = none → Q (.ref l) (upd H l (.lst ys))) fListZ := by
  intro H ds vs Q E hl h
  unfold fListZ at h
  split at h
  · rename_i z
    split at h
    · rename_i hz
      obtain ⟨v, fp, rfl, r⟩ := hl.one
      obtain rfl : v = .str z := r.1
      rw [signs_sgs] at h
      exact .inl ⟨z, rfl, hz, fun p hp => up_lst h (RepPs.sgs _) hp⟩
    · exact h.elim
  · exact .inr (cg_list H ds vs Q E hl h)
def oneS (i : Int) : Str := ⟨#[i.toNat]⟩
def srtZ (z : Str) : List Str := (srtI (z.cps.toList.map fun (c : Nat) => (c : Int))).map oneS
def cdS (y : Str) : Int := ((y.cps.toList.headD 0 : Nat) : Int)
theorem rising_le : ∀ (a : Nat) (l : List Nat), risingS ⟨#[a]⟩ (l.map fun c => ⟨#[c]⟩) = true → (a :: l).Pairwise (· ≤ ·)
  | a, [], _ => List.pairwise_singleton _ _
  | a, b :: l, h => by
    have h : (!ltCps [b] [a] && risingS ⟨#[b]⟩ (l.map fun c => ⟨#[c]⟩)) = true := h
    rw [Bool.and_eq_true] at h
    have r := rising_le b l h.2
    have ab : a ≤ b := by
      have h1 := h.1
      simp [ltCps] at h1
      omega
    refine List.pairwise_cons.mpr ⟨fun c hc => ?_, r⟩
    rcases List.mem_cons.mp hc with rfl | q
    · exact ab
    · exact Nat.le_trans ab ((List.pairwise_cons.mp r).1 c q)
theorem srt_unique {z : Str} {ys : List Str} (p : ys.Perm (sgs z)) (h : sortedS ys = true) : ys = srtZ z := by
  have one : ∀ y ∈ ys, ∃ c : Nat, y = ⟨#[c]⟩ := fun y hy => by
    obtain ⟨c, _, rfl⟩ := List.mem_map.mp (p.mem_iff.mp hy)
    exact ⟨c, rfl⟩
  obtain ⟨cs, rfl⟩ : ∃ cs : List Nat, ys = cs.map fun c => ⟨#[c]⟩ := by
    clear p h
    induction ys with
    | nil => exact ⟨[], rfl⟩
    | cons y ys ih =>
      obtain ⟨c, rfl⟩ := one y (by simp)
      obtain ⟨cs, rfl⟩ := ih fun y hy => one y (by simp [hy])
      exact ⟨c :: cs, rfl⟩
  have pw : cs.Pairwise (· ≤ ·) := by
    cases cs with
    | nil => exact .nil
    | cons c cs => exact rising_le c cs h
  have pc : (cs.map fun (c : Nat) => (c : Int)).Perm (z.cps.toList.map fun (c : Nat) => (c : Int)) := by
    have := p.map cdS
    simp only [sgs, List.map_map] at this
    exact this
  have e : cs.map (fun (c : Nat) => (c : Int)) = srtI (z.cps.toList.map fun (c : Nat) => (c : Int)) := sorted_unique (pc.trans (srtI_perm _).symm) (by
    rw [List.pairwise_map]
    exact pw.imp fun h => by omega) (srtI_sorted _)
  unfold srtZ
  rw [← e, List.map_map]
  refine List.map_congr_left fun c _ => ?_
  rfl
def fSortZ : List D → Rn Unit R
  | [.p (.str z)] => if z.length < 64 then .ok (.own (.lst ((srtZ z).map P.str))) else .bad
  | ds => fSorted ds
theorem cg_sortZ {K : PySem.W.Frag} : CallG K (fun xs H Q => rSortZ xs H Q ∨ rSortedI K xs H Q) fSortZ := by
  intro H ds vs Q E hl h
  unfold fSortZ at h
  split at h
  · rename_i z
    split at h
    · rename_i hz
      obtain ⟨v, fp, rfl, r⟩ := hl.one
      obtain rfl : v = .str z := r.1
      exact .inl ⟨z, rfl, hz, fun ys p h1 h2 hp => by
        rw [srt_unique h1 h2]
        exact up_lst h (RepPs.sgs _) hp⟩
    · exact h.elim
  · exact .inr (cg_sorted H ds vs Q E hl h)
section
variable {W : WX} {X : Cx} {e : Expr} {es : List Expr} {gs : GA} {p pos : Pos}
theorem de_listZ (hc : X.calm = true) (hm : X.mg "list" = none) (ha : DA W X (e :: es) gs) (hg : Gl X "list" := by rfl) (he : starEach (e :: es) X.env = (false, eval e X.env) :: starEach es X.env := by rfl) (hpl : (backTo pos (starEach es X.env)).any (·.1) = false := by rfl) : DE W X (.Call (.Name "list" p) (e :: es) [] pos) (gCall fListZ gs) :=
  de_callTy ((call_listZ hc).or call_list_of) cg_listZ hm (by decide +kernel) ha hg (he := he) (hpl := hpl)
theorem de_sortZ (hc : X.calm = true) (hm : X.mg "sorted" = none) (ha : DA W X (e :: es) gs) (hg : Gl X "sorted" := by rfl) (he : starEach (e :: es) X.env = (false, eval e X.env) :: starEach es X.env := by rfl) (hpl : (backTo pos (starEach es X.env)).any (·.1) = false := by rfl) : DE W X (.Call (.Name "sorted" p) (e :: es) [] pos) (gCall fSortZ gs) :=
  de_callB ((call_sortZ hc).or cr_sortedI) cg_sortZ hm (by decide +kernel) ha hg (he := he) (hpl := hpl)
end
/-! ### {1: e, ..}: a dict of made values, its keys written ints -/
def gVals : List (Int × GE) → Sl → Rn Unit (List (Key × P))
  | [], _ => .ok []
  | (k, g) :: l, δ => (g δ).bind fun r => match r.d with
    | .p x => (gVals l δ).bind fun xs => .ok ((.inl k, x) :: xs)
    | _ => .bad
def gDicV (l : List (Int × GE)) : GE := fun δ => (gVals l δ).bind fun kvs => .ok (.own (.dic kvs))
def trV (c : DC) (l : List (Int × GE)) : List (TE × TE) := l.map fun q => (tC (.int q.1), tD c q.2)
def keysV (l : List (Int × GE)) : List Key := l.map fun q => .inl q.1
theorem gVals_keys {δ : Sl} {Q : List (Key × P) → Prop} {E : Str → Unit → Prop} : ∀ l : List (Int × GE), (gVals l δ).wp Q E → (gVals l δ).wp (fun kvs => kvs.map (·.1) = keysV l ∧ Q kvs) E
  | [], h => ⟨rfl, h⟩
  | (k, g) :: l, h => by
    refine Rn.wp_bind.mpr (Rn.wp_mono (Rn.wp_bind.mp h) (fun r q => ?_) fun _ _ q => q)
    split at q
    · refine Rn.wp_bind.mpr (Rn.wp_mono (gVals_keys l (Rn.wp_bind.mp q)) (fun kvs q => ?_) fun _ _ q => q)
      exact ⟨by show _ :: kvs.map (·.1) = _ :: keysV l; rw [q.1], q.2⟩
    · exact q.elim
theorem tPairs_V {c : DC} : ∀ (l : List (Int × GE)) (σ : L2.St) (H : Hp) (Q : List (V × V) → Hp → Prop) (B : Hp) (Rg : Rgs c.ex) (δ : Sl), SRel c.K B Rg σ H δ →
    (gVals l δ).wp (fun kvs => ∀ ws H', Same H H' → RepKs c.K H' kvs ws → Q (ws.map fun q => (kV q.1, q.2)) H') (fun cl _ => ∀ C H', c.mg cl = some (.ref C) → Same H H' → c.W (.ref C) none σ H') → tPairs (trV c l) σ H Q
  | [], σ, H, Q, B, Rg, δ, S0, h => h [] H (Same.refl H) rfl
  | (k, g) :: l, σ, H, Q, B, Rg, δ, S0, h => by
    refine tD_seq (Q := fun (kvs : List (Key × P)) H1 H' => ∀ ws : List (Key × V), RepKs c.K H' kvs ws → Q (ws.map fun (q : Key × V) => (kV q.1, q.2)) H') S0 (fun _ _ _ _ q => q) (Rn.wp_mono h (fun kvs q H' s ws r => q ws H' s r) fun _ _ q => q) fun r v H1 s1 rv S1 w1 => ?_
    split at w1
    · rename_i x ex
      refine tPairs_V l σ H1 _ B Rg δ S1 (Rn.wp_mono (Rn.wp_bind.mp w1) (fun kvs q ws H' s2 rk => ?_) fun cl _ q C H' e s => q C H' e s)
      obtain ⟨f1, q1⟩ := (rv.grow s2).look
      rw [ex] at q1
      exact q H' s2 ((.inl k, v) :: ws) ⟨v, ws, rfl, q1.1, rk⟩
    · exact w1.elim
theorem de_dicV {W : WX} {X : Cx} {pos : Pos} {keys : List (Option Expr)} {vals : List Expr} {l : List (Int × GE)} (h : PPs X pos keys vals (trV (dc X W) l)) (hall : keys.all (·.isSome) = true) (hl : keys.length = vals.length) (h0 : keys ≠ []) (h15 : keys.length ≤ 15)
    (hk : l.length ≤ 15) (hm : ∀ ws : List (Key × V), ws.map (·.1) = keysV l → mergeK [] ws = ws) : DE W X (.Dict keys vals pos) (gDicV l) := by
  refine PE.imp (pe_disp h hall hl h0 h15) fun σ H Q ⟨B, Rg, δ, S0, w⟩ p hp => ?_
  have sp : Same H (upd H p (.dK [])) := Same.new hp
  refine tPairs_V l σ _ _ B Rg δ (S0.grow sp) (Rn.wp_mono (gVals_keys l (Rn.wp_bind.mp w)) (fun kvs q ws H2 s2 rk => ?_) fun cl _ q C H' e s => q C H' e (sp.trans s))
  obtain ⟨ek, q⟩ := q
  have kw : ws.map (·.1) = keysV l := by
    rw [← ek]
    clear ek q
    induction kvs generalizing ws with
    | nil =>
      obtain rfl : ws = [] := rk
      rfl
    | cons x xs ih =>
      obtain ⟨k, x⟩ := x
      obtain ⟨v, r, rfl, _, r2⟩ := rk
      rw [List.map_cons, List.map_cons, ih r r2]
  have len : ws.length ≤ 15 := by
    have := congrArg List.length kw
    rw [List.length_map, keysV, List.length_map] at this
    omega
  have at2 : H2 p = some (.dK []) := s2 p _ upd_same
  refine ⟨at2, ws, rfl, len, ?_⟩
  rw [hm ws kw]
  have sq : Same H (upd H2 p (.dK ws)) := fun b o e => by
    have ne := ne_of_none e hp
    rw [upd_ne ne]
    exact s2 b o ((upd_ne ne).trans e)
  refine q (.ref p) _ sq ⟨[p], ⟨p, ws, rfl, upd_same, rfl, ?_⟩, by simp, fun b hb => by
    obtain rfl : b = p := by simpa using hb
    exact hp⟩
  have nep : ∀ {a o}, H2 a = some o → o ≠ .dK [] → a ≠ p := fun e1 e2 e3 => by
    rw [e3, at2] at e1
    exact e2 (Option.some.inj e1).symm
  refine RepKs.kt ⟨fun a xs e => ?_, fun a o u e => ?_⟩ _ _ rk
  · rcases e with e | ⟨o, e⟩
    · exact .inl ((upd_ne (nep e (fun z => nomatch z))).trans e)
    · exact .inr ⟨o, (upd_ne (nep e (fun z => nomatch z))).trans e⟩
  · exact (upd_ne (nep e (fun z => nomatch z))).trans e
theorem merge_nd : ∀ (ws acc : List (Key × V)), ((acc ++ ws).map (·.1)).Nodup → mergeK acc ws = acc ++ ws
  | [], acc, _ => (List.append_nil acc).symm
  | (k, v) :: ws, acc, h => by
    have hk : (acc.any fun kv => decide (kv.1 = k)) = false := List.any_eq_false.mpr fun kv m => by
      rw [List.map_append, List.nodup_append] at h
      have := h.2.2 kv.1 (List.mem_map.mpr ⟨kv, m, rfl⟩) k (List.mem_map.mpr ⟨(k, v), by simp, rfl⟩)
      simpa using this
    show mergeK (putK acc k v) ws = _
    have e : putK acc k v = acc ++ [(k, v)] := by
      unfold putK
      rw [hk]
      rfl
    rw [e, merge_nd ws (acc ++ [(k, v)]) (by rw [List.append_assoc]; exact h), List.append_assoc]
    rfl
theorem merge_keys {ks : List Key} (nd : ks.Nodup) {ws : List (Key × V)} (h : ws.map (·.1) = ks) : mergeK [] ws = ws := merge_nd ws [] (by rw [List.nil_append, h]; exact nd)
section
variable {W : WX} {X : Cx} {a : Expr} {ga : GE} {pos p : Pos}
theorem dt_inT {x : Str} {tab : List (Str × P)} (T : DictT X.K X.w X.mg x tab) (ha : DE W X a ga) (hg : Gl X x := by rfl) (hd : (x == ("__debug__" : Str)) = false := by decide) (hm : behindInMarks .In (.Name x p) = false := by rfl) : DT W X (.Compare a [.In] [.Name x p] pos) (gTB (gInT tab false ga)) := by
  obtain ⟨d, es, n, e, kd, en⟩ := T.ex
  refine PT.imp (pt_cmpR (op_in_kd kd) ha (pe_glob (v := .ref d) hg e rfl hd) hm) fun σ H Q h0 => ?_
  obtain ⟨B, Rg, δ, S0, w⟩ := tDT_of h0
  refine tD_val S0 w fun r1 v1 H1 s1 rv1 S1 w1 => ?_
  split at w1
  · rename_i z ez
    obtain rfl : v1 = .str z := rv1.getP ez
    have ns := DictT.ns kd en z
    split at ns
    · rename_i q eq
      obtain ⟨u, h1, _⟩ := ns
      refine ⟨z, some u, rfl, rfl, h1, ?_⟩
      rw [eq] at w1
      exact RepP.up w1 rfl
    · rename_i eq
      refine ⟨z, none, rfl, rfl, ns, ?_⟩
      rw [eq] at w1
      exact RepP.up w1 rfl
  · exact w1.elim
theorem dt_niT {x : Str} {tab : List (Str × P)} (T : DictT X.K X.w X.mg x tab) (ha : DE W X a ga) (hg : Gl X x := by rfl) (hd : (x == ("__debug__" : Str)) = false := by decide) (hm : behindInMarks .NotIn (.Name x p) = false := by rfl) : DT W X (.Compare a [.NotIn] [.Name x p] pos) (gTB (gInT tab true ga)) := by
  obtain ⟨d, es, n, e, kd, en⟩ := T.ex
  refine PT.imp (pt_cmpR (op_notIn_kd kd) ha (pe_glob (v := .ref d) hg e rfl hd) hm) fun σ H Q h0 => ?_
  obtain ⟨B, Rg, δ, S0, w⟩ := tDT_of h0
  refine tD_val S0 w fun r1 v1 H1 s1 rv1 S1 w1 => ?_
  split at w1
  · rename_i z ez
    obtain rfl : v1 = .str z := rv1.getP ez
    have ns := DictT.ns kd en z
    split at ns
    · rename_i q eq
      obtain ⟨u, h1, _⟩ := ns
      refine ⟨z, some u, rfl, rfl, h1, ?_⟩
      rw [eq] at w1
      exact RepP.up w1 rfl
    · rename_i eq
      refine ⟨z, none, rfl, rfl, ns, ?_⟩
      rw [eq] at w1
      exact RepP.up w1 rfl
  · exact w1.elim
end
end DL
set_option maxHeartbeats 1000000
/-! DLzd: the greatest and the least number of a tuple. -/
namespace DL
open PySem PySem.Spec PyProof.Rows L2
section
variable {X : Cx}
/-- what max of a tuple of numbers leaves -/
def rMaxT (K : PySem.W.Frag) : List V → Hp → VK → Prop := fun vs H Q => ∃ (a : Addr) (n : Int) (ns : List Int), vs = [V.ref a] ∧ SqT K H a ((n :: ns).map V.int) ∧ Q (.int (maxL (n :: ns))) H
def rMinT (K : PySem.W.Frag) : List V → Hp → VK → Prop := fun vs H Q => ∃ (a : Addr) (n : Int) (ns : List Int), vs = [V.ref a] ∧ SqT K H a ((n :: ns).map V.int) ∧ Q (.int (minL (n :: ns))) H
theorem maxOf_eq (n : Int) (ns : List Int) : PySem.W.maxOf n ns = maxL (n :: ns) := by
  unfold PySem.W.maxOf maxL
  congr 1
  funext a b
  show (if decide (a < b) = true then b else a) = _
  simp
theorem minOf_eq (n : Int) (ns : List Int) : PySem.W.minOf n ns = minL (n :: ns) := by
  unfold PySem.W.minOf minL
  congr 1
  funext a b
  show (if decide (b < a) = true then b else a) = _
  simp
theorem cr_maxT (hc : X.calm = true) (hu : X.A.units + 64 < cLine) : CallR X (.builtin "max") (rMaxT X.K) := by
  intro pins s σ H vs us Q I r h
  obtain ⟨a, n, ns, rfl, hs, q⟩ := h
  obtain ⟨its, rv, hl, _⟩ := I.tuple hs
  rw [Vals.ref1 r]
  refine PySem.W.max_tuple_datum (α := Int) (x := n) (xs := ns) (I.ok.hd hc) hl (PySem.W.HoldAll.of_ints rv.ints) (Nat.lt_of_le_of_lt (by show _ + 1 + 0 ≤ _; omega) hu) fun i v h' tk hi ho hk => ?_
  obtain ⟨as, ho⟩ := ho
  rw [maxOf_eq] at ho
  cases ho
  exact ⟨.int _, H, I.kept hk, ⟨_, rfl⟩, q⟩
theorem cr_minT (hc : X.calm = true) (hu : X.A.units + 64 < cLine) : CallR X (.builtin "min") (rMinT X.K) := by
  intro pins s σ H vs us Q I r h
  obtain ⟨a, n, ns, rfl, hs, q⟩ := h
  obtain ⟨its, rv, hl, _⟩ := I.tuple hs
  rw [Vals.ref1 r]
  refine PySem.W.min_tuple_datum (α := Int) (x := n) (xs := ns) (I.ok.hd hc) hl (PySem.W.HoldAll.of_ints rv.ints) (Nat.lt_of_le_of_lt (by show _ + 1 + 0 ≤ _; omega) hu) fun i v h' tk hi ho hk => ?_
  obtain ⟨as, ho⟩ := ho
  rw [minOf_eq] at ho
  cases ho
  exact ⟨.int _, H, I.kept hk, ⟨_, rfl⟩, q⟩
end
/-- max, of a tuple too -/
def fMaxA : List D → Rn Unit R
  | [.p (.tup xs)] => match pInts xs with
    | some (n :: ns) => .ok (.own (.p (.int (maxL (n :: ns)))))
    | _ => .bad
  | ds => fMaxL ds
def fMinA : List D → Rn Unit R
  | [.p (.tup xs)] => match pInts xs with
    | some (n :: ns) => .ok (.own (.p (.int (minL (n :: ns)))))
    | _ => .bad
  | ds => fMinL ds
section
variable {K : PySem.W.Frag}
theorem cg_maxA : CallG K (fun xs H Q => rMaxT K xs H Q ∨ rMax K xs H Q ∨ ∃ i j, xs = [.int i, .int j] ∧ Q (.int (if j > i then j else i)) H) fMaxA := by
  intro H ds vs Q E hl h
  unfold fMaxA at h
  split at h
  · rename_i xs
    split at h
    · rename_i n ns e
      obtain ⟨v, fp, rfl, r⟩ := hl.one
      obtain ⟨⟨a, vs, rfl, rt, r⟩, _⟩ := r
      obtain rfl := pInts_ok e
      obtain rfl := r.int
      exact .inl ⟨a, n, ns, rfl, rt, RepP.up h rfl⟩
    · exact h.elim
  · exact .inr (cg_max H ds vs Q E hl h)
theorem cg_minA : CallG K (fun xs H Q => rMinT K xs H Q ∨ rMin K xs H Q ∨ ∃ i j, xs = [.int i, .int j] ∧ Q (.int (if j < i then j else i)) H) fMinA := by
  intro H ds vs Q E hl h
  unfold fMinA at h
  split at h
  · rename_i xs
    split at h
    · rename_i n ns e
      obtain ⟨v, fp, rfl, r⟩ := hl.one
      obtain ⟨⟨a, vs, rfl, rt, r⟩, _⟩ := r
      obtain rfl := pInts_ok e
      obtain rfl := r.int
      exact .inl ⟨a, n, ns, rfl, rt, RepP.up h rfl⟩
    · exact h.elim
  · exact .inr (cg_min H ds vs Q E hl h)
end
section
variable {W : WX} {X : Cx} {e : Expr} {es : List Expr} {gs : GA} {pos p : Pos}
theorem de_maxA (hu : X.A.units + 64 < cLine) (hc : X.calm = true) (hm : X.mg "max" = none) (ha : DA W X (e :: es) gs) (hg : Gl X "max" := by rfl) (he : starEach (e :: es) X.env = (false, eval e X.env) :: starEach es X.env := by rfl) (hpl : (backTo pos (starEach es X.env)).any (·.1) = false := by rfl) : DE W X (.Call (.Name "max" p) (e :: es) [] pos) (gCall fMaxA gs) :=
  de_callB ((cr_maxT hc hu).or ((cr_max hc).or (call_max2 hc))) cg_maxA hm (by decide +kernel) ha hg (he := he) (hpl := hpl)
theorem de_minA (hu : X.A.units + 64 < cLine) (hc : X.calm = true) (hm : X.mg "min" = none) (ha : DA W X (e :: es) gs) (hg : Gl X "min" := by rfl) (he : starEach (e :: es) X.env = (false, eval e X.env) :: starEach es X.env := by rfl) (hpl : (backTo pos (starEach es X.env)).any (·.1) = false := by rfl) : DE W X (.Call (.Name "min" p) (e :: es) [] pos) (gCall fMinA gs) :=
  de_callB ((cr_minT hc hu).or ((cr_min hc).or (call_min2 hc))) cg_minA hm (by decide +kernel) ha hg (he := he) (hpl := hpl)
end
end DL
set_option maxHeartbeats 1000000
/-! DLze: two names returned. -/
namespace DL
open PySem PySem.Spec PyProof.Rows L2
section
variable {K : PySem.W.Frag} {H : Hp} {ex : Option Addr} {Rg : Rgs ex}
/-- an own slot is taken out -/
theorem SlotsR.pull {d : D} : ∀ {δ : Sl} {σ : L2.St} {fp : List Addr} (i : Nat), SlotsR K Rg H δ σ fp → fp.Nodup → δ[i]? = some (.own d) →
    ∃ v f g, σ[i]? = some (some v) ∧ RepD K H d v f ∧ f.Nodup ∧ (∀ a ∈ f, a ∈ fp) ∧ SlotsR K Rg H (δ.set i .no) σ g ∧ g.Nodup ∧ (∀ a ∈ g, a ∈ fp) ∧ ∀ a ∈ f, a ∉ g
  | [], _, _, _, _, _, e => by simp at e
  | s :: δ, _, _, 0, h, n, e => by
    obtain ⟨ov, r, f, g, rfl, rfl, h1, h2⟩ := h
    obtain rfl : s = .own d := by simpa using e
    obtain ⟨v, rfl, rd⟩ := h1
    rw [List.nodup_append] at n
    exact ⟨v, f, g, rfl, rd, n.1, fun a ha => by simp [ha], ⟨some v, r, [], g, rfl, rfl, rfl, h2⟩, n.2.1, fun a ha => by simp [ha], fun a ha hg => n.2.2 a ha a hg rfl⟩
  | s :: δ, _, _, i + 1, h, n, e => by
    obtain ⟨ov, r, f0, g0, rfl, rfl, h1, h2⟩ := h
    rw [List.nodup_append] at n
    obtain ⟨v, f, g, q1, q2, q3, q4, q5, q6, q7, q8⟩ := SlotsR.pull i h2 n.2.1 (by simpa using e)
    refine ⟨v, f, f0 ++ g, by simpa using q1, q2, q3, fun a ha => by simp [q4 a ha], ⟨ov, r, f0, g, rfl, rfl, h1, q5⟩, ?_, fun a ha => ?_, fun a ha hg => ?_⟩
    · rw [List.nodup_append]
      exact ⟨n.1, q6, fun a ha b hb => n.2.2 a ha b (q7 b hb)⟩
    · rcases List.mem_append.mp ha with z | z
      · simp [z]
      · simp [q7 a z]
    · rcases List.mem_append.mp hg with z | z
      · exact n.2.2 a z a (q4 a ha) rfl
      · exact q8 a ha z
end
/-- return (x, y), both one's own -/
def gRet2 (i j : Nat) : GS := fun δ => match δ[i]?, δ[j]? with
  | some (.own d1), some (.own d2) => if i = j then .bad else .ok (.ret (.tp [d1, d2]))
  | _, _ => .bad
section
variable {W : WX} {X : Cx} {pos : Pos}
theorem ds_ret2 {i j k : Nat} {x y : Str} {p q tp : Pos} (hN : X.N[i]? = some x) (hv : Vis X.env.scope x) (hN2 : X.N[j]? = some y) (hv2 : Vis X.env.scope y) (hd : (x == ("__debug__" : Str)) = false := by decide) (hcd : (x == ("__classdict__" : Str)) = false := by decide) (hd2 : (y == ("__debug__" : Str)) = false := by decide) (hcd2 : (y == ("__classdict__" : Str)) = false := by decide)
    (he : starEach [.Name x p, .Name y q] X.env = (false, eval (.Name x p) X.env) :: starEach [.Name y q] X.env := by rfl) (he2 : starEach [.Name y q] X.env = (false, eval (.Name y q) X.env) :: starEach [] X.env := by rfl) :
    DS W X (.Return (some (.Tuple [.Name x p, .Name y q] k tp)) pos) (gRet2 i j) := by
  refine PS.imp (ps_ret (pe_tup (pa_cons (pe_var hN hv hd hcd) (pa_cons (pe_var hN2 hv2 hd2 hcd2) pa_nil he2) he))) fun D σ H ⟨B, Rg, δ, S0, w⟩ => ?_
  unfold gRet2 at w
  split at w
  · rename_i d1 d2 e1 e2
    split at w
    · exact w.elim
    · rename_i ne
      obtain ⟨b, u, fp, sl, n, f⟩ := S0
      obtain ⟨v, f1, g1, q1, q2, q3, q4, q5, q6, q7, q8⟩ := SlotsR.pull i sl n e1
      obtain ⟨v2, f2, g2, r1, r2, r3, r4, _⟩ := SlotsR.pull j q5 q6 (by rw [List.getElem?_set_ne ne]; exact e2)
      refine ⟨v, q1, v2, r1, by rw [sizeLine_eq]; simp, fun l hl => ?_⟩
      refine w _ _ (b.trans (Same.new hl)) ⟨f1 ++ f2, ⟨l, [v, v2], rfl, .inl (.inl upd_same), RepDs.kt (Same.kt (Same.new hl)) _ _ _ (fun a _ o e => Same.new hl a o e) ⟨v, [v2], f1, f2, rfl, rfl, q2, ⟨v2, [], f2, [], rfl, (List.append_nil _).symm, r2, rfl, rfl⟩⟩⟩, ?_, fun a ha => ?_⟩
      · rw [List.nodup_append]
        exact ⟨q3, r3, fun a ha c hc e => q8 a ha (by rw [e]; exact r4 c hc)⟩
      · rcases List.mem_append.mp ha with z | z
        · exact f a (q4 a z)
        · exact f a (q7 a (r4 a z))
  · exact w.elim
end
end DL
set_option maxHeartbeats 1000000
/-! DLzf: x = y of a list that is handed on (y's slot is empty behind it). -/
namespace DL
open PySem PySem.Spec PyProof.Rows L2
def gMove (i j : Nat) : GS := fun δ => match δ[j]? with
  | some (.own d) => if i < δ.length then .ok (.nx ((δ.set j .no).set i (.own d))) else .bad
  | _ => .bad
section
variable {W : WX} {X : Cx} {pos : Pos}
theorem ds_move {i j : Nat} {x y : Str} {p q : Pos} (hN : X.N.Nodup) (hi : X.N[i]? = some x) (hx : Loc X.env.scope x) (hj : X.N[j]? = some y) (hv : Vis X.env.scope y) (hd : (y == ("__debug__" : Str)) = false := by decide) (hcd : (y == ("__classdict__" : Str)) = false := by decide)
    (hs : swapsWith (.Name y q) (some (.Name x p)) pos.line X.env = pure false := by rfl) (hf : X.fn x = true ∨ X.env.scope.names.lookup x = some .local := by first | exact .inl rfl | exact .inr rfl | assumption) :
    DS W X (.Assign [.Name x p] (.Name y q) pos) (gMove i j) := by
  refine PS.imp (ps_set hN hi hx (pe_var hj hv hd hcd) hs hf) fun D σ H ⟨B, Rg, δ, S0, w⟩ => ?_
  unfold gMove at w
  split at w
  · rename_i d e
    split at w
    · rename_i hl
      obtain ⟨b, u, fp, sl, n, f⟩ := S0
      obtain ⟨v, f1, g1, q1, q2, q3, q4, q5, q6, q7, q8⟩ := SlotsR.pull j sl n e
      obtain ⟨fp', r1, r2, r3⟩ := SlotsR.set (v := some v) (s := .own d) (f' := f1) ⟨v, rfl, q2⟩ i (by simpa using hl) q5 q6 q3 (fun a ha => q8 a ha)
      refine ⟨v, q1, w _ _ ⟨b, u, fp', r1, r2, fun a ha => ?_⟩⟩
      rcases r3 a ha with z | z
      · exact f a (q7 a z)
      · exact f a (q4 a z)
    · exact w.elim
  · exact w.elim
end
end DL
/-! DLzg: None in a list of tuples and None. -/
namespace DL
open PySem PySem.Spec PyProof.Rows L2
def nonV : V → Bool
  | .non => true
  | _ => false
def nonU : Value → Bool
  | .none => true
  | _ => false
def P.tn : P → Bool
  | .non => true
  | .tup _ => true
  | _ => false
def P.isNon : P → Bool
  | .non => true
  | _ => false
def fInN (neg : Bool) : D → D → Rn Unit Bool
  | .p .non, .lst xs => if xs.all P.tn = true then .ok (if neg then !xs.any P.isNon else xs.any P.isNon) else .bad
  | _, _ => .bad
def rInN (K : PySem.W.Frag) (neg : Bool) : R2 := fun x y H Q => x = .non ∧ ∃ p xs, y = .ref p ∧ SqL K H p xs ∧ (∀ w ∈ xs, w = .non ∨ ∃ a vs, w = .ref a ∧ SqT K H a vs) ∧ Q (.bl (if neg then !xs.any nonV else xs.any nonV)) H
theorem any_nonU : ∀ {xs : List V} {us : List Value}, Vals xs us → (∀ w ∈ xs, w = .non ∨ ∃ a, w = .ref a) → us.any nonU = xs.any nonV
  | _, _, .nil, _ => rfl
  | y :: xs, u :: us, .cons r t, f => by
    rw [List.any_cons, List.any_cons, any_nonU t fun w hw => f w (List.mem_cons_of_mem _ hw)]
    rcases f y (List.mem_cons_self ..) with rfl | ⟨a, rfl⟩
    · cases r
      rfl
    · cases r
      rfl
theorem vals_mem : ∀ {xs : List V} {us : List Value}, Vals xs us → ∀ u ∈ us, ∃ w ∈ xs, RelV w u
  | _, _, .nil, u, hu => by cases hu
  | y :: xs, _, .cons r t, u, hu => by
    rcases List.mem_cons.mp hu with rfl | hu
    · exact ⟨y, List.mem_cons_self .., r⟩
    · obtain ⟨w, h1, h2⟩ := vals_mem t u hu
      exact ⟨w, List.mem_cons_of_mem _ h1, h2⟩
theorem op_inN {X : Cx} (hu : X.A.units + 1 < cLine) : OpR X (compareOp .In) (rInN X.K false) := by
  intro pins s σ H x y v u Q I rx ry h
  obtain ⟨rfl, p, xs, rfl, hq, fs, q⟩ := h
  cases ry
  cases rx
  obtain ⟨its, r, pl, hz⟩ := I.list hq
  refine SeqAt.in_listAt nonU pl.isList (fun w hw => ?_) ⟨.bl _, H, I, rfl, ?_⟩
  · obtain ⟨z, hz1, hz2⟩ := vals_mem r w (by simpa using hw)
    rcases fs z hz1 with rfl | ⟨a, vs, rfl, ht⟩
    · cases hz2
      exact SeqAt.EqAt.same _
    · cases hz2
      obtain ⟨its2, r2, pl2, _⟩ := I.tuple ht
      exact SeqAt.EqAt.tuple_none pl2 hu
  · rw [show its.toArray.any nonU = its.any nonU by simp, any_nonU r fun w hw => (fs w hw).imp id fun ⟨a, vs, e, _⟩ => ⟨a, e⟩]
    exact q
theorem op_niN {X : Cx} (hu : X.A.units + 1 < cLine) : OpR X (compareOp .NotIn) (rInN X.K true) := by
  intro pins s σ H x y v u Q I rx ry h
  obtain ⟨rfl, p, xs, rfl, hq, fs, q⟩ := h
  cases ry
  cases rx
  obtain ⟨its, r, pl, hz⟩ := I.list hq
  refine SeqAt.notIn_listAt nonU pl.isList (fun w hw => ?_) ⟨.bl _, H, I, rfl, ?_⟩
  · obtain ⟨z, hz1, hz2⟩ := vals_mem r w (by simpa using hw)
    rcases fs z hz1 with rfl | ⟨a, vs, rfl, ht⟩
    · cases hz2
      exact SeqAt.EqAt.same _
    · cases hz2
      obtain ⟨its2, r2, pl2, _⟩ := I.tuple ht
      exact SeqAt.EqAt.tuple_none pl2 hu
  · rw [show its.toArray.any nonU = its.any nonU by simp, any_nonU r fun w hw => (fs w hw).imp id fun ⟨a, vs, e, _⟩ => ⟨a, e⟩]
    exact q
theorem tn_ok {K : PySem.W.Frag} {H : Hp} : ∀ {xs : List P} {vs : List V}, RepPs K H xs vs → xs.all P.tn = true → (∀ w ∈ vs, w = .non ∨ ∃ a ws, w = .ref a ∧ SqT K H a ws) ∧ vs.any nonV = xs.any P.isNon
  | [], vs, h, _ => by
    obtain rfl : vs = [] := h
    exact ⟨fun w hw => (by cases hw), rfl⟩
  | y :: xs, vs, h, hf => by
    obtain ⟨u, r, rfl, h1, h2⟩ := h
    simp only [List.all_cons, Bool.and_eq_true] at hf
    obtain ⟨z1, z2⟩ := tn_ok h2 hf.2
    rw [List.any_cons, List.any_cons, z2]
    cases y with
    | non =>
      obtain rfl := (h1 : u = _)
      exact ⟨fun w hw => (List.mem_cons.mp hw).elim (fun e => .inl e) (z1 w), rfl⟩
    | tup ys =>
      obtain ⟨a, ws, rfl, q, r2⟩ := h1
      exact ⟨fun w hw => (List.mem_cons.mp hw).elim (fun e => .inr ⟨a, ws, e, q⟩) (z1 w), rfl⟩
    | _ => exact absurd (show false = true from hf.1) Bool.false_ne_true
theorem og_inN {K : PySem.W.Frag} : OpG K (rInN K false) (fB (fInN false)) := by
  intro H x y v u fx fy Q E rx ry h
  have h' := Rn.wp_bind.mp h
  unfold fInN at h'
  split at h'
  · split at h'
    · rename_i hf
      obtain rfl : v = .non := rx.1
      obtain ⟨a, vs, rfl, q, _, r⟩ := ry
      obtain ⟨z1, z2⟩ := tn_ok r hf
      exact ⟨rfl, a, vs, rfl, SqL.of q, z1, by rw [z2]; exact RepP.up h' rfl⟩
    · exact h'.elim
  · exact h'.elim
theorem og_niN {K : PySem.W.Frag} : OpG K (rInN K true) (fB (fInN true)) := by
  intro H x y v u fx fy Q E rx ry h
  have h' := Rn.wp_bind.mp h
  unfold fInN at h'
  split at h'
  · split at h'
    · rename_i hf
      obtain rfl : v = .non := rx.1
      obtain ⟨a, vs, rfl, q, _, r⟩ := ry
      obtain ⟨z1, z2⟩ := tn_ok r hf
      exact ⟨rfl, a, vs, rfl, SqL.of q, z1, by rw [z2]; exact RepP.up h' rfl⟩
    · exact h'.elim
  · exact h'.elim
end DL
set_option maxHeartbeats 1000000
/-! DLzh: ranges of any size; x = y.pop(); y[k] = a + z.pop() * b. -/
namespace DL
open PySem PySem.Spec PyProof.Rows L2
theorem turn_big {P : Program} {w : World} {K : PySem.W.Frag} {tg : Expr} (it : Addr) (lo : Int) (n : Nat) : Turn P w K tg (Itr lo n) [it] it (fun i h => IsLongIter h it (lo + (i : Nat) * 1) ((n : Int) - (i : Nat)) 1) := by
  refine ⟨by simp, fun i h st b hb => ?_, fun i h h' st k => k it (by simp) _ st, ?_, ?_, fun _ _ _ _ _ st h => wpAny_pyIter_longiter st h⟩
  · obtain rfl : b = it := by simpa using hb
    exact ⟨_, st, fun v z => by cases (show Data.fields _ = Data.cell v from z)⟩
  · rintro X rfl rfl rfl hc i pins s σ H E I hf st hg
    obtain ⟨f0, f1, f2, f3, f4, f5⟩ := hf it (by simp)
    refine (Walks.longrange (prog := X.prog) (w := X.w) (I.ok.hd hc) it lo 1 n).item i s _ _ hg st fun v h' tk hv st' kk => ?_
    obtain ⟨t, rfl⟩ := hv
    have I1 : Inv X pins σ H { s with heap := h', toks := tk } := I.turned (fun b o hb e => kk b o (by simpa using hb) e) f0 f1 f3 f4 f5
    exact ⟨_, rfl, go_of (s := { s with heap := h', toks := tk }) (n := "longrange_iterator") st' rfl rfl (by decide) ⟨.int (lo + i), H, I1, ⟨t, by rw [Int.mul_one]⟩, ⟨rfl, rfl⟩, st', fun b hb => (hf b hb).1⟩⟩
  · rintro X rfl rfl rfl hc i pins s σ H E I hf st hg
    obtain ⟨f0, f1, f2, f3, f4, f5⟩ := hf it (by simp)
    exact wpAny_pyNext_long_end (I.ok.hd hc) st (by have : n ≤ i := hg; omega) fun h' eb => ⟨rfl, I.turned (t' := s.toks) (fun b o hb e => eb b o hb e) f0 f1 f3 f4 f5⟩
section
variable {X : Cx} {tg : Expr}
theorem range_itB {pins : List (Addr × Obj)} {σ : L2.St} {H : Hp} {s : Shared} {R : It → Hp → Prop} {E : Value → Shared → Prop} {lo hi : Int} {t u v : Tok} {tk : Nat} (I : Inv X pins σ H s) (q : R (Itr lo (hi - lo).toNat) H) :
    wpAny (model X.prog X.w) X.A (pyIter (.ref s.heap.objs.size)) (PIE X pins σ tg R) E { s with heap := s.heap.push { cls := .type "range", data := .fields #[.int lo t, .int hi u, .int 1 v] }, toks := tk } := by
  have I1 : Inv X pins σ H { s with heap := s.heap.push { cls := .type "range", data := .fields #[.int lo t, .int hi u, .int 1 v] }, toks := tk } := I.kept fun b o e => Heap.get?_push_of_some _ e
  have e1 : lo + ((0 : Nat) : Int) * 1 = lo := by simp
  have e2 : (((hi - lo).toNat : Nat) : Int) - ((0 : Nat) : Int) = Builtin.Range.rangeSize lo hi 1 := by
    rw [rangeSize_one]
    split <;> omega
  have hf : ∀ b ∈ [(s.heap.push { cls := .type "range", data := .fields #[.int lo t, .int hi u, .int 1 v] }).objs.size], FpOk X pins H b := fun b hb => by
    obtain rfl := List.mem_singleton.mp hb
    exact I1.fpOk (Nat.le_refl _) (I1.hok.fresh (Nat.le_refl _))
  cases hs : Builtin.Range.small lo hi 1 with
  | true =>
    refine wpAny_pyIter_range (IsRange.new ..) hs ⟨_, _, _, _, H, rfl, I1.kept (t' := tk) fun b o e => Heap.get?_push_of_some _ e, turn_range _ lo (hi - lo).toNat, ?_, hf, q⟩
    show IsRangeIter _ _ (lo + ((0 : Nat) : Int) * 1) ((((hi - lo).toNat : Nat) : Int) - ((0 : Nat) : Int)) 1
    rw [e1, e2]; exact Heap.get?_push_size _ rfl
  | false =>
    refine wpAny_pyIter_longrange (IsRange.new ..) hs ⟨_, _, _, _, H, rfl, I1.kept (t' := tk) fun b o e => Heap.get?_push_of_some _ e, turn_big _ lo (hi - lo).toNat, ?_, hf, q⟩
    show IsLongIter _ _ (lo + ((0 : Nat) : Int) * 1) ((((hi - lo).toNat : Nat) : Int) - ((0 : Nat) : Int)) 1
    rw [e1, e2]; exact Heap.get?_push_size _ rfl
def iRngB (ta : TA) : TI := fun σ H R => ta σ H fun vs H1 => ∃ i j : Int, vs = [.int i, .int j] ∧ R (Itr i (j - i).toNat) H1
theorem pi_rangeB {a b : Expr} {ta : TA} {p pos : Pos} (hg : Gl X "range") (hm : X.mg "range" = none) (ha : PA X [a, b] ta) (hs : starEach [a, b] X.env = [(false, eval a X.env), (false, eval b X.env)]) (hs2 : starEach [b] X.env = [(false, eval b X.env)]) :
    PI X tg (.Call (.Name "range" p) [a, b] [] pos) (iRngB ta) := by
  refine ⟨fun pins s σ H R I h => Call_ (ld_blt I hg hm boot_range (PyProof.Rows.callWith_type1 (thn (ha.run pos pins s σ H _ I h) fun us s1 q => ?_) (by rw [hs, hs2]) (by rw [hs2]; rfl)))⟩
  obtain ⟨vs, H1, I1, r1, i, j, rfl, q⟩ := q
  obtain ⟨u, u', rfl, ⟨t, rfl⟩, ⟨t', rfl⟩⟩ : ∃ u u', us = [u, u'] ∧ RelV (.int i) u ∧ RelV (.int j) u' := by
    cases r1 with
    | cons r rr => cases rr with
      | cons r' rr => cases rr; exact ⟨_, _, rfl, r, r'⟩
  exact call_range_2 (range_itB I1 q)
end
def fRange2B : List D → Rn Unit (List P)
  | [.p (.int i), .p (.int j)] => .ok (rangeP i j)
  | _ => .bad
section
variable {W : WX} {X : Cx} {a b e tg : Expr} {gs : GA} {ga gb gk : GE} {pos p : Pos}
theorem di_range2B (hm : X.mg "range" = none) (ha : DA W X [a, b] gs) (hg : Gl X "range" := by rfl) (hs : starEach [a, b] X.env = [(false, eval a X.env), (false, eval b X.env)] := by rfl) (hs2 : starEach [b] X.env = [(false, eval b X.env)] := by rfl) : DI W X tg (.Call (.Name "range" p) [a, b] [] pos) (gRangeI fRange2B gs) := by
  refine PI.imp (pi_rangeB hg hm ha hs hs2) fun σ H Rk ⟨B, Rg, δ, S0, w⟩ => ⟨B, Rg, δ, S0, Rn.wp_mono (Rn.wp_bind.mp w) (fun rs q vs H1 s1 ra => ?_) fun _ _ q => q⟩
  obtain ⟨fp, r, _⟩ := ra
  have lk := r.look
  generalize rs.map R.d = ds at lk q
  unfold fRange2B at q
  split at q
  · rename_i i j
    obtain ⟨v, u, fp1, gp, rfl, rr, rr'⟩ := lk.two
    obtain rfl : v = .int i := rr.1
    obtain rfl : u = .int j := rr'.1
    exact ⟨i, j, rfl, q _ H1 s1 (Walk.range _ _)⟩
  · exact q.elim
def gPop (i j : Nat) : GS := fun δ => match δ[j]? with
  | some (.own (.lst xs)) => match xs[xs.length - 1]? with
    | some x => .ok (.nx ((δ.set j (.own (.lst xs.dropLast))).set i (.own (.p x))))
    | none => .bad
  | _ => .bad
theorem RepPs.dropLast {K : PySem.W.Frag} {H : Hp} {xs : List P} {vs : List V} (h : RepPs K H xs vs) : RepPs K H xs.dropLast vs.dropLast := by
  rw [List.dropLast_eq_take, List.dropLast_eq_take, h.len]
  exact h.take _
theorem SRel.popped {K : PySem.W.Frag} {B H : Hp} {ex : Option Addr} {Rg : Rgs ex} {σ : L2.St} {δ : Sl} {j : Nat} {xs : List P} {x : P} (S0 : SRel K B Rg σ H δ) (e : δ[j]? = some (.own (.lst xs))) (e2 : xs[xs.length - 1]? = some x) :
    ∃ a vs u, σ[j]? = some (some (.ref a)) ∧ H a = some (.lst vs) ∧ vs[vs.length - 1]? = some u ∧ RepP K (upd H a (.lst vs.dropLast)) x u ∧ SRel K B Rg σ (upd H a (.lst vs.dropLast)) (δ.set j (.own (.lst xs.dropLast))) := by
  obtain ⟨v, f, e1, rd, nf, fB, k⟩ := S0.change e
  obtain ⟨a, vs, rfl, qa, rfl, ra⟩ := rd
  obtain ⟨u, hu, ru⟩ := ra.get e2
  have kt : KT H (upd H a (.lst vs.dropLast)) := KT.upd qa trivial
  exact ⟨a, vs, u, e1, qa, by rw [ra.len]; exact hu, RepP.kt kt _ _ ru, k _ _ [a] kt (fun b o hb e => by rw [upd_ne (by simpa using hb)]; exact e) ⟨a, _, rfl, upd_same, rfl, RepPs.kt kt _ _ ra.dropLast⟩ (by simp) fun b hb => .inl hb⟩
theorem ds_pop {i j : Nat} {x y : Str} {q apos cpos : Pos} (hN : X.N.Nodup) (hi : X.N[i]? = some x) (hx : Loc X.env.scope x) (hj : X.N[j]? = some y) (hv : Vis X.env.scope y) (hd : (y == ("__debug__" : Str)) = false := by decide) (hcd : (y == ("__classdict__" : Str)) = false := by decide)
    (hbase : attributeBase (.Name y q) "pop" X.env (eval (.Name y q) X.env) = eval (.Name y q) X.env := by rfl) (hline : (apos.endLine == cpos.line) = true := by rfl)
    (hs : swapsWith (.Call (.Attribute (.Name y q) "pop" apos) [] [] cpos) (some (.Name x p)) pos.line X.env = pure false := by rfl) (hf : X.fn x = true ∨ X.env.scope.names.lookup x = some .local := by first | exact .inl rfl | exact .inr rfl | assumption) :
    DS W X (.Assign [.Name x p] (.Call (.Attribute (.Name y q) "pop" apos) [] [] cpos) pos) (gPop i j) := by
  refine PS.imp (ps_set hN hi hx (pe_bm0 PySem.F.plainAttrs_list PySem.F.slot_list_pop PySem.F.type_list_pop mt_pop (pe_var hj hv hd hcd) hbase hline) hs hf) fun D σ H ⟨B, Rg, δ, S0, w⟩ => ?_
  unfold gPop at w
  split at w
  · rename_i xs e
    split at w
    · rename_i x0 e2
      obtain ⟨a, vs, u, e1, qa, hu, ru, S1⟩ := S0.popped e e2
      exact ⟨_, e1, .inl ⟨rfl, _, SqL.of qa⟩, a, vs, u, rfl, rfl, qa, hu, w _ _ (S1.set (Same.refl _) (fp := []) ⟨ru, rfl⟩ List.nodup_nil fun _ z => nomatch z)⟩
    · exact w.elim
  · exact w.elim
/-- y[k] = a + z.pop() * b, y and z lists of ints -/
def gPutPop (i j : Nat) (gk ga gb : GE) : GS := fun δ => match δ[j]? with
  | some (.own (.lst xs)) => match xs[xs.length - 1]? with
    | some (.int n) => (lift (ga δ) δ).bind fun ra => (lift (gb (δ.set j (.own (.lst xs.dropLast)))) (δ.set j (.own (.lst xs.dropLast)))).bind fun rb => match ra.d, rb.d with
      | .p (.int a), .p (.int m) => if CMulW n m then match (δ.set j (.own (.lst xs.dropLast)))[i]? with
        | some (.own (.lst ys)) => (lift (gk (δ.set j (.own (.lst xs.dropLast)))) (δ.set j (.own (.lst xs.dropLast)))).bind fun k => match k.d with
          | .p (.int kk) => match ixN ys.length kk with
            | some l => .ok (.nx ((δ.set j (.own (.lst xs.dropLast))).set i (.own (.lst (ys.set l (.int (a + n * m)))))))
            | none => .bad
          | _ => .bad
        | _ => .bad else .bad
      | _, _ => .bad
    | _ => .bad
  | _ => .bad
theorem ds_putPop {i j : Nat} {x z : Str} {ix : Expr} {q apos cpos mpos bpos tpos : Pos} (hN : X.N[i]? = some x) (hv : Vis X.env.scope x) (hj : X.N[j]? = some z) (hvz : Vis X.env.scope z) (hk : DE W X ix gk) (ha : DE W X a ga) (hb : DE W X b gb)
    (hd : (x == ("__debug__" : Str)) = false := by decide) (hcd : (x == ("__classdict__" : Str)) = false := by decide) (hdz : (z == ("__debug__" : Str)) = false := by decide) (hcdz : (z == ("__classdict__" : Str)) = false := by decide)
    (hbase : attributeBase (.Name z q) "pop" X.env (eval (.Name z q) X.env) = eval (.Name z q) X.env := by rfl) (hline : (apos.endLine == cpos.line) = true := by rfl)
    (has : ∀ v, assign (.Subscript (.Name x p) ix tpos) X.env v = (do
      let ov ← holding [v] (eval (.Name x p) X.env)
      let iv ← holding [v, ov] (eval ix X.env)
      standAt tpos
      holding [v, ov, iv] (setItem ov iv v)
      release [v, ov, iv] []) := by intro _; rfl)
    (hs : swapsWithSole [.Subscript (.Name x p) ix tpos] (.BinOp a .Add (.BinOp (.Call (.Attribute (.Name z q) "pop" apos) [] [] cpos) .Mult b mpos) bpos) pos.line X.env = pure false := by rfl) (hw : swappedStores [.Subscript (.Name x p) ix tpos] (.BinOp a .Add (.BinOp (.Call (.Attribute (.Name z q) "pop" apos) [] [] cpos) .Mult b mpos) bpos) X.env = pure none := by rfl)
    (h1 : (assignEach [.Subscript (.Name x p) ix tpos] X.env).map (·.2) = [assign (.Subscript (.Name x p) ix tpos) X.env] := by rfl) :
    DS W X (.Assign [.Subscript (.Name x p) ix tpos] (.BinOp a .Add (.BinOp (.Call (.Attribute (.Name z q) "pop" apos) [] [] cpos) .Mult b mpos) bpos) pos) (gPutPop i j gk ga gb) := by
  refine PS.imp (ps_asg (pe_op op_addA ha (pe_op op_mulW (pe_bm0 PySem.F.plainAttrs_list PySem.F.slot_list_pop PySem.F.type_list_pop mt_pop (pe_var hj hvz hdz hcdz) hbase hline) hb)) (pg_sub (pe_var hN hv hd hcd) hk set_list has) hs hw h1) fun D σ H ⟨B, Rg, δ, S0, w⟩ => ?_
  unfold gPutPop at w
  split at w
  · rename_i xs e
    split at w
    · rename_i n e2
      refine tDS_val S0 w fun r v H1 s1 rv S1 w => ?_
      obtain ⟨c, vs, u, e1, qa, hu, ru, S2⟩ := S1.popped e e2
      refine ⟨_, e1, .inl ⟨rfl, _, SqL.of qa⟩, c, vs, u, rfl, rfl, qa, hu, ?_⟩
      obtain rfl : u = .int n := ru
      refine tDS_val S2 w fun r2 v2 H2 s2 rv2 S3 w => ?_
      split at w
      · rename_i a0 m ea em
        split at w
        · rename_i hc
          split at w
          · rename_i ys ei
            obtain rfl : v = .int a0 := rv.getP ea
            obtain rfl : v2 = .int m := rv2.getP em
            refine ⟨n, m, rfl, rfl, hc, .inl ⟨a0, n * m, rfl, rfl, ?_⟩⟩
            obtain ⟨ov, f, e3, rd, nf, fB, k⟩ := S3.change ei
            refine ⟨ov, e3, ?_⟩
            refine tDS_val S3 w fun r3 v3 H3 s3 rv3 S4 w => ?_
            split at w
            · rename_i kk ek
              split at w
              · rename_i l el
                obtain rfl : v3 = .int kk := rv3.getP ek
                obtain ⟨a1, vs1, rfl, qa1, rfl, ra1⟩ := RepD.kt (Same.kt s3) _ ov f (fun a _ o e => s3 a o e) rd
                have kt : KT H3 (upd H3 a1 (.lst (vs1.set l (.int (a0 + n * m))))) := KT.upd qa1 trivial
                refine ⟨a1, vs1, kk, l, rfl, rfl, qa1, by rw [ra1.len]; exact el, ?_⟩
                exact w σ _ (k _ _ [a1] ((Same.kt s3).trans kt) (fun b o hb e => by rw [upd_ne (by simpa using hb)]; exact s3 b o e) ⟨a1, _, rfl, upd_same, rfl, RepPs.kt kt _ _ (RepPs.set (x := .int (a0 + n * m)) (show RepP _ _ (.int (a0 + n * m)) (.int (a0 + n * m)) from rfl) l ra1)⟩ (by simp) fun b hb => .inl hb)
              · exact w.elim
            · exact w.elim
          · exact w.elim
        · exact w.elim
      · exact w.elim
    · exact w.elim
  · exact w.elim
end
end DL
set_option maxHeartbeats 1000000
/-! DLzi: a dict of made values, its keys written texts. -/
namespace DL
open PySem PySem.Spec PyProof.Rows L2
def gValsS : List (Str × GE) → Sl → Rn Unit (List (Key × P))
  | [], _ => .ok []
  | (k, g) :: l, δ => (g δ).bind fun r => match r.d with
    | .p x => (gValsS l δ).bind fun xs => .ok ((.inr k, x) :: xs)
    | _ => .bad
def gDicVS (l : List (Str × GE)) : GE := fun δ => (gValsS l δ).bind fun kvs => .ok (.own (.dic kvs))
def trVS (c : DC) (l : List (Str × GE)) : List (TE × TE) := l.map fun q => (tC (.str q.1), tD c q.2)
def keysVS (l : List (Str × GE)) : List Key := l.map fun q => .inr q.1
theorem gValsS_keys {δ : Sl} {Q : List (Key × P) → Prop} {E : Str → Unit → Prop} : ∀ l : List (Str × GE), (gValsS l δ).wp Q E → (gValsS l δ).wp (fun kvs => kvs.map (·.1) = keysVS l ∧ Q kvs) E
  | [], h => ⟨rfl, h⟩
  | (k, g) :: l, h => by
    refine Rn.wp_bind.mpr (Rn.wp_mono (Rn.wp_bind.mp h) (fun r q => ?_) fun _ _ q => q)
    split at q
    · refine Rn.wp_bind.mpr (Rn.wp_mono (gValsS_keys l (Rn.wp_bind.mp q)) (fun kvs q => ?_) fun _ _ q => q)
      exact ⟨by show _ :: kvs.map (·.1) = _ :: keysVS l; rw [q.1], q.2⟩
    · exact q.elim
theorem tPairs_VS {c : DC} : ∀ (l : List (Str × GE)) (σ : L2.St) (H : Hp) (Q : List (V × V) → Hp → Prop) (B : Hp) (Rg : Rgs c.ex) (δ : Sl), SRel c.K B Rg σ H δ →
    (gValsS l δ).wp (fun kvs => ∀ ws H', Same H H' → RepKs c.K H' kvs ws → Q (ws.map fun q => (kV q.1, q.2)) H') (fun cl _ => ∀ C H', c.mg cl = some (.ref C) → Same H H' → c.W (.ref C) none σ H') → tPairs (trVS c l) σ H Q
  | [], σ, H, Q, B, Rg, δ, S0, h => h [] H (Same.refl H) rfl
  | (k, g) :: l, σ, H, Q, B, Rg, δ, S0, h => by
    refine tD_seq (Q := fun (kvs : List (Key × P)) H1 H' => ∀ ws : List (Key × V), RepKs c.K H' kvs ws → Q (ws.map fun (q : Key × V) => (kV q.1, q.2)) H') S0 (fun _ _ _ _ q => q) (Rn.wp_mono h (fun kvs q H' s ws r => q ws H' s r) fun _ _ q => q) fun r v H1 s1 rv S1 w1 => ?_
    split at w1
    · rename_i x ex
      refine tPairs_VS l σ H1 _ B Rg δ S1 (Rn.wp_mono (Rn.wp_bind.mp w1) (fun kvs q ws H' s2 rk => ?_) fun cl _ q C H' e s => q C H' e s)
      obtain ⟨f1, q1⟩ := (rv.grow s2).look
      rw [ex] at q1
      exact q H' s2 ((.inr k, v) :: ws) ⟨v, ws, rfl, q1.1, rk⟩
    · exact w1.elim
theorem de_dicVS {W : WX} {X : Cx} {pos : Pos} {keys : List (Option Expr)} {vals : List Expr} {l : List (Str × GE)} (h : PPs X pos keys vals (trVS (dc X W) l)) (hall : keys.all (·.isSome) = true) (hl : keys.length = vals.length) (h0 : keys ≠ []) (h15 : keys.length ≤ 15)
    (hk : l.length ≤ 15) (hm : ∀ ws : List (Key × V), ws.map (·.1) = keysVS l → mergeK [] ws = ws) : DE W X (.Dict keys vals pos) (gDicVS l) := by
  refine PE.imp (pe_disp h hall hl h0 h15) fun σ H Q ⟨B, Rg, δ, S0, w⟩ p hp => ?_
  have sp : Same H (upd H p (.dK [])) := Same.new hp
  refine tPairs_VS l σ _ _ B Rg δ (S0.grow sp) (Rn.wp_mono (gValsS_keys l (Rn.wp_bind.mp w)) (fun kvs q ws H2 s2 rk => ?_) fun cl _ q C H' e s => q C H' e (sp.trans s))
  obtain ⟨ek, q⟩ := q
  have kw : ws.map (·.1) = keysVS l := by
    rw [← ek]
    clear ek q
    induction kvs generalizing ws with
    | nil =>
      obtain rfl : ws = [] := rk
      rfl
    | cons x xs ih =>
      obtain ⟨k, x⟩ := x
      obtain ⟨v, r, rfl, _, r2⟩ := rk
      rw [List.map_cons, List.map_cons, ih r r2]
  have len : ws.length ≤ 15 := by
    have := congrArg List.length kw
    rw [List.length_map, keysVS, List.length_map] at this
    omega
  have at2 : H2 p = some (.dK []) := s2 p _ upd_same
  refine ⟨at2, ws, rfl, len, ?_⟩
  rw [hm ws kw]
  have sq : Same H (upd H2 p (.dK ws)) := fun b o e => by
    have ne := ne_of_none e hp
    rw [upd_ne ne]
    exact s2 b o ((upd_ne ne).trans e)
  refine q (.ref p) _ sq ⟨[p], ⟨p, ws, rfl, upd_same, rfl, ?_⟩, by simp, fun b hb => by
    obtain rfl : b = p := by simpa using hb
    exact hp⟩
  have nep : ∀ {a o}, H2 a = some o → o ≠ .dK [] → a ≠ p := fun e1 e2 e3 => by
    rw [e3, at2] at e1
    exact e2 (Option.some.inj e1).symm
  refine RepKs.kt ⟨fun a xs e => ?_, fun a o u e => ?_⟩ _ _ rk
  · rcases e with e | ⟨o, e⟩
    · exact .inl ((upd_ne (nep e (fun z => nomatch z))).trans e)
    · exact .inr ⟨o, (upd_ne (nep e (fun z => nomatch z))).trans e⟩
  · exact (upd_ne (nep e (fun z => nomatch z))).trans e
section
variable {W : WX} {X : Cx} {pos p : Pos}
theorem de_call0 {x : Str} {k : Nat} {f : Fn} (F : FD X.prog X.w X.K X.mg X.base k x 0 f) (hr : Room k X.A) (tk : Takes X W) (hg : Gl X x := by rfl) (hdb : (x == ("__debug__" : Str)) = false := by decide) :
    DE W X (.Call (.Name x p) [] [] pos) (gFn 0 f gNil) := by
  obtain ⟨a, fd, ps, hm, hk, hb, G⟩ := F.ex
  refine ⟨fun pins s σ H Q I h => wpAny_Call_Name_kw (ld_glob I hg hm ?_ hdb)⟩
  obtain ⟨B, Rg, δ, S0, w⟩ := h
  refine PySem.W.callWith_K0 I.kIn hk (run_fnS (us := []) (E := WE W) G hr hb (passAt tk σ) I .nil ?_)
  exact ⟨[], rfl, rfl, Rn.wp_mono (Rn.wp_bind.mp w) (fun d q v H2 s2 ⟨fp, q1, n1, f1⟩ => q v H2 s2 ⟨fp, q1, n1, f1⟩) fun cl _ q C H' e s => q C H' e s⟩
end
end DL
set_option maxHeartbeats 4000000
/-! DLzj: (x, ..) * n for n from 0 on. -/
namespace DL
open PySem PySem.Spec PyProof.Rows L2
theorem tmul_zero {l : Addr} {its : Array Value} {n : Nat} {dd : Option Addr} {sl : Array (Option Value)} {u : Tok} (ne : its.isEmpty = false) :
    Meets (Builtin.«tuple.__mul__» ⟨[.ref l, .int 0 u], []⟩) (fun _ R s => s.heap.get? l = some { cls := .type "tuple", dict := dd, data := .seq its n, slots := sl } ∧
      R (.ok (.ret (Value.ref s.heap.objs.size))) { s with heap := s.heap.push { cls := Value.type "tuple", data := Data.seq #[] }, toks := s.toks }) :=
  .of_wp fun prog w A R s ⟨hl, h⟩ => by
    obtain ⟨hp, g, d, tk, os⟩ := s
    have f1 := AutoSeq1.idx_int
    wp_walk using wpAny_loadPart' hl
    repeat (first
      | (refine wpAny_ite_false (decide_eq_false (by decide)) ?_; wp_walk using wpAny_loadPart' hl)
      | (refine wpAny_ite_false (decide_eq_false (by rw [ne]; decide)) ?_; wp_walk using wpAny_loadPart' hl)
      | (refine wpAny_ite_true (decide_eq_true (by rw [ne]; decide)) ?_; wp_walk using wpAny_loadPart' hl))
    exact ⟨_, rfl, h⟩
theorem tmul_one {l : Addr} {its : Array Value} {n : Nat} {dd : Option Addr} {sl : Array (Option Value)} {u : Tok} :
    Meets (Builtin.«tuple.__mul__» ⟨[.ref l, .int 1 u], []⟩) (fun _ R s => s.heap.get? l = some { cls := .type "tuple", dict := dd, data := .seq its n, slots := sl } ∧ R (.ok (.ret (Value.ref l))) s) :=
  .of_wp fun prog w A R s ⟨hl, h⟩ => by
    obtain ⟨hp, g, d, tk, os⟩ := s
    have f1 := AutoSeq1.idx_int
    have ty : (⟨hp, g, d, tk, os⟩ : Shared).TypeIs (.ref l) "tuple" := ⟨_, hl, rfl⟩
    wp_walk using wpAny_loadPart' hl
    repeat (first
      | (refine wpAny_ite_false (decide_eq_false (by decide)) ?_; wp_walk using wpAny_typeOf ty, wpAny_loadPart' hl)
      | (refine wpAny_ite_true (decide_eq_true (by simp)) ?_; wp_walk using wpAny_typeOf ty, wpAny_loadPart' hl))
    exact ⟨_, rfl, h⟩
section
variable {X : Cx} {W : WX} {pos : Pos} {a b : Expr} {ga gb : GE}
def rRepC (K : PySem.W.Frag) : R2 := fun x y H Q => ∃ l k xs, x = .ref l ∧ y = .int k ∧ SqT K H l xs ∧ xs ≠ [] ∧ 0 ≤ k ∧ k ≤ 10000 ∧ xs.length ≤ 10 ∧ (k = 1 → Q (.ref l) H) ∧ (k = 0 → ∀ p, H p = none → Q (.ref p) (upd H p (.tup []))) ∧ (2 ≤ k → ∀ p, H p = none → Q (.ref p) (upd H p (.tup (List.replicate k.toNat xs).flatten)))
theorem op_repC : OpR X (binaryOp .Mult) (rRepC X.K) := by
  intro pins s σ H x y v u Q I rx ry ⟨l, k, xs, ex, ey, hT, hne, h0, h2, hz, q1, q0, q2⟩
  rcases Int.lt_or_le 1 k with c2 | c2
  · exact op_repB pins s σ H x y v u Q I rx ry ⟨l, k, xs, ex, ey, hT, hne, by omega, h2, hz, q2 (by omega)⟩
  subst ex ey
  cases rx
  obtain ⟨t, rfl⟩ := ry
  have hT' := hT
  obtain ⟨js, r, ⟨⟨c1, dd, da, sl⟩, ho, hc, n, hd⟩, _⟩ := I.tuple hT
  simp only at hc hd
  subst hc hd
  have emp : js.toArray.isEmpty = false := by
    have jl : js.length = xs.length := r.length.symm
    cases js with
    | nil => exact absurd (List.eq_nil_of_length_eq_zero (by simpa using jl.symm)) hne
    | cons a b => rfl
  obtain rfl | rfl : k = 1 ∨ k = 0 := by omega
  · refine wpAny_binaryOp_repeat_ref (T := "tuple") (U := "int") (by decide) ⟨_, ho, rfl⟩ (fun z => typeIs_int z 1 t) noFill_tuple_mul PySem.F.fills_int_mul PySem.F.slot_int_rmul repeat_tuple PySem.F.slot_int_index.lookup
      (call_meets PySem.F.slot_int_rmul (typeIs_int s 1 t) PySem.F.entry_int_rmul (PySem.F.args_int_rmul_2 _ _) (int_rmul_tuple 1 t l js.toArray n dd sl) ⟨ho, rfl, ⟨_, ho, rfl⟩, call_meets PySem.F.slot_tuple_mul ⟨_, ho, rfl⟩ PySem.F.entry_tuple_mul (PySem.F.args_tuple_mul_2 _ _) tmul_one ⟨ho, ?_⟩⟩)
    exact ⟨.ref l, _, I, rfl, q1 rfl⟩
  · refine wpAny_binaryOp_repeat_ref (T := "tuple") (U := "int") (by decide) ⟨_, ho, rfl⟩ (fun z => typeIs_int z 0 t) noFill_tuple_mul PySem.F.fills_int_mul PySem.F.slot_int_rmul repeat_tuple PySem.F.slot_int_index.lookup
      (call_meets PySem.F.slot_int_rmul (typeIs_int s 0 t) PySem.F.entry_int_rmul (PySem.F.args_int_rmul_2 _ _) (int_rmul_tuple 0 t l js.toArray n dd sl) ⟨ho, rfl, ⟨_, ho, rfl⟩, call_meets PySem.F.slot_tuple_mul ⟨_, ho, rfl⟩ PySem.F.entry_tuple_mul (PySem.F.args_tuple_mul_2 _ _) (tmul_zero emp) ⟨ho, ?_⟩⟩)
    have new := I.laid (t' := s.toks) (o := .tup []) (fun b ob q => Heap.get?_push_of_some _ q) (Nat.le_refl _) ⟨Nat.zero_le _, [], by constructor, IsTup.new _ _⟩
    exact ⟨.ref s.heap.objs.size, _, new, rfl, q0 rfl _ (I.hok.fresh (Nat.le_refl _))⟩
def fMulU : D → D → Rn Unit R
  | .p (.tup xs), .p (.int k) => if xs ≠ [] ∧ 0 ≤ k ∧ k ≤ 10000 ∧ xs.length ≤ 10 then .ok (.own (.p (.tup (List.replicate k.toNat xs).flatten))) else .bad
  | _, _ => .bad
theorem og_mulU {K : PySem.W.Frag} : OpG K (rRepC K) fMulU := by
  intro H x y v u fx fy Q E rx ry h
  unfold fMulU at h
  split at h
  · rename_i xs k
    split at h
    · rename_i hz
      obtain ⟨⟨a, vs, rfl, qa, ra⟩, _⟩ := rx
      obtain rfl : u = .int k := ry.1
      refine ⟨a, k, vs, rfl, rfl, qa, fun z => ?_, hz.2.1, hz.2.2.1, by rw [ra.len]; exact hz.2.2.2, fun e => ?_, fun e p hp => ?_, fun _ p hp => ?_⟩
      · subst z
        cases xs with
        | nil => exact hz.1 rfl
        | cons x xs => obtain ⟨_, _, z, _⟩ := ra; cases z
      · subst e
        refine h _ _ (Same.refl H) ⟨[], ⟨⟨a, vs, rfl, qa, ?_⟩, rfl⟩, List.nodup_nil, fun _ z => nomatch z⟩
        show RepPs K H (List.replicate 1 xs).flatten vs
        simpa using ra
      · subst e
        exact RepD.up hp h ⟨[], ⟨⟨p, [], rfl, .inl (.inl upd_same), rfl⟩, rfl⟩, List.nodup_nil, fun _ z => nomatch z⟩
      · refine RepD.up hp h ⟨[], ⟨⟨p, (List.replicate k.toNat vs).flatten, rfl, .inl (.inl upd_same), ?_⟩, rfl⟩, List.nodup_nil, fun _ z => nomatch z⟩
        exact RepPs.kt (Same.kt (Same.new hp)) _ _ (ra.rep _)
    · exact h.elim
  · exact h.elim
theorem de_mulU (ha : DE W X a ga) (hb : DE W X b gb) : DE W X (.BinOp a .Mult b pos) (gOp2 fMulU ga gb) := de_op2 op_repC og_mulU ha hb
end
end DL
set_option maxHeartbeats 4000000
/-! DLzk: [e for ..], whose element may raise. -/
namespace DL
open PySem PySem.Spec PyProof.Rows L2
open HandSPX
section
variable {M : Model} {A : Around} {E : Value → Shared → Prop} {s : Shared} {Z : Obj → Prop} {B : Heap} {env : Env} {outer : List Env} {L L' a : Addr}
theorem note_other {Q : Unit → Shared → Prop} (hZ : Steady Z) (hfr : A.frames = some (env :: outer)) (hf : env.frame = some L) (ne : L' ≠ L) (hh : HeldZ B (env :: outer) a Z L' s.heap)
    (hQ : ∀ h', HeldZ B (env :: outer) a Z L h' → s.heap.UpToSlots h' → Q () { s with heap := h' }) : wpAny M A (noteFrame (.ref a) env) Q E s := by
  obtain ⟨st, na, ff, oa, vs, T, oT, ts, ha, hz, hd, h1, hnT, hTa, hT, hdT, h3⟩ := hh
  unfold noteFrame
  simp only [hf]
  refine wpAny_bind (wpAny_field ha hd h1 ?_)
  rw [if_pos (c := (Value.ref T != Value.none) = true) (by simp)]
  refine wpAny_bind (wpAny_field hT hdT h3 ?_)
  rw [if_neg (c := (rawInt L' == rawInt L) = true) (by simp only [rawInt]; intro q; have := eq_of_beq q; injection this with q _; exact ne (Int.ofNat.inj q))]
  refine wpAny_bind (wpAny_setField hT hdT (Array.getElem?_eq_some_iff.mp h3).1 ?_)
  have oth : ∀ b, b ≠ T → (s.heap.update T (Obj.mapFields (·.setIfInBounds 3 Value.none))).get? b = s.heap.get? b := fun b hb => Heap.get?_update_other s.heap _ (Ne.symm hb)
  have nrec : ∀ b o, s.heap.get? b = some o → (∀ us, o.data ≠ .fields us) → b ≠ T := fun b o hb hn q => by
    subst q
    rw [hT] at hb
    cases hb
    exact hn ts hdT
  refine wpAny_entryZ hZ hfr (ff.of_keeps fun b o hb hn => ⟨o, (oth b (nrec b o hb hn)).trans hb, rfl⟩) hf ((oth a (Ne.symm hTa)).trans ha)
    (fun b o hb => (oth b fun q => by subst q; rw [hnT] at hb; cases hb).trans (st b o hb)) na hd (Array.getElem?_eq_some_iff.mp h1).1 hz fun h' ⟨y1, y2, y3, y4⟩ => ?_
  exact hQ h' ⟨y1, na, y2, y3⟩ fun b o hb hn => y4 b o ((oth b (nrec b o hb hn)).trans hb) hn
/-- noted by the frame env, whatever it was -/
theorem note_any {Q : Unit → Shared → Prop} (hZ : Steady Z) (hfr : A.frames = some (env :: outer)) (hf : env.frame = some L) (x : Sky B (env :: outer) a Z L' s.heap)
    (hQ : ∀ h', HeldZ B (env :: outer) a Z L h' → s.heap.UpToSlots h' → Q () { s with heap := h' }) : wpAny M A (noteFrame (.ref a) env) Q E s := by
  rcases x with ⟨hB, hn, hl, oe, vs, he, hz, hd, h1⟩ | fl | hh
  · exact look_newZ hZ hfr hl hf he hB hn hd h1 hz hQ
  · exact looks_onZ hZ hfr hf fl hQ
  · by_cases e : L' = L
    · subst e
      exact againZ hf hh.2.2.2 (hQ s.heap hh (Heap.UpToSlots.refl _))
    · exact note_other hZ hfr hf e hh hQ
end
theorem note_env (e : Value) {ce env : Env} (h : ce.frame = env.frame) : noteFrame e ce = noteFrame e env := by
  unfold noteFrame PySem.frameOf
  rw [h]
/-- what the block's errors are to reach -/
abbrev xeB (X : Cx) (Qf : Value → Shared → Prop) (D : Addr) (ce : Env) : Value → Shared → Prop := notedBy (model X.prog X.w) X.A ce fun e s' => compEnds (model X.prog X.w) X.A X.xe none Qf (.ref D) ce (.error e) s'
theorem takes_blk {X : Cx} {W : WX} {pins : List (Addr × Obj)} {σ : L2.St} {H3 : Hp} {s3 : Shared} {scope : Scope} {fp : List Addr} {D : Addr} {Qf : Value → Shared → Prop} {ce : Env} (I3 : Inv X pins σ H3 s3) (hs : X.stack = X.env :: X.outer)
    (hf : X.env.frame = some X.env.locals) (tk : Takes X W) (hce : ce.frame = X.env.frame) (hC : s3.heap.get? ce.locals = none) (f3 : ∀ b ∈ fp, FpOk X pins H3 b ∧ b < s3.heap.objs.size) :
    Takes ((X.blk s3 H3 scope ce fp).tr [] (xeB X Qf D ce)) (fun cls d _ H => W cls d σ H) := by
  rintro u s' ⟨a, B, sI, pins', σ', H', cls, d, rfl, I', nb, up, sky, na, os, ag, w⟩
  have ok := I3.ok
  have hfr : X.A.frames = some (X.env :: X.outer) := by rw [ok.frames, hs]
  have sky : Sky B X.stack a (Zc cls d) ce.locals s'.heap := sky
  rw [hs] at sky
  show wpAny (model X.prog X.w) X.A (noteFrame (.ref a) ce) _ _ s'
  rw [note_env _ hce]
  refine note_any Zc.steady hfr hf sky fun h1 hh1 up1 => ?_
  obtain ⟨m, hn, _⟩ := I'.loc
  have hn : sI.heap.Ns ce.locals m := hn
  have n1 : h1.Ns ce.locals m := by
    obtain ⟨oL, es, ep, e1, e2, r⟩ := hn
    obtain ⟨sl, e3⟩ := (up.trans up1) ce.locals oL e1 fun vs q => by rw [e2] at q; cases q
    exact ⟨_, es, ep, e3, e2, r⟩
  refine ⟨m, n1, fun h2 m2 n2 sb => ?_⟩
  obtain ⟨st, nB, ff, oa, vs, T, oT, ts, ha, hz, hd, hv1, hnT, hTa, hT, hdT, hv3⟩ := hh1
  have notC : ∀ {b : Addr} {o : Obj} {us : Array Value}, h1.get? b = some o → o.data = .fields us → b ≠ ce.locals := fun {b o us} e1 e2 q => by
    subst q
    obtain ⟨oL, es, ep, e3, e4, _⟩ := n1
    rw [e1] at e3
    cases e3
    rw [e2] at e4
    cases e4
  have ha2 : h2.get? a = some oa := (sb.2 a (notC ha hd)).trans ha
  have hT2 : h2.get? T = some oT := (sb.2 T (notC hT hdT)).trans hT
  -- the ground without the block's names
  generalize hB' : PySem.W.hideAll B [ce.locals] = B'
  have inB' : ∀ {b : Addr} {o : Obj}, B'.get? b = some o → B.get? b = some o ∧ b ≠ ce.locals := fun {b o} e => by
    rw [← hB'] at e
    refine ⟨PySem.W.of_hideAll _ e, fun q => ?_⟩
    rw [PySem.W.hideAll_none [ce.locals] (by simp [q])] at e
    cases e
  have toB' : ∀ {b : Addr}, B.get? b = none → B'.get? b = none := fun {b} e => by
    cases q : B'.get? b with
    | none => rfl
    | some o => rw [(inB' q).1] at e; cases e
  have hh2 : HeldZ B' (X.env :: X.outer) a (Zc cls d) X.env.locals h2 := by
    refine ⟨fun b o e => (sb.2 b (inB' e).2).trans (st b o (inB' e).1), toB' nB, ?_, oa, vs, T, oT, ts, ha2, hz, hd, hv1, toB' hnT, hTa, hT2, hdT, hv3⟩
    exact funFrames_none (Heap.FunFrames.sameBut sb n2 ff) fun b hb => toB' (ff.mem hb).1
  unfold PySem.passOn
  refine wpAny_bind (wpAny_field ha2 hd hv1 ?_)
  rw [if_neg (c := (Value.ref T == Value.none) = true) (by simp), hce, hf]
  refine wpAny_bind (setFlight_onZ (s := { s' with heap := h2 }) hh2 fun h3 hh3 up3 => ?_)
  refine wpAny_throw ?_
  -- the state without the exception and the block's names
  generalize hG : PySem.W.hideAll sI.heap [ce.locals] = G
  have inG : ∀ {b : Addr} {o : Obj}, G.get? b = some o → sI.heap.get? b = some o ∧ b ≠ ce.locals := fun {b o} e => by
    rw [← hG] at e
    refine ⟨PySem.W.of_hideAll _ e, fun q => ?_⟩
    rw [PySem.W.hideAll_none [ce.locals] (by simp [q])] at e
    cases e
  have toG : ∀ {b : Addr} {o : Obj}, sI.heap.get? b = some o → b ≠ ce.locals → G.get? b = some o := fun {b o} e q => by
    rw [← hG]
    exact PySem.W.hideAll_get _ e (by simpa using q)
  have frC : ∀ {b : Addr} {o : Obj}, s3.heap.get? b = some o → b ≠ ce.locals := fun {b o} e q => by
    subst q
    rw [hC] at e
    cases e
  have free : H' ce.locals = none := I'.free
  have bs : Un (frs X.stack) fp H3 H' s3.heap sI.heap := I'.base
  have J : Inv X pins σ H' { sI with heap := G } := by
    refine I3.call' (ch := fp) I'.os ⟨fun b o e n hb hx => toG (bs.keep b o e n hb hx) (frC e), fun b o e n hb hx => ?_, fun b o e n hx => bs.free b o e n hx, fun b o e hx => ?_, bs.tups, bs.frzs, bs.tbls⟩ (fun b o q => ?_) I'.bare fun b hb => ⟨(f3 b hb).1.2.2.2.1, (f3 b hb).1.2.1, (f3 b hb).1.2.2.2.2.1, (f3 b hb).1.2.2.2.2.2⟩
    · obtain ⟨sl, q⟩ := bs.slot b o e n hb hx
      exact ⟨sl, toG q (frC e)⟩
    · obtain ⟨o', q⟩ := bs.there b o e hx
      exact ⟨o', toG q (frC e)⟩
    · refine (I'.hok b o q).stay (fun c u hc r => toG r fun z => ?_) (fun _ r => r) fun _ _ r => r
      subst z
      rcases hc with hc | hc
      · rw [← hc, free] at q; cases q
      · rw [free] at hc; cases hc
  refine tk _ _ ⟨a, B', { sI with heap := G }, pins, σ, H', cls, d, rfl, J, fun b o e hb => ?_, fun b o e q => ?_, by rw [hs]; exact .inr (.inr hh3), na, os, ag, w⟩
  · obtain ⟨e1, e2⟩ := inG e
    rw [← hB']
    exact PySem.W.hideAll_get _ (nb b o e1 hb) (by simpa using e2)
  · obtain ⟨e1, e2⟩ := inG e
    obtain ⟨sl, e3⟩ := (up.trans up1) b o e1 q
    obtain ⟨sl', e4⟩ := up3 b _ ((sb.2 b e2).trans e3) q
    exact ⟨sl', e4⟩
/-- the block's context, its errors taken by xe -/
abbrev bE (X : Cx) (s : Shared) (H : Hp) (scope : Scope) (ce : Env) (fp : List Addr) (xe : Value → Shared → Prop) : Cx := (X.blk s H scope ce fp).tr [] xe
theorem pe_lcE {X : Cx} {W : WX} {elt tg iter : Expr} {ifs : List Expr} {scope : Scope} {own : List (Str × Nat)} {pos : Pos} {wi : TI} {g : TG} {tt : TT} {te : WX → TE}
    (hst : X.stack = X.env :: X.outer) (hf : X.env.frame = some X.env.locals) (hcal : X.calm = true) (tk : Takes X W) (hN : X.N.Nodup) (hi : PI X tg iter wi) (ok : BlkOk X.N X.env.scope scope own)
    (hg : ∀ s H C cl fp xe, PG (bE X s H scope (compEnvC scope cl C X.env) fp xe) tg g)
    (ht : ∀ s H C cl fp xe, PTs (bE X s H scope (compEnvC scope cl C X.env) fp xe) ifs tt)
    (he : ∀ s H C cl fp xe W', Takes (bE X s H scope (compEnvC scope cl C X.env) fp xe) W' → PE (bE X s H scope (compEnvC scope cl C X.env) fp xe) elt (te W'))
    (hfold : ∀ x, foldedSetIterable iter X.env x = pure x := by intro _; rfl) :
    PE X (.ListComp elt [⟨tg, iter, ifs, 0⟩] scope pos) (fun σ H Q => tLc wi g tt (te fun cls d _ H' => W cls d σ H') (own.map (·.2)) σ H Q) := by
  refine ⟨fun pins s σ H Q I h => ?_⟩
  rw [eval_ListComp]
  have fr : ∀ y ∈ scope.names, y.2 = .free → ∃ c, X.env.cells.lookup y.1 = some c := fun y hy e => (ok.free y hy e).elim (fun k => I.ok.has _ (.inl k)) (fun k => I.ok.has _ (.inr k))
  refine comprehension_at (use := none) rfl hfold (closure_ok fr) ok.kind (fun y hy e => by rw [ok.uniq y hy, e]) (thn (hi.run pins s σ H _ I h) fun xv sa ha => thn ha fun itv sb hb => ?_)
  obtain ⟨it, fp, tn, J, Hb, rfl, Ib, T, stb, fb, q⟩ := hb
  refine wpAny_newObj_type (newEnv_comp ?_) (by show 0 ≤ sizeLine; decide)
  generalize hD : sb.heap.objs.size = D
  have fD : Hb D = none := Ib.hok.fresh (Nat.le_of_eq hD)
  obtain ⟨Wn, ⟨m0, w0⟩, turn⟩ := q D fD
  -- the list
  generalize hsc : ({ sb with heap := sb.heap.push { cls := .type "list", data := .seq ([] : List Value).toArray } } : Shared) = sc
  have Ic : Inv X pins σ (upd Hb D (.lst [])) sc := by
    subst hsc hD
    exact Ib.laid (t' := sb.toks) (fun b o e => Heap.get?_push_of_some _ e) (Nat.le_refl _) ⟨Nat.zero_le _, [], 0, .nil, Heap.get?_push_size _ rfl⟩
  have hc3 : sc.heap = sb.heap.push { cls := .type "list", data := .seq ([] : List Value).toArray } := by subst hsc; rfl
  have below : ∀ b ∈ fp, b < sb.heap.objs.size := fun b hb => (T.obj _ _ stb b hb).elim fun o e => Heap.lt_size e.1
  have fc : ∀ b ∈ fp, FpOk X pins (upd Hb D (.lst [])) b ∧ b < sc.heap.objs.size := fun b hb => by
    have lt := below b hb
    obtain ⟨z, r⟩ := fb b hb
    exact ⟨⟨by rw [upd_ne (by subst hD; exact Nat.ne_of_lt lt)]; exact z, r⟩, by rw [hc3, Heap.size_push]; exact Nat.lt_succ_of_lt lt⟩
  have stc : tn 0 sc.heap := T.keep _ _ _ stb fun b _ o e => by rw [hc3]; exact Heap.get?_push_of_some _ e
  have Id := block_start Ic ok hN fc
  show codeAny _ _ (.compStart (.ListComp elt [⟨tg, iter, ifs, 0⟩] scope pos) 0 (.ref it) (.ref D) (compEnvC scope (cellsFrom (sc.heap.objs.size + 1) scope.names (cloFrom X.env.cells scope.names [])) sc.heap.objs.size X.env)) (compEnds (model X.prog X.w) X.A X.xe none _ (.ref D) (compEnvC scope (cellsFrom (sc.heap.objs.size + 1) scope.names (cloFrom X.env.cells scope.names [])) sc.heap.objs.size X.env)) { sc with heap := pushCells (sc.heap.push { cls := .type "dict", data := .dict #[] }) scope.names }
  generalize hQf : (EP X pins σ Q : Value → Shared → Prop) = Qf
  have gg := fun xe => hg sc (upd Hb D (.lst [])) sc.heap.objs.size (cellsFrom (sc.heap.objs.size + 1) scope.names (cloFrom X.env.cells scope.names [])) fp xe
  have gt := fun xe => ht sc (upd Hb D (.lst [])) sc.heap.objs.size (cellsFrom (sc.heap.objs.size + 1) scope.names (cloFrom X.env.cells scope.names [])) fp xe
  have ge := fun xe W' => he sc (upd Hb D (.lst [])) sc.heap.objs.size (cellsFrom (sc.heap.objs.size + 1) scope.names (cloFrom X.env.cells scope.names [])) fp xe W'
  have nof : ∀ b ∈ fp, (upd Hb D (.lst [])) b = none := fun b hb => (fc b hb).1.1
  have cfr : (compEnvC scope (cellsFrom (sc.heap.objs.size + 1) scope.names (cloFrom X.env.cells scope.names [])) sc.heap.objs.size X.env).frame = X.env.frame := rfl
  have cL : (compEnvC scope (cellsFrom (sc.heap.objs.size + 1) scope.names (cloFrom X.env.cells scope.names [])) sc.heap.objs.size X.env).locals = sc.heap.objs.size := rfl
  generalize compEnvC scope (cellsFrom (sc.heap.objs.size + 1) scope.names (cloFrom X.env.cells scope.names [])) sc.heap.objs.size X.env = ce at Id gg gt ge cfr cL ⊢
  generalize upd Hb D (.lst []) = Hc at Ic Id gg gt ge w0 nof fc
  have tkb : Takes (bE X sc Hc scope ce fp (xeB X Qf D ce)) (fun cls d _ H' => W cls d σ H') := takes_blk Ic hst hf tk cfr (by rw [cL]; exact Heap.get?_none_of_le (Nat.le_refl _)) fc
  have pg := gg (xeB X Qf D ce)
  have pt := gt (xeB X Qf D ce)
  have pe := ge (xeB X Qf D ce) _ tkb
  have Ie : Inv (bE X sc Hc scope ce fp (xeB X Qf D ce)) [] (L2.wipe σ (own.map (·.2))) Hc { sc with heap := pushCells (sc.heap.push { cls := .type "dict", data := .dict #[] }) scope.names } := Id.toTry (xeB X Qf D ce)
  generalize hsd : ({ sc with heap := pushCells (sc.heap.push { cls := .type "dict", data := .dict #[] }) scope.names } : Shared) = sd at Ie ⊢
  have std : tn 0 sd.heap := T.keep _ _ _ stc fun b _ o e => by subst hsd; exact pushCells_keeps _ _ _ _ (Heap.get?_push_of_some _ e)
  have stat : ∀ {σ' : L2.St} {H' : Hp} {s' : Shared}, Inv (bE X sc Hc scope ce fp (xeB X Qf D ce)) [] σ' H' s' → (∀ b ∈ fp, H' b = none) → ∀ b ∈ fp, FpOk (bE X sc Hc scope ce fp (xeB X Qf D ce)) [] H' b := fun {σ' H' s'} I' hn b hb =>
    ⟨hn b hb, (I'.ok.exf b hb).1, I'.ok.exfs b hb, .inl hb, fun x c e => (I'.ok.exf b hb).2 x c e, fun p hp => nomatch (show p ∈ ([] : List (Addr × Obj)) ++ [] from hp)⟩
  have loop : codeAny (model X.prog X.w) X.A (.compLoop (.ListComp elt [⟨tg, iter, ifs, 0⟩] scope pos) 0 (.ref it) (.ref D) ce) (compEnds (model X.prog X.w) X.A X.xe none Qf (.ref D) ce) sd := by
    refine compLoop_any (fun n s' => ∃ i H', Inv (bE X sc Hc scope ce fp (xeB X Qf D ce)) [] (L2.wipe σ (own.map (·.2))) H' s' ∧ tn i s'.heap ∧ (∀ b ∈ fp, H' b = none) ∧ Wn i n H') ?_ m0 ⟨0, Hc, Ie, std, nof, w0⟩
    rintro n se ⟨i, He, Jf, ste, ne, we⟩
    rcases turn i n He we with ⟨stop, qq⟩ | ⟨go, Nx, hNx, step⟩
    · refine thnF (T.done (bE X sc Hc scope ce fp (xeB X Qf D ce)) rfl rfl rfl hcal i [] se _ He (fun _ _ => False) Jf (stat Jf ne) ste stop) fun r sg ⟨hr, Ig⟩ => ?_
      subst hr
      have Ih : Inv X pins σ He sg := Ic.call' (ch := fp) Ig.os Ig.base Ig.hok Ig.bare fun b hb => ⟨(fc b hb).1.2.2.2.1, (fc b hb).1.2.1, (fc b hb).1.2.2.2.2.1, (fc b hb).1.2.2.2.2.2⟩
      have nC : He sc.heap.objs.size = none := by
        have z : He ce.locals = none := Ig.free
        rwa [cL] at z
      obtain ⟨m, hn, _⟩ := Ig.loc
      have hn : sg.heap.Ns ce.locals m := hn
      obtain ⟨f0, f1, f2, f3, f4, f5⟩ := Ic.fpOk (Nat.le_refl _) nC
      refine ⟨m, hn, fun h'' sbt => ?_⟩
      rw [cL] at sbt
      rw [← hQf]
      exact ⟨.ref D, He, Ih.turned (t' := sg.toks) (fun b o hb e => (sbt.2 b hb).trans e) f0 f1 f3 f4 f5, rfl, qq⟩
    · refine thnF (T.item (bE X sc Hc scope ce fp (xeB X Qf D ce)) rfl rfl rfl hcal i [] se _ He (fun _ _ => False) Jf (stat Jf ne) ste go) fun r sg ⟨u, hr, h6⟩ => ?_
      subst hr
      refine thnF h6 fun _ sh ⟨x, Hh, Jh, rh, yh, sth, nh⟩ => ?_
      have Ji := Jh.pinned (stat Jh nh) (T.obj _ _ sth)
      refine thn (pg.run _ sh _ Hh x u _ Ji rh (step x Hh yh)) fun _ si ⟨σi, Hi, Ii, wi', qi⟩ => ?_
      refine thn (pt.run _ si σi Hi _ Ii qi) fun b sj ⟨Hj, Ij, qj⟩ => ?_
      have fin : ∀ {s' : Shared} {H' : Hp}, Inv (bE X sc Hc scope ce fp (xeB X Qf D ce)) ([] ++ pinsAt fp sh.heap) σi H' s' → Nx H' → ∃ m, m < n ∧ ∃ i H', Inv (bE X sc Hc scope ce fp (xeB X Qf D ce)) [] (L2.wipe σ (own.map (·.2))) H' s' ∧ tn i s'.heap ∧ (∀ b ∈ fp, H' b = none) ∧ Wn i m H' := fun {s' H'} I' nx => by
        obtain ⟨m', hm, w'⟩ := hNx H' nx
        have kept : ∀ b ∈ fp, ∀ o, sh.heap.get? b = some o → s'.heap.get? b = some o ∧ H' b = none := fun b hb o e =>
          have z := I'.pin (b, o) (List.mem_append_right _ (List.mem_append_right _ (mem_pinsAt hb e)))
          ⟨z.1, z.2.1⟩
        refine ⟨m', hm, i + 1, H', (I'.unpinned (pins := [])).weak (by rw [← wi', L2.wipe_length]) (fun j v e => ?_), T.keep _ _ _ sth fun b hb o e => (kept b hb o e).1, fun b hb => ?_, w'⟩
        · rw [← wi'] at e
          exact (wipe_some e).1
        · obtain ⟨o, e, _⟩ := T.obj _ _ sth b hb
          exact (kept b hb o e).2
      cases b with
      | false =>
        simp only [Bool.false_eq_true, if_false] at qj ⊢
        exact fin Ij qj
      | true =>
        simp only [if_true] at qj ⊢
        refine thn (pe.run _ sj σi Hj _ Ij qj) fun z sk ⟨yv, Hk, Ik, rk, acc, eD, hz, nx⟩ => ?_
        exact app_ok (X := bE X sc Hc scope ce fp (xeB X Qf D ce)) Ik eD hz rk fun sl Il => fin Il nx
  exact codeAny_compStart_list loop (T.self X.A 0 _ _ _ std loop)
/-- [e for ..], an error of e is the whole's -/
def lcLE (t : Tg) (gt : GT) (ge : GE) (δ : Sl) : List P → List P → Rn Unit (List P)
  | [], acc => .ok acc
  | x :: xs, acc => match t.set (.p x) δ with
    | some δ1 => (gt δ1).noErr.bind fun k => if k = true then (ge δ1).bind fun r => match r.d with
        | .p y => if acc.length < sizeLine then lcLE t gt ge δ xs (acc ++ [y]) else .bad
        | _ => .bad
      else lcLE t gt ge δ xs acc
    | none => .bad
def gLcE (t : Tg) (vs : List Nat) (gi : GI) (gt : GT) (ge : GE) : GE := fun δ => (gi δ).bind fun xs => (lcLE t gt ge (wipeS δ vs) xs []).bind fun ys => .ok (.own (.lst ys))
section
variable {W : WX} {X : Cx} {e elt tg iter : Expr} {ifs : List Expr} {gi : GI} {gt : GT} {ge : GE} {scope : Scope} {own : List (Str × Nat)} {pos : Pos}
theorem lc_ofE2 {t : Tg} {vs : List Nat} (hcal : X.calm = true) (ht : ∀ i ∈ t.idx, i ∈ vs) (σ : L2.St) (H : Hp) (Q : VK) (h : tD (dc X W) (gLcE t vs gi gt ge) σ H Q) :
    tLc (tDI2 (dc X W) gi) (t.g X.K) (tDT (dc0 X) gt) (tD ⟨X.K, X.mg, fun cls d _ H' => W cls d σ H', none⟩ ge) vs σ H Q := by
  rw [dc_calm hcal] at h ⊢
  obtain ⟨B, Rg, δ, S0, w⟩ := h
  refine ⟨B, Rg, δ, S0, Rn.wp_mono (Rn.wp_bind.mp w) (fun xs q J H1 s1 wk => ?_) fun _ _ q => q⟩
  intro Dp hD
  obtain ⟨G, hG, hR⟩ := wk.ex
  have S1 := S0.grow s1
  have S2 := S1.wipe vs
  have c1 : cutH H1 Dp = H1 := by
    funext b
    unfold cutH
    split
    · rename_i z; subst z; exact hD.symm
    · rfl
  refine ⟨fun i m H' => m = xs.length - i ∧ i ≤ xs.length ∧ ∃ acc vacc, H' Dp = some (.lst vacc) ∧ RepPs X.K H' acc vacc ∧ Same H1 (cutH H' Dp) ∧ SRel X.K B Rg (L2.wipe σ vs) (cutH H' Dp) (wipeS δ vs) ∧
    ((lcLE t gt ge (wipeS δ vs) (xs.drop i) acc).bind fun ys => .ok (.own (.lst ys))).wp (fun r => ∀ v H', Same H H' → RepR X.K H H' r v → Q v H') (fun cl _ => ∀ C H', X.mg cl = some (.ref C) → Same H H' → W (.ref C) none σ H'),
    ⟨xs.length, by simp, Nat.zero_le _, [], [], upd_same, rfl, by rw [cutH_upd, c1]; exact Same.refl _, by rw [cutH_upd, c1]; exact S2, by simpa using q⟩, ?_⟩
  rintro i m H2 ⟨rfl, hi, acc, vacc, eD, ra, sm, S3, w3⟩
  have S4 := S3.grow (cutH_same H2 Dp)
  have s02 : Same H H2 := s1.trans (sm.trans (cutH_same H2 Dp))
  obtain ⟨r1, r2⟩ := hR H2 (hG.trans (sm.trans (cutH_same H2 Dp))) i
  by_cases hlt : i < xs.length
  · have ep := List.getElem?_eq_getElem hlt
    obtain ⟨go, yl⟩ := r1 _ ep
    rw [List.drop_eq_getElem_cons hlt] at w3
    refine .inr ⟨go, fun H' => ∃ acc vacc, H' Dp = some (.lst vacc) ∧ RepPs X.K H' acc vacc ∧ Same H1 (cutH H' Dp) ∧ SRel X.K B Rg (L2.wipe σ vs) (cutH H' Dp) (wipeS δ vs) ∧
      ((lcLE t gt ge (wipeS δ vs) (xs.drop (i + 1)) acc).bind fun ys => .ok (.own (.lst ys))).wp (fun r => ∀ v H', Same H H' → RepR X.K H H' r v → Q v H') (fun cl _ => ∀ C H', X.mg cl = some (.ref C) → Same H H' → W (.ref C) none σ H'),
      fun H' q => ⟨xs.length - (i + 1), by omega, rfl, hlt, q⟩, fun x H3 y => ?_⟩
    obtain ⟨s3, rp⟩ := yl x H3 y
    unfold lcLE at w3
    split at w3
    · rename_i δ1 e1
      have gw := Tg.ok (K := X.K) (t := t) (d := .p xs[i]) (v := x) (gp := []) (Q := fun σ' H' => H' = H3 ∧ SRel X.K B Rg σ' H3 δ1) S4 s3 ⟨rp, rfl⟩ List.nodup_nil (fun _ z => nomatch z) e1 fun σ' S5 => ⟨rfl, S5⟩
      have gw2 := Tg.g_wipe (vs := vs) ht gw
      refine Tg.g_mono (fun σ2 H2' ⟨ew, eh, S5⟩ => ?_) gw2
      subst eh
      refine ⟨by rw [ew, wipe_wipe], ?_⟩
      refine ⟨B, Rg, δ1, S5, Rn.wp_noErr (Rn.wp_mono (Rn.wp_bind.mp (Rn.wp_bind.mp w3)) (fun k q H4 s4 => ?_) fun _ _ q => q)⟩
      have S6 := S5.grow s4
      have s24 := s3.trans s4
      have eD4 : H4 Dp = some (.lst vacc) := s24 _ _ eD
      have smm : Same H1 (cutH H4 Dp) := sm.trans (cutH_mono s24 Dp)
      dsimp only
      cases k with
      | false =>
        rw [if_neg (by decide)] at q ⊢
        exact ⟨acc, vacc, eD4, RepPs.kt (Same.kt s24) _ _ ra, smm, S3.grow (cutH_mono s24 Dp), Rn.wp_bind.mpr q⟩
      | true =>
        rw [if_pos rfl] at q ⊢
        refine ⟨B, Rg, δ1, S6, Rn.wp_mono (Rn.wp_bind.mp q) (fun r q v H5 s5 rv => ?_) fun cl _ e C H' hm sm' => e C H' hm ((s02.trans s24).trans sm')⟩
        have s25 := s24.trans s5
        split at q
        · rename_i y ey
          split at q
          · rename_i hz
            have ry := rv.getP ey
            have ra5 := RepPs.kt (Same.kt s25) _ _ ra
            have kt5 : KT H5 (upd H5 Dp (.lst (vacc ++ [v]))) := KT.upd (s25 _ _ eD) trivial
            refine ⟨vacc, s25 _ _ eD, by rw [ra.len]; exact hz, acc ++ [y], vacc ++ [v], upd_same, RepPs.kt kt5 _ _ (RepPs.append (show RepPs X.K H5 [y] [v] from ⟨v, [], rfl, ry, rfl⟩) ra5), ?_, ?_, Rn.wp_bind.mpr q⟩
            · rw [cutH_upd]; exact sm.trans (cutH_mono s25 Dp)
            · rw [cutH_upd]; exact S3.grow (cutH_mono s25 Dp)
          · exact q.elim
        · exact q.elim
    · exact w3.elim
  · have hn : xs.length ≤ i := by omega
    rw [List.drop_eq_nil_of_le hn] at w3
    refine .inl ⟨r2 hn, w3 (.ref Dp) H2 s02 ⟨[Dp], ⟨Dp, vacc, rfl, eD, rfl, ra⟩, by simp, fun b hb => ?_⟩⟩
    obtain rfl : b = Dp := by simpa using hb
    exact s1.free hD
theorem de_lcE {t : Tg} (hst : X.stack = X.env :: X.outer) (hf : X.env.frame = some X.env.locals) (hcal : X.calm = true) (tk : Takes X W) (hN : X.N.Nodup) (hi : DI2 W X tg iter gi) (ok : BlkOk X.N X.env.scope scope own)
    (hg : ∀ s H C cl fp xe, PG (bE X s H scope (compEnvC scope cl C X.env) fp xe) tg (t.g X.K))
    (ht : ∀ s H C cl fp xe, DTs W0 (bE X s H scope (compEnvC scope cl C X.env) fp xe) ifs gt)
    (he : ∀ s H C cl fp xe W', Takes (bE X s H scope (compEnvC scope cl C X.env) fp xe) W' → DE W' (bE X s H scope (compEnvC scope cl C X.env) fp xe) elt ge)
    (hx : ∀ i ∈ t.idx, i ∈ own.map (·.2) := by decide) (hfold : ∀ x, foldedSetIterable iter X.env x = pure x := by intro _; rfl) :
    DE W X (.ListComp elt [⟨tg, iter, ifs, 0⟩] scope pos) (gLcE t (own.map (·.2)) gi gt ge) :=
  PE.imp (pe_lcE (tt := tDT (dc0 X) gt) (te := fun W' => tD ⟨X.K, X.mg, W', none⟩ ge) hst hf hcal tk hN hi ok hg (fun s H C cl fp xe => by
    have := ht s H C cl fp xe
    unfold DTs at this
    rwa [dc_calm (X := bE X s H scope (compEnvC scope cl C X.env) fp xe) hcal] at this) (fun s H C cl fp xe W' h => by
    have := he s H C cl fp xe W' h
    unfold DE at this
    rwa [dc_calm (X := bE X s H scope (compEnvC scope cl C X.env) fp xe) hcal] at this) hfold) (lc_ofE2 hcal hx)
end
end DL
/-! DLzl: a tuple that may be one of written texts: x not in ('a', ..). -/
namespace DL
open PySem PySem.Spec PyProof.Rows L2
def P.isS : P → Bool
  | .str _ => true
  | _ => false
def fNiT : D → D → Rn Unit Bool
  | .p (.tup _), .p (.tup xs) => if xs.all P.isS = true then .ok true else .bad
  | x, y => fIn true x y
def rNiT (K : PySem.W.Frag) : R2 := fun x y H Q => ∃ a ws p vs, x = .ref a ∧ SqT K H a ws ∧ y = .ref p ∧ SqT K H p vs ∧ (∀ w ∈ vs, ∃ z, w = V.str z) ∧ Q (.bl true) H
theorem op_niT {X : Cx} (hu : X.A.units + 1 < cLine) : OpR X (compareOp .NotIn) (rNiT X.K) := by
  intro pins s σ H x y v u Q I rx ry ⟨a, ws, p, vs, ex, ha, ey, hp, hs, q⟩
  subst ex ey
  cases rx
  cases ry
  obtain ⟨its, r, pl, _⟩ := I.tuple ha
  obtain ⟨jts, r2, pl2, _⟩ := I.tuple hp
  refine SeqAt.notIn_tupleAt (fun _ => false) pl2 (fun w hw => ?_) ⟨.bl _, H, I, rfl, ?_⟩
  · obtain ⟨z, hz1, hz2⟩ := vals_mem r2 w (by simpa using hw)
    obtain ⟨t, rfl⟩ := hs z hz1
    obtain ⟨k, rfl⟩ := hz2
    exact SeqAt.EqAt.str_tuple _ _ pl hu
  · rw [show (jts.toArray.any fun _ => false) = false by simp]
    exact q
theorem og_niT {K : PySem.W.Frag} : OpG K (fun x y H Q => rNiT K x y H Q ∨ rNiA K x y H Q) (fB fNiT) := by
  intro H x y v u fx fy Q E rx ry h
  by_cases c : ∃ ys xs, x = .p (.tup ys) ∧ y = .p (.tup xs)
  · obtain ⟨ys, xs, rfl, rfl⟩ := c
    have h' := Rn.wp_bind.mp h
    unfold fNiT at h'
    dsimp only at h'
    split at h'
    · rename_i hf
      obtain ⟨⟨a, ws, rfl, qa, _⟩, _⟩ := rx
      obtain ⟨⟨p, vs, rfl, qp, rp⟩, _⟩ := ry
      refine .inl ⟨a, ws, p, vs, rfl, qa, rfl, qp, ?_, RepP.up h' rfl⟩
      clear h h' qp
      induction xs generalizing vs with
      | nil => obtain rfl : vs = [] := rp; simp
      | cons x xs ih =>
        obtain ⟨w, r, rfl, h1, h2⟩ := rp
        simp only [List.all_cons, Bool.and_eq_true] at hf
        intro z hz
        rcases List.mem_cons.mp hz with rfl | hz
        · cases x with
          | str t => exact ⟨t, h1⟩
          | _ => exact absurd (show false = true from hf.1) Bool.false_ne_true
        · exact ih hf.2 r h2 z hz
    · exact h'.elim
  · refine .inr (og_ni H x y v u fx fy Q E rx ry ?_)
    have e : fB fNiT x y = fB (fIn true) x y := by
      unfold fB
      congr 1
      unfold fNiT
      split
      · rename_i ys xs
        exact absurd ⟨_, _, rfl, rfl⟩ c
      · rfl
    rw [← e]
    exact h
theorem op_niTA {X : Cx} (hu : X.A.units + 1 < cLine) : OpR X (compareOp .NotIn) (fun x y H Q => rNiT X.K x y H Q ∨ rNiA X.K x y H Q) := (op_niT hu).or (op_niA hu)
end DL
set_option maxHeartbeats 4000000
/-! DLzm: T.get(k, z) of a dict of the top; [f, g, ..][i](). -/
namespace DL
open PySem PySem.Spec PyProof.Rows L2
def gGetT (tab : List (Str × P)) (ge gf : GE) : GE := fun δ => (ge δ).bind fun x => (gf δ).bind fun z => match x.d, z.d with
  | .p (.str k), .p z => .ok (.own (.p ((tab.lookup k).getD z)))
  | _, _ => .bad
section
variable {W : WX} {X : Cx} {b c : Expr} {gb gc : GE} {ty tx : TE} {pos p apos : Pos}
def tKG (K : PySem.W.Frag) (d : Addr) (ty tx : TE) : TE := fun σ H Q => ty σ H fun y H2 => tx σ H2 fun z H3 => ∃ (t : Str) (r : Option Value) (v0 : V), y = .str t ∧ PySem.W.nsIn K d t = some r ∧ (match r with
  | some u0 => RelV v0 u0
  | none => v0 = z) ∧ Q v0 H3
theorem pe_kget2 {x : Str} {d : Addr} {es : Array DictEntry} {n : Nat} (D : KDict X.K X.w d es n) (hm : X.mg x = some (.ref d)) (he : PE X b ty) (hf : PE X c tx) (m : M2 X (.Name x p) "get" apos b c pos) (hg : Gl X x) (hdb : (x == ("__debug__" : Str)) = false) :
    PE X (.Call (.Attribute (.Name x p) "get" apos) [b, c] [] pos) (tKG X.K d ty tx) := by
  refine ⟨fun pins s σ H Q I h => ?_⟩
  refine wpAny_Call_method m.base m.few m.line PySem.F.plainAttrs_dict PySem.F.slot_dict_get PySem.F.type_dict_get (thn ((pe_glob (v := .ref d) hg hm rfl hdb).run pins s σ H (fun x H1 => x = .ref d ∧ tKG X.K d ty tx σ H1 Q) I ⟨rfl, h⟩) fun u s1 ⟨x, H1, I1, rx, ex, q1⟩ => ?_)
  subst ex
  cases rx
  refine ⟨kd_type D I1, fun b e => by cases e; exact ⟨_, I1.kIn _ _ D.at_, rfl⟩, ?_⟩
  rw [m.trees]
  refine Calls.callWith_builtin rfl (Calls.evalArgs_plain (Calls.spliced_cons (thn (he.run pins s1 σ H1 _ I1 q1) fun iv s2 ⟨y, H2, I2, ry, q2⟩ =>
    Calls.spliced_cons (thn (hf.run pins s2 σ H2 _ I2 q2) fun fv s3 hz => Calls.spliced_nil ?_))))
  obtain ⟨z, H3, I3, rz, t, r, v0, ey, en, er, q3⟩ := hz
  subst ey
  obtain ⟨tk, rfl⟩ := ry
  refine call_meetsIn PySem.F.slot_dict_get (kd_type D I3) PySem.F.entry_dict_get (PySem.F.args_dict_get_3 _ _ _) (meets_dict_get_default (PySem.strKind X.prog X.w) d (PySem.strKind_is X.prog X.w t tk) D.low fv) ⟨_, PySem.W.mapOf_K I3.kIn D.at_ D.lit, ?_⟩
  rw [PySem.W.find_K D.at_ en]
  cases r with
  | some u0 => exact ⟨v0, H3, I3.tok _, er, q3⟩
  | none =>
    have er : v0 = z := er
    subst er
    exact ⟨_, H3, I3.tok _, rz, q3⟩
theorem de_getT {x : Str} {tab : List (Str × P)} (T : DictT X.K X.w X.mg x tab) (he : DE W X b gb) (hf : DE W X c gc) (m : M2 X (.Name x p) "get" apos b c pos) (hg : Gl X x := by rfl) (hd : (x == ("__debug__" : Str)) = false := by decide) :
    DE W X (.Call (.Attribute (.Name x p) "get" apos) [b, c] [] pos) (gGetT tab gb gc) := by
  obtain ⟨d, es, n, e, kd, en⟩ := T.ex
  refine PE.imp (pe_kget2 kd e he hf m hg hd) fun σ H Q ⟨B, Rg, δ, S0, w⟩ => ?_
  refine tD_val S0 w fun r1 v1 H1 s1 rv1 S1 w1 => ?_
  refine tD_val S1 w1 fun r2 v2 H2 s2 rv2 S2 w2 => ?_
  split at w2
  · rename_i k z ek ez
    have rv1' := (rv1.grow s2).getP ek
    obtain rfl : v1 = .str k := rv1'
    have r2 := rv2.getP ez
    have ns := DictT.ns kd en k
    split at ns
    · rename_i q eq
      obtain ⟨u, h1, h2⟩ := ns
      obtain ⟨v, rv, rp⟩ := h2.ok
      refine ⟨k, some u, v, rfl, h1, rv, ?_⟩
      rw [eq] at w2
      exact RepP.up w2 (rp _)
    · rename_i eq
      refine ⟨k, none, v2, rfl, ns, rfl, ?_⟩
      rw [eq] at w2
      exact RepP.up w2 r2
  · exact w2.elim
end
/-! ### one of a list of defs, called -/
def gSel (fs : List Fn) (ge : GE) : GE := fun δ => (ge δ).bind fun r => match r.d with
  | .p (.int k) => if 0 ≤ k then (match fs[k.toNat]? with
    | some f => (f []).bind fun d => .ok (.own d)
    | none => .bad) else .bad
  | _ => .bad
section
variable {W : WX} {X : Cx} {b : Expr} {gb : GE} {pos lp spos : Pos} {k : Nat}
/-- a def's name's object -/
def FA (X : Cx) (k : Nat) (f : Fn) (a : Addr) : Prop := ∃ (fd : FuncData) (ps : List Str), PySem.W.keepIn X.K (.ref a) = true ∧ Binds X.K fd ps [] ∧ FnOk X.prog X.w X.K X.mg X.base (L2.CX X.prog X.w) k a fd ps (spD X.K X.mg 0 f)
def tNames (as : List Addr) : TA := fun _ H Q => Q (as.map V.ref) H
theorem pa_names : ∀ (l : List (Str × Pos × Fn)), (∀ q ∈ l, FD X.prog X.w X.K X.mg X.base k q.1 0 q.2.2 ∧ Gl X q.1 ∧ (q.1 == ("__debug__" : Str)) = false) → ∃ as : List Addr, PA X (l.map fun q => Expr.Name q.1 q.2.1) (tNames as) ∧ as.length = l.length ∧ ∀ (i : Nat) (f : Fn), (l.map fun q => q.2.2)[i]? = some f → ∃ a, as[i]? = some a ∧ FA X k f a
  | [], _ => ⟨[], pa_nil, rfl, fun i f e => by simp at e⟩
  | q :: l, h => by
    obtain ⟨as, h1, h2, h3⟩ := pa_names l fun x hx => h x (List.mem_cons_of_mem _ hx)
    obtain ⟨F, hg, hd⟩ := h q (List.mem_cons_self ..)
    obtain ⟨a, fd, ps, hm, hk, hb, G⟩ := F.ex
    refine ⟨a :: as, pa_cons (pe_glob (v := .ref a) hg hm rfl hd) h1, by simp [h2], fun i f e => ?_⟩
    cases i with
    | zero =>
      have e : q.2.2 = f := by simpa using e
      subst e
      exact ⟨a, rfl, fd, ps, hk, hb, G⟩
    | succ i => exact h3 i f (by simpa using e)
theorem de_callSel (l : List (Str × Pos × Fn)) (hl : ∀ q ∈ l, FD X.prog X.w X.K X.mg X.base k q.1 0 q.2.2 ∧ Gl X q.1 ∧ (q.1 == ("__debug__" : Str)) = false) (hn : l.length ≤ 100) (hr : Room k X.A) (tk : Takes X W) (hb : DE W X b gb) (hs : PlainIx b := by exact fun _ _ => rfl)
    (he : eval (.Call (.Subscript (.List (l.map fun q => Expr.Name q.1 q.2.1) lp) b spos) [] [] pos) X.env = (do callWith pos (← eval (.Subscript (.List (l.map fun q => Expr.Name q.1 q.2.1) lp) b spos) X.env) [] (backTo pos (starEach [] X.env)) (backToKw pos (keywordEach [] X.env))) := by rfl) :
    DE W X (.Call (.Subscript (.List (l.map fun q => Expr.Name q.1 q.2.1) lp) b spos) [] [] pos) (gSel (l.map fun q => q.2.2) gb) := by
  obtain ⟨as, hpa, hln, hfa⟩ := pa_names l hl
  refine ⟨fun pins s σ H Q I h => ?_⟩
  obtain ⟨B, Rg, δ, S0, w⟩ := h
  refine Call_ (thn ((pe_ix ix_list (pe_lst hpa) hb hs).run pins s σ H (fun x H2 => ∃ a fd ps f, x = .ref a ∧ PySem.W.keepIn X.K (.ref a) = true ∧ Binds X.K fd ps [] ∧ FnOk X.prog X.w X.K X.mg X.base (L2.CX X.prog X.w) k a fd ps (spD X.K X.mg 0 f) ∧ spD X.K X.mg 0 f [] H2 Q (WE W σ)) I ?_) fun u s1 ⟨x, H1, I1, rx, q⟩ => ?_) he
  · refine ⟨by rw [List.length_map, hln, sizeLine_eq]; omega, fun p hp => ?_⟩
    have sm : Same H (upd H p (.lst (as.map V.ref))) := Same.new hp
    refine ⟨B, Rg, δ, S0.grow sm, Rn.wp_mono (Rn.wp_bind.mp w) (fun r q v H2 s2 rv => ?_) fun cl _ e C H' hm s' => e C H' hm (sm.trans s')⟩
    split at q
    · rename_i i ei
      split at q
      · rename_i h0
        split at q
        · rename_i f ef
          obtain ⟨a, ea, fd, ps, hk, hbd, G⟩ := hfa _ f ef
          obtain rfl : v = .int i := rv.getP ei
          have s02 : Same H H2 := sm.trans s2
          refine ⟨p, as.map V.ref, i, .ref a, rfl, rfl, SqL.of (s2 _ _ upd_same), ?_, a, fd, ps, f, rfl, hk, hbd, G, [], rfl, rfl, Rn.wp_mono (Rn.wp_bind.mp q) (fun d q v H3 s3 ⟨fp, q1, n1, f1⟩ => q v H3 (s02.trans s3) ⟨fp, q1, n1, fun a ha => s02.free (f1 a ha)⟩) fun cl _ e C H' hm s' => e C H' hm (s02.trans s')⟩
          have hlt : i.toNat < as.length := (List.getElem?_eq_some_iff.mp ea).1
          unfold atI ixN
          rw [if_pos h0, if_pos (by rw [List.length_map]; omega)]
          simp [ea]
        · exact q.elim
      · exact q.elim
    · exact q.elim
  · obtain ⟨a, fd, ps, f, ex, hk, hbd, G, sp⟩ := q
    subst ex
    cases rx
    exact PySem.W.callWith_K0 I1.kIn hk (run_fnS (us := []) (E := WE W) G hr hbd (passAt tk σ) I1 .nil sp)
end
section
variable {W : WX} {X : Cx} {b : Expr} {gb : GE} {pos lp spos : Pos} {k k0 k1 k2 k3 : Nat}
theorem de_callSel4 {x0 x1 x2 x3 : Str} {p0 p1 p2 p3 : Pos} {f0 f1 f2 f3 : Fn} (F0 : FD X.prog X.w X.K X.mg X.base k0 x0 0 f0) (F1 : FD X.prog X.w X.K X.mg X.base k1 x1 0 f1) (F2 : FD X.prog X.w X.K X.mg X.base k2 x2 0 f2) (F3 : FD X.prog X.w X.K X.mg X.base k3 x3 0 f3) (hr : Room k X.A) (tk : Takes X W) (hb : DE W X b gb)
    (h0 : k0 ≤ k := by decide) (h1 : k1 ≤ k := by decide) (h2 : k2 ≤ k := by decide) (h3 : k3 ≤ k := by decide)
    (g0 : Gl X x0 := by rfl) (g1 : Gl X x1 := by rfl) (g2 : Gl X x2 := by rfl) (g3 : Gl X x3 := by rfl) (d0 : (x0 == ("__debug__" : Str)) = false := by decide) (d1 : (x1 == ("__debug__" : Str)) = false := by decide) (d2 : (x2 == ("__debug__" : Str)) = false := by decide) (d3 : (x3 == ("__debug__" : Str)) = false := by decide)
    (hs : PlainIx b := by exact fun _ _ => rfl) :
    DE W X (.Call (.Subscript (.List [.Name x0 p0, .Name x1 p1, .Name x2 p2, .Name x3 p3] lp) b spos) [] [] pos) (gSel [f0, f1, f2, f3] gb) :=
  de_callSel (k := k) [(x0, p0, f0), (x1, p1, f1), (x2, p2, f2), (x3, p3, f3)] (fun q hq => by
    simp only [List.mem_cons, List.not_mem_nil, or_false] at hq
    rcases hq with rfl | rfl | rfl | rfl
    · exact ⟨F0.mono h0, g0, d0⟩
    · exact ⟨F1.mono h1, g1, d1⟩
    · exact ⟨F2.mono h2, g2, d2⟩
    · exact ⟨F3.mono h3, g3, d3⟩) (show (4 : Nat) ≤ 100 by decide) hr tk hb hs rfl
end
/-- another name of a def -/
structure DefA (K : PySem.W.Frag) (mg : Str → Option Value) (x y : Str) (st : Stmt) (ps : List Str) : Prop where
  ex : ∃ (a : Addr) (fd : FuncData), mg x = some (.ref a) ∧ Fun K y y st a fd ∧ Binds K fd ps []
theorem fd_ofA {P : Program} {w : World} {K : PySem.W.Frag} {mg : Str → Option Value} {base : Heap} {x y : Str} {st : Stmt} {ps : List Str} {k : Nat} {f : Fn} (T : DefA K mg x y st ps) (h : ∀ (a : Addr) (fd : FuncData), Fun K y y st a fd → FnOk P w K mg base (L2.CX P w) k a fd ps (spD K mg ps.length f)) : FD P w K mg base k x ps.length f := by
  obtain ⟨a, fd, e, F, b⟩ := T.ex
  exact ⟨a, fd, ps, e, F.2, b, h a fd F⟩
/-! ### for cell in script -/
theorem Walk.scr {K : PySem.W.Frag} {H H0 : Hp} {a : Addr} {ns : List Int} (h : (∃ o, H a = some (.frz o (.lst (ns.map V.int)))) ∨ ∃ (o : Obj) (its : Array Value) (n : Nat), K.lookup a = some o ∧ o.cls = .type "list" ∧ o.dict = none ∧ o.data = .seq its n ∧ its.size ≤ sizeLine ∧ Vals (ns.map V.int) its.toList) : Walk K H0 H (Itl K a) (ns.map P.int) := by
  refine ⟨tupG H, tupG_same H, fun b hb => .inr (tupG_rd hb), fun H' s i => ?_⟩
  have ha : SqL K H' a (ns.map V.int) := by
    rcases h with ⟨o, e⟩ | h
    · exact .inl (.inr ⟨o, s a _ (by unfold tupG; rw [e])⟩)
    · exact .inr h
  refine ⟨fun p ep => ?_, fun hi => ⟨_, ha, by simpa using hi⟩⟩
  rw [List.getElem?_map] at ep
  obtain ⟨n, en, rfl⟩ := Option.map_eq_some_iff.mp ep
  have ev : (ns.map V.int)[i]? = some (V.int n) := by rw [List.getElem?_map, en]; rfl
  refine ⟨⟨_, .int n, ha, ev⟩, fun x H'' y => ?_⟩
  obtain ⟨rfl, y⟩ := y
  have e := y _ ha
  rw [e] at ev
  obtain rfl := Option.some.inj ev
  exact ⟨Same.refl _, rfl⟩
def gScr (ga : GE) : GI := fun δ => (ga δ).bind fun r => match r.d with
  | .scr ns => .ok (ns.map P.int)
  | _ => .bad
theorem di_scr {W : WX} {X : Cx} {tg e : Expr} {ga : GE} (ha : DE W X e ga) : DI W X tg e (gScr ga) := by
  refine PI.imp (pi_seq ha) fun σ H Rk ⟨B, Rg, δ, S0, w⟩ => ?_
  refine ⟨B, Rg, δ, S0, Rn.wp_mono (Rn.wp_bind.mp w) (fun r q v H1 s1 rv => ?_) fun _ _ q => q⟩
  split at q
  · rename_i ns er
    obtain ⟨fp, q1⟩ := rv.look
    rw [er] at q1
    obtain ⟨_, a, rfl, hh⟩ := q1
    exact .inl ⟨a, rfl, ⟨ns.map V.int, hh.elim (fun ⟨o, z⟩ => .inl (.inr ⟨o, z⟩)) .inr⟩, q _ H1 s1 (.scr hh)⟩
  · exact q.elim
end DL
set_option maxHeartbeats 4000000
/-! DLzn: a text times any small number. -/
namespace DL
open PySem PySem.Spec PyProof.Rows L2
def mulW (x : Str) (k : Int) : Str := if k < 1 then Str.empty else if (k == 1 || x.length == 0) = true then x else ⟨(List.replicate k.toNat x.cps).foldl (· ++ ·) #[]⟩
def fMulV : D → D → Rn Unit R
  | .p (.str x), .p (.int k) => if -1000 ≤ k ∧ k ≤ 1000 ∧ x.length ≤ 1000 then .ok (.own (.p (.str (mulW x k)))) else .bad
  | x, y => fMul x y
def rMulV : R2 := fun x y H Q => ∃ z k, x = .str z ∧ y = .int k ∧ (-1000 ≤ k ∧ k ≤ 1000 ∧ z.length ≤ 1000) ∧ Q (.str (mulW z k)) H
section
variable {W : WX} {X : Cx} {a b : Expr} {ga gb : GE} {pos : Pos}
theorem op_mulV : OpR X (binaryOp .Mult) rMulV := by
  intro pins s σ H x y v u Q I rx ry h
  obtain ⟨z, k, rfl, rfl, ⟨h1, h2, h4⟩, q⟩ := h
  obtain ⟨t, rfl⟩ := rx
  obtain ⟨t2, rfl⟩ := ry
  refine PySem.P.mul_str ?_ (fun e1 e2 => ?_) (fun e1 e2 => ?_) ?_
  · rw [decide_eq_false (by omega), decide_eq_false (by omega)]; rfl
  · have : (1000 : Int) ≤ (2 ^ 63 - 1) / k := (Int.le_ediv_iff_mul_le (by omega)).mpr (by omega)
    omega
  · have : z.length * k.toNat ≤ 1000 * 1000 := Nat.mul_le_mul h4 (by omega)
    generalize z.length * k.toNat = T at *
    show decide _ = false
    have hs := sizeLine_eq
    exact decide_eq_false (by omega)
  · unfold mulW at q
    by_cases e1 : k < 1
    · rw [if_pos e1] at q ⊢
      exact ⟨by decide, .str _, H, I.tok _, ⟨_, rfl⟩, q⟩
    · rw [if_neg e1] at q ⊢
      by_cases e2 : (k == 1 || z.length == 0) = true
      · rw [if_pos e2] at q ⊢
        exact ⟨.str _, H, I, ⟨_, rfl⟩, q⟩
      · rw [if_neg e2] at q ⊢
        have hz : (⟨(List.replicate k.toNat z.cps).foldl (· ++ ·) #[]⟩ : Str).length ≤ sizeLine := by
          have e := fold_size z.cps k.toNat #[]
          have : k.toNat * z.cps.size ≤ 1000 * 1000 := Nat.mul_le_mul (by omega) h4
          have hs := sizeLine_eq
          show ((List.replicate k.toNat z.cps).foldl (· ++ ·) #[]).size ≤ sizeLine
          rw [e]
          generalize k.toNat * z.cps.size = T at *
          simp
          omega
        exact ⟨hz, .str _, H, I.tok _, ⟨_, rfl⟩, q⟩
theorem og_mulV {K : PySem.W.Frag} : OpG K (fun x y H Q => rMulV x y H Q ∨ rRep x y H Q ∨ rI CMulW (fun i j => .int (i * j)) x y H Q) fMulV := by
  intro H x y v u fx fy Q E rx ry h
  unfold fMulV at h
  split at h
  · rename_i z k
    obtain rfl : v = .str z := rx.1
    obtain rfl : u = .int k := ry.1
    split at h
    · rename_i hz
      exact .inl ⟨z, k, rfl, rfl, hz, RepP.up h rfl⟩
    · exact h.elim
  · exact .inr (og_mul H x y v u fx fy Q E rx ry h)
theorem de_mulV (ha : DE W X a ga) (hb : DE W X b gb) : DE W X (.BinOp a .Mult b pos) (gOp2 fMulV ga gb) := de_op2 (op_mulV.or op_mulA) og_mulV ha hb
end
end DL
set_option maxHeartbeats 4000000
namespace Lw
open PySem PySem.Spec PyProof.Rows L2 DL
def topS (i : Nat) : Stmt := PySem.Challenge.pw_tensorworks_k81_both_sides_of_each_bound.main.body.getD i (.Pass ⟨0, 0, 0, 0⟩)
abbrev s_check_machine : Stmt := topS 23
abbrev n_check_machine : List Str := ["machine", "k"]
theorem sc_check_machine : FnScope n_check_machine ["machine"] (defScope s_check_machine) := ⟨rfl, rfl, rfl, by decide +kernel, rfl, by decide +kernel, by decide +kernel⟩
abbrev s_check_skip : Stmt := topS 34
abbrev n_check_skip : List Str := ["code", "at", "depth", "k"]
theorem sc_check_skip : FnScope n_check_skip ["code", "at"] (defScope s_check_skip) := ⟨rfl, rfl, rfl, by decide +kernel, rfl, by decide +kernel, by decide +kernel⟩
abbrev s_depths_of : Stmt := topS 33
abbrev n_depths_of : List Str := ["code", "depths", "depth", "instruction"]
theorem sc_depths_of : FnScope n_depths_of ["code"] (defScope s_depths_of) := ⟨rfl, rfl, rfl, by decide +kernel, rfl, by decide +kernel, by decide +kernel⟩
abbrev s_fields_in_range : Stmt := topS 20
abbrev n_fields_in_range : List Str := ["kind", "info"]
theorem sc_fields_in_range : FnScope n_fields_in_range ["kind", "info"] (defScope s_fields_in_range) := ⟨rfl, rfl, rfl, by decide +kernel, rfl, by decide +kernel, by decide +kernel⟩
abbrev s_fits_width : Stmt := topS 24
abbrev n_fits_width : List Str := ["width", "n"]
theorem sc_fits_width : FnScope n_fits_width ["width", "n"] (defScope s_fits_width) := ⟨rfl, rfl, rfl, by decide +kernel, rfl, by decide +kernel, by decide +kernel⟩
abbrev s_loop_in_range : Stmt := topS 35
abbrev n_loop_in_range : List Str := ["width", "instruction", "start", "step", "count", "wide"]
theorem sc_loop_in_range : FnScope n_loop_in_range ["width", "instruction"] (defScope s_loop_in_range) := ⟨rfl, rfl, rfl, by decide +kernel, rfl, by decide +kernel, by decide +kernel⟩
abbrev s_own_in_range : Stmt := topS 36
abbrev n_own_in_range : List Str := ["machine", "instruction", "width", "main", "near", "queues", "lanes", "name", "good", "s", "n"]
theorem sc_own_in_range : FnScope n_own_in_range ["machine", "instruction"] (defScope s_own_in_range) := ⟨rfl, rfl, rfl, by decide +kernel, rfl, by decide +kernel, by decide +kernel⟩
abbrev s_in_range : Stmt := topS 37
abbrev n_in_range : List Str := ["machine", "instruction", "name", "k"]
theorem sc_in_range : FnScope n_in_range ["machine", "instruction"] (defScope s_in_range) := ⟨rfl, rfl, rfl, by decide +kernel, rfl, by decide +kernel, by decide +kernel⟩
abbrev s_steps_in : Stmt := topS 38
abbrev n_steps_in : List Str := ["code", "totals", "counts", "instruction", "inner"]
theorem sc_steps_in : FnScope n_steps_in ["code"] (defScope s_steps_in) := ⟨rfl, rfl, rfl, by decide +kernel, rfl, by decide +kernel, by decide +kernel⟩
abbrev s_well_formed : Stmt := topS 32
abbrev n_well_formed : List Str := ["instruction", "kind"]
theorem sc_well_formed : FnScope n_well_formed ["instruction"] (defScope s_well_formed) := ⟨rfl, rfl, rfl, by decide +kernel, rfl, by decide +kernel, by decide +kernel⟩
abbrev s_check_code : Stmt := topS 39
abbrev n_check_code : List Str := ["machine", "code", "instruction", "depths", "at"]
theorem sc_check_code : FnScope n_check_code ["machine", "code"] (defScope s_check_code) := ⟨rfl, rfl, rfl, by decide +kernel, rfl, by decide +kernel, by decide +kernel⟩
abbrev s_read_integer : Stmt := topS 42
abbrev n_read_integer : List Str := ["word", "most", "digits", "sign"]
theorem sc_read_integer : FnScope n_read_integer ["word", "most"] (defScope s_read_integer) := ⟨rfl, rfl, rfl, by decide +kernel, rfl, by decide +kernel, by decide +kernel⟩
abbrev s_number_in_listing : Stmt := topS 46
abbrev n_number_in_listing : List Str := ["word", "n"]
theorem sc_number_in_listing : FnScope n_number_in_listing ["word"] (defScope s_number_in_listing) := ⟨rfl, rfl, rfl, by decide +kernel, rfl, by decide +kernel, by decide +kernel⟩
abbrev s_group_in : Stmt := topS 49
abbrev n_group_in : List Str := ["words", "many", "word"]
theorem sc_group_in : FnScope n_group_in ["words"] (defScope s_group_in) := ⟨rfl, rfl, rfl, by decide +kernel, rfl, by decide +kernel, by decide +kernel⟩
abbrev s_kind_in : Stmt := topS 48
abbrev n_kind_in : List Str := ["word"]
theorem sc_kind_in : FnScope n_kind_in ["word"] (defScope s_kind_in) := ⟨rfl, rfl, rfl, by decide +kernel, rfl, by decide +kernel, by decide +kernel⟩
abbrev s_do_in : Stmt := topS 50
abbrev n_do_in : List Str := ["words", "kind", "d", "sources", "rest", "info"]
theorem sc_do_in : FnScope n_do_in ["words"] (defScope s_do_in) := ⟨rfl, rfl, rfl, by decide +kernel, rfl, by decide +kernel, by decide +kernel⟩
abbrev s_instruction_in : Stmt := topS 51
abbrev n_instruction_in : List Str := ["line", "words", "name", "word"]
theorem sc_instruction_in : FnScope n_instruction_in ["line"] (defScope s_instruction_in) := ⟨rfl, rfl, rfl, by decide +kernel, rfl, by decide +kernel, by decide +kernel⟩
abbrev s_read_code : Stmt := topS 52
abbrev n_read_code : List Str := ["machine", "text", "lines", "code", "line"]
theorem sc_read_code : FnScope n_read_code ["machine", "text"] (defScope s_read_code) := ⟨rfl, rfl, rfl, by decide +kernel, rfl, by decide +kernel, by decide +kernel⟩
abbrev s_letters_of : Stmt := topS 58
abbrev n_letters_of : List Str := ["shape", "axis"]
theorem sc_letters_of : FnScope n_letters_of ["shape"] (defScope s_letters_of) := ⟨rfl, rfl, rfl, by decide +kernel, rfl, by decide +kernel, by decide +kernel⟩
abbrev s_same_but : Stmt := topS 70
abbrev n_same_but : List Str := ["first", "second", "letter", "k"]
theorem sc_same_but : FnScope n_same_but ["first", "second", "letter"] (defScope s_same_but) := ⟨rfl, rfl, rfl, by decide +kernel, rfl, by decide +kernel, by decide +kernel⟩
abbrev s_check_axes : Stmt := topS 71
abbrev n_check_axes : List Str := ["kind", "info", "shapes", "names", "good", "letter"]
theorem sc_check_axes : FnScope n_check_axes ["kind", "info", "shapes"] (defScope s_check_axes) := ⟨rfl, rfl, rfl, by decide +kernel, rfl, by decide +kernel, by decide +kernel⟩
abbrev s_size_on : Stmt := topS 59
abbrev n_size_on : List Str := ["shape", "letter", "axis"]
theorem sc_size_on : FnScope n_size_on ["shape", "letter"] (defScope s_size_on) := ⟨rfl, rfl, rfl, by decide +kernel, rfl, by decide +kernel, by decide +kernel⟩
abbrev s_check_extents : Stmt := topS 72
abbrev n_check_extents : List Str := ["kind", "info", "shapes", "good", "count"]
theorem sc_check_extents : FnScope n_check_extents ["kind", "info", "shapes"] (defScope s_check_extents) := ⟨rfl, rfl, rfl, by decide +kernel, rfl, by decide +kernel, by decide +kernel⟩
abbrev s_within : Stmt := topS 68
abbrev n_within : List Str := ["numbers", "low", "high", "n"]
theorem sc_within : FnScope n_within ["numbers", "low", "high"] (defScope s_within) := ⟨rfl, rfl, rfl, by decide +kernel, rfl, by decide +kernel, by decide +kernel⟩
abbrev s_check_fields : Stmt := topS 69
abbrev n_check_fields : List Str := ["kind", "info", "good"]
theorem sc_check_fields : FnScope n_check_fields ["kind", "info"] (defScope s_check_fields) := ⟨rfl, rfl, rfl, by decide +kernel, rfl, by decide +kernel, by decide +kernel⟩
abbrev s_count_of : Stmt := topS 57
abbrev n_count_of : List Str := ["shape", "count", "axis"]
theorem sc_count_of : FnScope n_count_of ["shape"] (defScope s_count_of) := ⟨rfl, rfl, rfl, by decide +kernel, rfl, by decide +kernel, by decide +kernel⟩
abbrev s_check_form : Stmt := topS 67
abbrev n_check_form : List Str := ["node", "domains", "kind", "args", "info", "arg"]
theorem sc_check_form : FnScope n_check_form ["node", "domains"] (defScope s_check_form) := ⟨rfl, rfl, rfl, by decide +kernel, rfl, by decide +kernel, by decide +kernel⟩
abbrev s_check_letters : Stmt := topS 60
abbrev n_check_letters : List Str := ["shape", "letters", "k"]
theorem sc_check_letters : FnScope n_check_letters ["shape"] (defScope s_check_letters) := ⟨rfl, rfl, rfl, by decide +kernel, rfl, by decide +kernel, by decide +kernel⟩
abbrev s_check_shape : Stmt := topS 61
abbrev n_check_shape : List Str := ["shape", "axis"]
theorem sc_check_shape : FnScope n_check_shape ["shape"] (defScope s_check_shape) := ⟨rfl, rfl, rfl, by decide +kernel, rfl, by decide +kernel, by decide +kernel⟩
abbrev s_corners : Stmt := topS 78
abbrev n_corners : List Str := ["a", "b", "products"]
theorem sc_corners : FnScope n_corners ["a", "b"] (defScope s_corners) := ⟨rfl, rfl, rfl, by decide +kernel, rfl, by decide +kernel, by decide +kernel⟩
abbrev s_other_span : Stmt := topS 80
abbrev n_other_span : List Str := ["kind", "info", "shapes", "spans", "l", "h", "size", "low", "high"]
theorem sc_other_span : FnScope n_other_span ["kind", "info", "shapes", "spans"] (defScope s_other_span) := ⟨rfl, rfl, rfl, by decide +kernel, rfl, by decide +kernel, by decide +kernel⟩
abbrev s_limit : Stmt := topS 18
abbrev n_limit : List Str := ["n", "low", "high"]
theorem sc_limit : FnScope n_limit ["n", "low", "high"] (defScope s_limit) := ⟨rfl, rfl, rfl, by decide +kernel, rfl, by decide +kernel, by decide +kernel⟩
abbrev s_round_off : Stmt := topS 19
abbrev n_round_off : List Str := ["n", "bits"]
theorem sc_round_off : FnScope n_round_off ["n", "bits"] (defScope s_round_off) := ⟨rfl, rfl, rfl, by decide +kernel, rfl, by decide +kernel, by decide +kernel⟩
abbrev s_pointwise_span : Stmt := topS 79
abbrev n_pointwise_span : List Str := ["kind", "info", "spans", "l", "h", "p", "q"]
theorem sc_pointwise_span : FnScope n_pointwise_span ["kind", "info", "spans"] (defScope s_pointwise_span) := ⟨rfl, rfl, rfl, by decide +kernel, rfl, by decide +kernel, by decide +kernel⟩
abbrev s_spread_together : Stmt := topS 62
abbrev n_spread_together : List Str := ["first", "second", "result", "axis", "size"]
theorem sc_spread_together : FnScope n_spread_together ["first", "second"] (defScope s_spread_together) := ⟨rfl, rfl, rfl, by decide +kernel, rfl, by decide +kernel, by decide +kernel⟩
abbrev s_broadcast : Stmt := topS 63
abbrev n_broadcast : List Str := ["first", "second", "result"]
theorem sc_broadcast : FnScope n_broadcast ["first", "second"] (defScope s_broadcast) := ⟨rfl, rfl, rfl, by decide +kernel, rfl, by decide +kernel, by decide +kernel⟩
abbrev s_in_place_of : Stmt := topS 75
abbrev n_in_place_of : List Str := ["shape", "letter", "others", "result", "axis"]
theorem sc_in_place_of : FnScope n_in_place_of ["shape", "letter", "others"] (defScope s_in_place_of) := ⟨rfl, rfl, rfl, by decide +kernel, rfl, by decide +kernel, by decide +kernel⟩
abbrev s_resized : Stmt := topS 73
abbrev n_resized : List Str := ["shape", "letter", "size", "axis"]
theorem sc_resized : FnScope n_resized ["shape", "letter", "size"] (defScope s_resized) := ⟨rfl, rfl, rfl, by decide +kernel, rfl, by decide +kernel, by decide +kernel⟩
abbrev s_without : Stmt := topS 74
abbrev n_without : List Str := ["shape", "letter", "axis"]
theorem sc_without : FnScope n_without ["shape", "letter"] (defScope s_without) := ⟨rfl, rfl, rfl, by decide +kernel, rfl, by decide +kernel, by decide +kernel⟩
abbrev s_raw_shape : Stmt := topS 76
abbrev n_raw_shape : List Str := ["kind", "info", "shapes", "a", "size", "letter"]
theorem sc_raw_shape : FnScope n_raw_shape ["kind", "info", "shapes"] (defScope s_raw_shape) := ⟨rfl, rfl, rfl, by decide +kernel, rfl, by decide +kernel, by decide +kernel⟩
abbrev s_shape_of : Stmt := topS 77
abbrev n_shape_of : List Str := ["kind", "info", "shapes", "result", "other"]
theorem sc_shape_of : FnScope n_shape_of ["kind", "info", "shapes"] (defScope s_shape_of) := ⟨rfl, rfl, rfl, by decide +kernel, rfl, by decide +kernel, by decide +kernel⟩
abbrev s_domain_of : Stmt := topS 81
abbrev n_domain_of : List Str := ["node", "domains", "kind", "args", "info", "shapes", "spans", "shape", "low", "high", "arg"]
theorem sc_domain_of : FnScope n_domain_of ["node", "domains"] (defScope s_domain_of) := ⟨rfl, rfl, rfl, by decide +kernel, rfl, by decide +kernel, by decide +kernel⟩
abbrev s_node_work : Stmt := topS 83
abbrev n_node_work : List Str := ["node", "domains", "shape", "kind", "args", "info"]
theorem sc_node_work : FnScope n_node_work ["node", "domains", "shape"] (defScope s_node_work) := ⟨rfl, rfl, rfl, by decide +kernel, rfl, by decide +kernel, by decide +kernel⟩
abbrev s_total_work : Stmt := topS 84
abbrev n_total_work : List Str := ["nodes", "domains", "work", "k"]
theorem sc_total_work : FnScope n_total_work ["nodes", "domains"] (defScope s_total_work) := ⟨rfl, rfl, rfl, by decide +kernel, rfl, by decide +kernel, by decide +kernel⟩
abbrev s_check_graph : Stmt := topS 85
abbrev n_check_graph : List Str := ["graph", "nodes", "outs", "domains", "node", "out"]
theorem sc_check_graph : FnScope n_check_graph ["graph"] (defScope s_check_graph) := ⟨rfl, rfl, rfl, by decide +kernel, rfl, by decide +kernel, by decide +kernel⟩
abbrev s_letter_in : Stmt := topS 92
abbrev n_letter_in : List Str := ["word"]
theorem sc_letter_in : FnScope n_letter_in ["word"] (defScope s_letter_in) := ⟨rfl, rfl, rfl, by decide +kernel, rfl, by decide +kernel, by decide +kernel⟩
abbrev s_letters_in : Stmt := topS 93
abbrev n_letters_in : List Str := ["word", "sign"]
theorem sc_letters_in : FnScope n_letters_in ["word"] (defScope s_letters_in) := ⟨rfl, rfl, rfl, by decide +kernel, rfl, by decide +kernel, by decide +kernel⟩
abbrev s_number_in_notation : Stmt := topS 90
abbrev n_number_in_notation : List Str := ["word", "n"]
theorem sc_number_in_notation : FnScope n_number_in_notation ["word"] (defScope s_number_in_notation) := ⟨rfl, rfl, rfl, by decide +kernel, rfl, by decide +kernel, by decide +kernel⟩
abbrev s_read_natural : Stmt := topS 43
abbrev n_read_natural : List Str := ["word", "most"]
theorem sc_read_natural : FnScope n_read_natural ["word", "most"] (defScope s_read_natural) := ⟨rfl, rfl, rfl, by decide +kernel, rfl, by decide +kernel, by decide +kernel⟩
abbrev s_shape_in : Stmt := topS 94
abbrev n_shape_in : List Str := ["word", "axes", "at", "letter", "end", "size"]
theorem sc_shape_in : FnScope n_shape_in ["word"] (defScope s_shape_in) := ⟨rfl, rfl, rfl, by decide +kernel, rfl, by decide +kernel, by decide +kernel⟩
abbrev s_fields_in : Stmt := topS 95
abbrev n_fields_in : List Str := ["kind", "words", "fields", "k", "word"]
theorem sc_fields_in : FnScope n_fields_in ["kind", "words"] (defScope s_fields_in) := ⟨rfl, rfl, rfl, by decide +kernel, rfl, by decide +kernel, by decide +kernel⟩
abbrev s_node_in : Stmt := topS 96
abbrev n_node_in : List Str := ["line", "words", "kind", "many", "args", "word"]
theorem sc_node_in : FnScope n_node_in ["line"] (defScope s_node_in) := ⟨rfl, rfl, rfl, by decide +kernel, rfl, by decide +kernel, by decide +kernel⟩
abbrev s_read_graph : Stmt := topS 97
abbrev n_read_graph : List Str := ["text", "lines", "last", "nodes", "outs", "line", "word"]
theorem sc_read_graph : FnScope n_read_graph ["text"] (defScope s_read_graph) := ⟨rfl, rfl, rfl, by decide +kernel, rfl, by decide +kernel, by decide +kernel⟩
abbrev s__law_told : Stmt := topS 99
abbrev n__law_told : List Str := ["which", "one", "two", "found", "e"]
theorem sc__law_told : FnScope n__law_told ["which", "one", "two"] (defScope s__law_told) := ⟨rfl, rfl, rfl, by decide +kernel, rfl, by decide +kernel, by decide +kernel⟩
abbrev s__law_codes : Stmt := topS 101
abbrev n__law_codes : List Str := ["machine", "wide", "rows", "ins", "due", "twice", "loops", "parts", "one", "turn", "blocks", "code"]
theorem sc__law_codes : FnScope n__law_codes [] (defScope s__law_codes) := ⟨rfl, rfl, rfl, by decide +kernel, rfl, by decide +kernel, by decide +kernel⟩
abbrev s__law_graphs : Stmt := topS 103
abbrev n__law_graphs : List Str := ["base", "nodes", "at", "line", "text", "form", "own"]
theorem sc__law_graphs : FnScope n__law_graphs [] (defScope s__law_graphs) := ⟨rfl, rfl, rfl, by decide +kernel, rfl, by decide +kernel, by decide +kernel⟩
abbrev s__law_lines : Stmt := topS 102
abbrev n__law_lines : List Str := ["machine", "right", "text", "due", "line"]
theorem sc__law_lines : FnScope n__law_lines [] (defScope s__law_lines) := ⟨rfl, rfl, rfl, by decide +kernel, rfl, by decide +kernel, by decide +kernel⟩
abbrev s__law_machines : Stmt := topS 100
abbrev n__law_machines : List Str := ["low", "high", "k", "number"]
theorem sc__law_machines : FnScope n__law_machines [] (defScope s__law_machines) := ⟨rfl, rfl, rfl, by decide +kernel, rfl, by decide +kernel, by decide +kernel⟩
abbrev s_law : Stmt := topS 104
abbrev n_law : List Str := ["script", "menu", "cell"]
theorem sc_law : FnScope n_law ["script"] (defScope s_law) := ⟨rfl, rfl, rfl, by decide +kernel, rfl, by decide +kernel, by decide +kernel⟩
def tc_TensorError : List (Str × Bool) := [("AxisError", true), ("FormError", true), ("KindError", true), ("MachineError", true), ("RangeError", true), ("RankError", true), ("TextError", true), ("TooLarge", true), ("TooWide", true)]
def ti_FormError : List (Str × Bool) := [("AxisError", false), ("FormError", true), ("KindError", false), ("MachineError", false), ("RangeError", false), ("RankError", false), ("TextError", false), ("TooLarge", false), ("TooWide", false)]
def ti_MachineError : List (Str × Bool) := [("AxisError", false), ("FormError", false), ("KindError", false), ("MachineError", true), ("RangeError", false), ("RankError", false), ("TextError", false), ("TooLarge", false), ("TooWide", false)]
def ti_RangeError : List (Str × Bool) := [("AxisError", false), ("FormError", false), ("KindError", false), ("MachineError", false), ("RangeError", true), ("RankError", false), ("TextError", false), ("TooLarge", false), ("TooWide", false)]
def ti_TextError : List (Str × Bool) := [("AxisError", false), ("FormError", false), ("KindError", false), ("MachineError", false), ("RangeError", false), ("RankError", false), ("TextError", true), ("TooLarge", false), ("TooWide", false)]
def tab_ARGS : List (Str × P) := [("input", (.int 0)), ("const", (.int 0)), ("add", (.int 2)), ("sub", (.int 2)), ("mul", (.int 2)), ("max", (.int 2)), ("min", (.int 2)), ("less", (.int 2)), ("equal", (.int 2)), ("neg", (.int 1)), ("clamp", (.int 1)), ("shift", (.int 1)), ("where", (.int 3)), ("sum", (.int 1)), ("peak", (.int 1)), ("dot", (.int 2)), ("order", (.int 1)), ("rename", (.int 1)), ("spread", (.int 1)), ("cut", (.int 1)), ("pad", (.int 1)), ("join", (.int 2)), ("window", (.int 1)), ("fold", (.int 1)), ("gather", (.int 2))]
def tab_AXIS_FIELDS : List (Str × P) := [("sum", (.int 1)), ("peak", (.int 1)), ("dot", (.int 1)), ("rename", (.int 2)), ("spread", (.int 1)), ("cut", (.int 1)), ("pad", (.int 1)), ("join", (.int 1)), ("window", (.int 2)), ("fold", (.int 2)), ("gather", (.int 1))]
def tab_FIELDS : List (Str × P) := [("input", (.int 3)), ("const", (.int 2)), ("add", (.int 0)), ("sub", (.int 0)), ("mul", (.int 0)), ("max", (.int 0)), ("min", (.int 0)), ("less", (.int 0)), ("equal", (.int 0)), ("neg", (.int 0)), ("clamp", (.int 2)), ("shift", (.int 1)), ("where", (.int 0)), ("sum", (.int 1)), ("peak", (.int 1)), ("dot", (.int 1)), ("order", (.int 1)), ("rename", (.int 2)), ("spread", (.int 2)), ("cut", (.int 3)), ("pad", (.int 3)), ("join", (.int 1)), ("window", (.int 4)), ("fold", (.int 4)), ("gather", (.int 1))]
def tab_LENGTHS : List (Str × P) := [("set", (.int 3)), ("do", (.int 5)), ("load", (.int 4)), ("store", (.int 4)), ("mac", (.int 7)), ("vector", (.int 6)), ("loop", (.int 5)), ("end", (.int 1)), ("skip", (.int 3)), ("in", (.int 7)), ("out", (.int 7)), ("wait", (.int 2))]
def tab_OFFSETS : List (Str × P) := [("set", (.tup [])), ("do", (.tup [])), ("load", (.tup [(.int 3)])), ("store", (.tup [(.int 2)])), ("mac", (.tup [(.int 3), (.int 5)])), ("vector", (.tup [])), ("loop", (.tup [])), ("end", (.tup [])), ("skip", (.tup [])), ("in", (.tup [(.int 3), (.int 5)])), ("out", (.tup [(.int 3), (.int 5)])), ("wait", (.tup []))]
def tab_SLOTS : List (Str × P) := [("set", (.tup [(.int 1)])), ("do", (.tup [(.int 2)])), ("load", (.tup [(.int 1), (.int 2)])), ("store", (.tup [(.int 1), (.int 3)])), ("mac", (.tup [(.int 1), (.int 2), (.int 4)])), ("vector", (.tup [(.int 2), (.int 3), (.int 4)])), ("loop", (.tup [(.int 1)])), ("end", (.tup [])), ("skip", (.tup [(.int 1)])), ("in", (.tup [(.int 2), (.int 4)])), ("out", (.tup [(.int 2), (.int 4)])), ("wait", (.tup []))]
def g_check_machine : GS := (gFor (.one 1) (gRangeI fRange1 (gCons (gC (.int 5)) gNil)) (gIfS (gOr (gTB (gOp2 (fB fLt) (gOp2 fIx (gVar 0) (gVar 1)) (gOp2 fIx (gOp2 fIx (gC (.tup [(.tup [(.int 32), (.int 256)]), (.tup [(.int 1), (.int 16384)]), (.tup [(.int 16), (.int 4096)]), (.tup [(.int 1), (.int 4)]), (.tup [(.int 1), (.int 16)])])) (gVar 1)) (gC (.int 0))))) (gTB (gOp2 (fB fGt) (gOp2 fIx (gVar 0) (gVar 1)) (gOp2 fIx (gOp2 fIx (gC (.tup [(.tup [(.int 32), (.int 256)]), (.tup [(.int 1), (.int 16384)]), (.tup [(.int 16), (.int 4096)]), (.tup [(.int 1), (.int 4)]), (.tup [(.int 1), (.int 16)])])) (gVar 1)) (gC (.int 1)))))) (gRaise "MachineError") gNext))
def m_check_machine : Fn := fnD 2 g_check_machine
def g_check_skip : GS := (gSeq (gSet 2 (gC (.int 0)))
  (gSeq (gFor (.one 3) (gRangeI fRange2B (gCons (gOp2 fAdd (gVar 1) (gC (.int 1))) (gCons (gOp2 fAdd (gOp2 fAdd (gVar 1) (gC (.int 1))) (gCall fMaxA (gCons (gC (.int 0)) (gCons (gOp2 fIx (gOp2 fIx (gVar 0) (gVar 1)) (gC (.int 2))) gNil)))) gNil))) (gSeq (gIfS (gTB (gOp2 (fB fGe) (gVar 3) (gCall fLen (gCons (gVar 0) gNil)))) (gRaise "FormError") gNext)
  (gSeq (gIfS (gTB (gOp2 (fB (fEqB false)) (gOp2 fIx (gOp2 fIx (gVar 0) (gVar 3)) (gC (.int 0))) (gC (.str "loop")))) (gSet 2 (gOp2 fAdd (gVar 2) (gC (.int 1)))) (gIfS (gTB (gOp2 (fB (fEqB false)) (gOp2 fIx (gOp2 fIx (gVar 0) (gVar 3)) (gC (.int 0))) (gC (.str "end")))) (gSet 2 (gOp2 iSub (gVar 2) (gC (.int 1)))) gNext))
  (gIfS (gTB (gOp2 (fB fLt) (gVar 2) (gC (.int 0)))) (gRaise "FormError") gNext))))
  (gIfS (gTB (gOp2 (fB (fEqB true)) (gVar 2) (gC (.int 0)))) (gRaise "FormError") gNext)))
def m_check_skip : Fn := fnD 4 g_check_skip
def g_depths_of : GS := (gSeq (gSet 1 (gLst gNil))
  (gSeq (gSet 2 (gC (.int 0)))
  (gSeq (gForV (.one 3) 0 (gSeq (gIfS (gTB (gOp2 (fB (fEqB false)) (gOp2 fIx (gVar 3) (gC (.int 0))) (gC (.str "end")))) (gSeq (gSet 2 (gOp2 iSub (gVar 2) (gC (.int 1))))
  (gIfS (gTB (gOp2 (fB fLt) (gVar 2) (gC (.int 0)))) (gRaise "FormError") gNext)) gNext)
  (gSeq (gApp 1 (gVar 2))
  (gIfS (gTB (gOp2 (fB (fEqB false)) (gOp2 fIx (gVar 3) (gC (.int 0))) (gC (.str "loop")))) (gSet 2 (gOp2 fAdd (gVar 2) (gC (.int 1)))) gNext))))
  (gSeq (gIfS (gTB (gOp2 (fB (fEqB true)) (gVar 2) (gC (.int 0)))) (gRaise "FormError") gNext)
  (gRetV 1)))))
def m_depths_of : Fn := fnD 4 g_depths_of
def g_fields_in_range : GS := (gSeq (gIfS (gTB (gOp2 (fB (fEqB false)) (gVar 0) (gC (.str "clamp")))) (gRet (gChain3 fLe fLe fLe (gOp1 fNeg (gC (.int 1606938044258990275541962092341162602522202993782792835301376))) (gOp2 fIx (gVar 1) (gC (.int 0))) (gOp2 fIx (gVar 1) (gC (.int 1))) (gC (.int 1606938044258990275541962092341162602522202993782792835301376)))) gNext)
  (gSeq (gIfS (gTB (gOp2 (fB (fEqB false)) (gVar 0) (gC (.str "shift")))) (gRet (gChain fLe fLe (gC (.int 1)) (gOp2 fIx (gVar 1) (gC (.int 0))) (gC (.int 30)))) gNext)
  (gRet (gC (.bl true)))))
def m_fields_in_range : Fn := fnD 2 g_fields_in_range
def g_fits_width : GS := (gRet (gChain fLe fLt (gOp1 fNeg (gOp2 (fIntC CShl fun i j => i * 2 ^ j.toNat) (gC (.int 1)) (gOp2 iSub (gVar 0) (gC (.int 1))))) (gVar 1) (gOp2 (fIntC CShl fun i j => i * 2 ^ j.toNat) (gC (.int 1)) (gOp2 iSub (gVar 0) (gC (.int 1))))))
def m_fits_width : Fn := fnD 2 g_fits_width
def g_loop_in_range : GS := (gSeq (gUnpT [2, 3, 4] (gSl (gVar 1) (gPart (gC (.int 2))) (gPart (gC (.int 5)))))
  (gSeq (gSet 5 (gOp2 (fIntC CShl fun i j => i * 2 ^ j.toNat) (gC (.int 1)) (gVar 0)))
  (gSeq (gIfS (gOr (gNot (gTB (gChain fLe fLe (gC (.int 1)) (gVar 4) (gC (.int 1000))))) (gOr (gNot (gTB (gChain fLe fLe (gOp1 fNeg (gVar 5)) (gVar 2) (gVar 5)))) (gNot (gTB (gChain fLe fLe (gOp1 fNeg (gVar 5)) (gVar 3) (gVar 5)))))) (gRet (gC (.bl false))) gNext)
  (gRet (gAndV (gFn 2 m_fits_width (gCons (gVar 0) (gCons (gVar 2) gNil))) (gFn 2 m_fits_width (gCons (gVar 0) (gCons (gOp2 fAdd (gVar 2) (gOp2 fMul (gVar 3) (gOp2 iSub (gVar 4) (gC (.int 1))))) gNil))))))))
def m_loop_in_range : Fn := fnD 6 g_loop_in_range
def g_own_in_range : GS := (gSeq (gUnpT [2, 3, 4, 5, 6] (gVar 0))
  (gSeq (gSet 7 (gOp2 fIx (gVar 1) (gC (.int 0))))
  (gSeq (gIfS (gTB (gOp2 (fB (fEqB false)) (gVar 7) (gC (.str "set")))) (gRet (gFn 2 m_fits_width (gCons (gVar 2) (gCons (gOp2 fIx (gVar 1) (gC (.int 2))) gNil)))) gNext)
  (gSeq (gIfS (gTB (gOp2 (fB (fEqB false)) (gVar 7) (gC (.str "do")))) (gSeq (gSet 8 (gAndV (gCall (fAnyAll fun bs => bs.all id) (gCons (gLc (.one 9) [9] (gSeqL (gOp2 fIx (gVar 1) (gC (.int 3)))) gYes (gChain fLe fLe (gC (.int 0)) (gVar 9) (gC (.int 31)))) gNil)) (gFn 2 m_fields_in_range (gCons (gOp2 fIx (gVar 1) (gC (.int 1))) (gCons (gOp2 fIx (gVar 1) (gC (.int 4))) gNil)))))
  (gSeq (gIfS (gTB (gOp2 (fB (fEqB false)) (gOp2 fIx (gVar 1) (gC (.int 1))) (gC (.str "clamp")))) (gSet 8 (gAndV (gVar 8) (gCall (fAnyAll fun bs => bs.all id) (gCons (gLc (.one 10) [10] (gSeqL (gOp2 fIx (gVar 1) (gC (.int 4)))) gYes (gFn 2 m_fits_width (gCons (gVar 2) (gCons (gVar 10) gNil)))) gNil)))) gNext)
  (gRetV 8))) gNext)
  (gSeq (gIfS (gTB (gOp2 (fB (fEqB false)) (gVar 7) (gC (.str "mac")))) (gRet (gChain fLe fLe (gC (.int 1)) (gOp2 fIx (gVar 1) (gC (.int 6))) (gVar 6))) gNext)
  (gSeq (gIfS (gTB (gOp2 (fB (fEqB false)) (gVar 7) (gC (.str "vector")))) (gRet (gChain fLe fLe (gC (.int 1)) (gOp2 fIx (gVar 1) (gC (.int 5))) (gVar 6))) gNext)
  (gSeq (gIfS (gTB (gOp2 (fB (fEqB false)) (gVar 7) (gC (.str "loop")))) (gRet (gFn 2 m_loop_in_range (gCons (gVar 2) (gCons (gVar 1) gNil)))) gNext)
  (gSeq (gIfS (gTB (gOp2 (fB (fEqB false)) (gVar 7) (gC (.str "skip")))) (gRet (gChain fLe fLe (gC (.int 0)) (gOp2 fIx (gVar 1) (gC (.int 2))) (gC (.int 4000000)))) gNext)
  (gSeq (gIfS (gTB (gOp2 (fB (fIn false)) (gVar 7) (gTup (gCons (gC (.str "in")) (gCons (gC (.str "out")) gNil))))) (gRet (gAndV (gChain fLe fLt (gC (.int 0)) (gOp2 fIx (gVar 1) (gC (.int 1))) (gVar 5)) (gChain fLe fLe (gC (.int 1)) (gOp2 fIx (gVar 1) (gC (.int 6))) (gC (.int 4096))))) gNext)
  (gSeq (gIfS (gTB (gOp2 (fB (fEqB false)) (gVar 7) (gC (.str "wait")))) (gRet (gChain fLe fLt (gC (.int 0)) (gOp2 fIx (gVar 1) (gC (.int 1))) (gVar 5))) gNext)
  (gRet (gC (.bl true)))))))))))))
def m_own_in_range : Fn := fnD 11 g_own_in_range
def g_in_range : GS := (gSeq (gSet 2 (gOp2 fIx (gVar 1) (gC (.int 0))))
  (gSeq (gIfS (gNot (gTru (gCall (fAnyAll fun bs => bs.all id) (gCons (gLc (.one 3) [3] (gSeqL (gItT tab_SLOTS (gVar 2))) gYes (gChain fLe fLe (gC (.int 0)) (gOp2 fIx (gVar 1) (gVar 3)) (gC (.int 31)))) gNil)))) (gRet (gC (.bl false))) gNext)
  (gSeq (gIfS (gNot (gTru (gCall (fAnyAll fun bs => bs.all id) (gCons (gLc (.one 3) [3] (gSeqL (gItT tab_OFFSETS (gVar 2))) gYes (gChain fLe fLe (gOp1 fNeg (gC (.int 16384))) (gOp2 fIx (gVar 1) (gVar 3)) (gC (.int 16384)))) gNil)))) (gRet (gC (.bl false))) gNext)
  (gRet (gFn 2 m_own_in_range (gCons (gVar 0) (gCons (gVar 1) gNil)))))))
def m_in_range : Fn := fnD 4 g_in_range
def g_steps_in : GS := (gSeq (gSet 1 (gLst (gCons (gC (.int 0)) gNil)))
  (gSeq (gSet 2 (gLst (gCons (gC (.int 1)) gNil)))
  (gSeq (gForV (.one 3) 0 (gIfS (gTB (gOp2 (fB (fEqB false)) (gOp2 fIx (gVar 3) (gC (.int 0))) (gC (.str "loop")))) (gSeq (gApp 1 (gC (.int 0)))
  (gApp 2 (gOp2 fIx (gVar 3) (gC (.int 4))))) (gIfS (gTB (gOp2 (fB (fEqB false)) (gOp2 fIx (gVar 3) (gC (.int 0))) (gC (.str "end")))) (gSeq (gPop 4 1)
  (gPutPop 1 2 (gOp1 fNeg (gC (.int 1))) (gOp2 fAdd (gOp2 fIx (gVar 1) (gOp1 fNeg (gC (.int 1)))) (gC (.int 1))) (gOp2 fAdd (gVar 4) (gC (.int 1))))) (gPut 1 (gOp1 fNeg (gC (.int 1))) (gOp2 fAdd (gOp2 fIx (gVar 1) (gOp1 fNeg (gC (.int 1)))) (gC (.int 1)))))))
  (gRet (gOp2 fIx (gVar 1) (gC (.int 0)))))))
def m_steps_in : Fn := fnD 5 g_steps_in
def g_well_formed : GS := (gSeq (gIfS (gOr (gTB (gOp2 (fB (fEqB false)) (gCall fLen (gCons (gVar 0) gNil)) (gC (.int 0)))) (gTB (gInT tab_LENGTHS true (gOp2 fIx (gVar 0) (gC (.int 0)))))) (gRet (gC (.bl false))) gNext)
  (gSeq (gIfS (gTB (gOp2 (fB (fEqB true)) (gCall fLen (gCons (gVar 0) gNil)) (gItT tab_LENGTHS (gOp2 fIx (gVar 0) (gC (.int 0)))))) (gRet (gC (.bl false))) gNext)
  (gSeq (gIfS (gTB (gOp2 (fB (fEqB false)) (gOp2 fIx (gVar 0) (gC (.int 0))) (gC (.str "do")))) (gSeq (gSet 1 (gOp2 fIx (gVar 0) (gC (.int 1))))
  (gSeq (gIfS (gTB (gOp2 (fB (fIn true)) (gVar 1) (gC (.tup [(.str "add"), (.str "sub"), (.str "mul"), (.str "max"), (.str "min"), (.str "less"), (.str "equal"), (.str "neg"), (.str "clamp"), (.str "shift"), (.str "where")])))) (gRet (gC (.bl false))) gNext)
  (gRet (gAndV (gOp2 (fB (fEqB false)) (gCall fLen (gCons (gOp2 fIx (gVar 0) (gC (.int 3))) gNil)) (gItT tab_ARGS (gVar 1))) (gOp2 (fB (fEqB false)) (gCall fLen (gCons (gOp2 fIx (gVar 0) (gC (.int 4))) gNil)) (gItT tab_FIELDS (gVar 1))))))) gNext)
  (gSeq (gIfS (gTB (gOp2 (fB (fEqB false)) (gOp2 fIx (gVar 0) (gC (.int 0))) (gC (.str "vector")))) (gRet (gAndV (gOp2 (fB (fIn false)) (gOp2 fIx (gVar 0) (gC (.int 1))) (gC (.tup [(.str "add"), (.str "sub"), (.str "mul"), (.str "max"), (.str "min"), (.str "less"), (.str "equal"), (.str "neg"), (.str "clamp"), (.str "shift"), (.str "where")]))) (gOp2 (fB (fEqB false)) (gItT tab_ARGS (gOp2 fIx (gVar 0) (gC (.int 1)))) (gC (.int 2))))) gNext)
  (gRet (gC (.bl true)))))))
def m_well_formed : Fn := fnD 2 g_well_formed
def g_check_code : GS := (gSeq (gExpr (gFn 1 m_check_machine (gCons (gVar 0) gNil)))
  (gSeq (gForV (.one 2) 1 (gIfS (gNot (gTru (gFn 1 m_well_formed (gCons (gVar 2) gNil)))) (gRaise "FormError") gNext))
  (gSeq (gSet 3 (gFn 1 m_depths_of (gCons (gVar 1) gNil)))
  (gSeq (gFor (.one 4) (gRangeI fRange1 (gCons (gCall fLen (gCons (gVar 1) gNil)) gNil)) (gIfS (gTB (gOp2 (fB (fEqB false)) (gOp2 fIx (gOp2 fIx (gVar 1) (gVar 4)) (gC (.int 0))) (gC (.str "skip")))) (gExpr (gFn 2 m_check_skip (gCons (gVar 1) (gCons (gVar 4) gNil)))) gNext))
  (gSeq (gForV (.one 2) 1 (gIfS (gNot (gTru (gFn 2 m_in_range (gCons (gVar 0) (gCons (gVar 2) gNil))))) (gRaise "RangeError") gNext))
  (gIfS (gOr (gTB (gOp2 (fB fGt) (gCall fLen (gCons (gVar 1) gNil)) (gC (.int 4000000)))) (gOr (gTB (gOp2 (fB fGt) (gCall fMaxA (gCons (gOp2 fAdd (gLst (gCons (gC (.int 0)) gNil)) (gVar 3)) gNil)) (gC (.int 16)))) (gTB (gOp2 (fB fGt) (gFn 1 m_steps_in (gCons (gVar 1) gNil)) (gC (.int 1000000000)))))) (gRaise "TooLarge") gNext))))))
def m_check_code : Fn := fnD 5 g_check_code
def g_read_integer : GS := (gSeq (gSet 2 (gVar 0))
  (gSeq (gIfS (gTB (gOp2 (fB (fEqB false)) (gSl (gVar 0) gNoPart (gPart (gC (.int 1)))) (gC (.str "-")))) (gSet 2 (gSl (gVar 0) (gPart (gC (.int 1))) gNoPart)) gNext)
  (gSeq (gIfS (gOr (gTB (gOp2 (fB (fEqB false)) (gVar 2) (gC (.str "")))) (gTB (gOp2 (fB fGt) (gCall fLen (gCons (gVar 2) gNil)) (gVar 1)))) (gRet (gC .non)) gNext)
  (gSeq (gForV (.one 3) 2 (gIfS (gTB (gOp2 (fB (fIn true)) (gVar 3) (gC (.str "0123456789")))) (gRet (gC .non)) gNext))
  (gSeq (gIfS (gAnd (gTB (gOp2 (fB (fEqB false)) (gOp2 fIx (gVar 2) (gC (.int 0))) (gC (.str "0")))) (gOr (gTB (gOp2 (fB fGt) (gCall fLen (gCons (gVar 2) gNil)) (gC (.int 1)))) (gTB (gOp2 (fB fGt) (gCall fLen (gCons (gVar 0) gNil)) (gC (.int 1)))))) (gRet (gC .non)) gNext)
  (gRet (gCall fIntT (gCons (gVar 0) gNil))))))))
def m_read_integer : Fn := fnD 4 g_read_integer
def g_number_in_listing : GS := (gSeq (gSet 1 (gFn 2 m_read_integer (gCons (gVar 0) (gCons (gC (.int 90)) gNil))))
  (gSeq (gIfS (gTB (gOp2 (fB (fIsN false)) (gVar 1) (gC .non))) (gRaise "TextError") gNext)
  (gRetV 1)))
def m_number_in_listing : Fn := fnD 2 g_number_in_listing
def g_group_in : GS := (gSeq (gIfS (gTB (gOp2 (fB (fEqB false)) (gCall fLen (gCons (gVar 0) gNil)) (gC (.int 0)))) (gRaise "TextError") gNext)
  (gSeq (gSet 1 (gFn 1 m_number_in_listing (gCons (gOp2 fIx (gVar 0) (gC (.int 0))) gNil)))
  (gSeq (gIfS (gOr (gTB (gOp2 (fB fLt) (gVar 1) (gC (.int 0)))) (gTB (gOp2 (fB fGt) (gVar 1) (gOp2 iSub (gCall fLen (gCons (gVar 0) gNil)) (gC (.int 1)))))) (gRaise "TextError") gNext)
  (gRet (gTup (gCons (gCall fTuple (gCons (gLcE (.one 2) [2] (gSeqL (gSl (gVar 0) (gPart (gC (.int 1))) (gPart (gOp2 fAdd (gC (.int 1)) (gVar 1))))) gYes (gFn 1 m_number_in_listing (gCons (gVar 2) gNil))) gNil)) (gCons (gSl (gVar 0) (gPart (gOp2 fAdd (gC (.int 1)) (gVar 1))) gNoPart) gNil)))))))
def m_group_in : Fn := fnD 3 g_group_in
def g_kind_in : GS := (gSeq (gIfS (gTB (gOp2 (fB (fIn true)) (gVar 0) (gC (.tup [(.str "add"), (.str "sub"), (.str "mul"), (.str "max"), (.str "min"), (.str "less"), (.str "equal"), (.str "neg"), (.str "clamp"), (.str "shift"), (.str "where")])))) (gRaise "TextError") gNext)
  (gRetV 0))
def m_kind_in : Fn := fnD 1 g_kind_in
def g_do_in : GS := (gSeq (gIfS (gTB (gOp2 (fB fLt) (gCall fLen (gCons (gVar 0) gNil)) (gC (.int 3)))) (gRaise "TextError") gNext)
  (gSeq (gSet 1 (gFn 1 m_kind_in (gCons (gOp2 fIx (gVar 0) (gC (.int 1))) gNil)))
  (gSeq (gSet 2 (gFn 1 m_number_in_listing (gCons (gOp2 fIx (gVar 0) (gC (.int 2))) gNil)))
  (gSeq (gUnpT [3, 4] (gFn 1 m_group_in (gCons (gSl (gVar 0) (gPart (gC (.int 3))) gNoPart) gNil)))
  (gSeq (gUnpT [5, 4] (gFn 1 m_group_in (gCons (gVar 4) gNil)))
  (gSeq (gIfS (gTB (gOp2 (fB fGt) (gCall fLen (gCons (gVar 4) gNil)) (gC (.int 0)))) (gRaise "TextError") gNext)
  (gRet (gTup (gCons (gC (.str "do")) (gCons (gVar 1) (gCons (gVar 2) (gCons (gVar 3) (gCons (gVar 5) gNil)))))))))))))
def m_do_in : Fn := fnD 6 g_do_in
def g_instruction_in : GS := (gSeq (gSet 1 (gSplit (gVar 0) (gC (.str " "))))
  (gSeq (gSet 2 (gOp2 fIx (gVar 1) (gC (.int 0))))
  (gSeq (gIfS (gTB (gInT tab_LENGTHS true (gVar 2))) (gRaise "TextError") gNext)
  (gSeq (gIfS (gTB (gOp2 (fB (fEqB false)) (gVar 2) (gC (.str "do")))) (gRet (gFn 1 m_do_in (gCons (gVar 1) gNil))) gNext)
  (gSeq (gIfS (gTB (gOp2 (fB (fEqB true)) (gCall fLen (gCons (gVar 1) gNil)) (gItT tab_LENGTHS (gVar 2)))) (gRaise "TextError") gNext)
  (gSeq (gIfS (gTB (gOp2 (fB (fEqB false)) (gVar 2) (gC (.str "vector")))) (gRet (gOp2 fAdd (gTup (gCons (gVar 2) (gCons (gFn 1 m_kind_in (gCons (gOp2 fIx (gVar 1) (gC (.int 1))) gNil)) gNil))) (gCall fTuple (gCons (gLcE (.one 3) [3] (gSeqL (gSl (gVar 1) (gPart (gC (.int 2))) gNoPart)) gYes (gFn 1 m_number_in_listing (gCons (gVar 3) gNil))) gNil)))) gNext)
  (gRet (gOp2 fAdd (gTup (gCons (gVar 2) gNil)) (gCall fTuple (gCons (gLcE (.one 3) [3] (gSeqL (gSl (gVar 1) (gPart (gC (.int 1))) gNoPart)) gYes (gFn 1 m_number_in_listing (gCons (gVar 3) gNil))) gNil))))))))))
def m_instruction_in : Fn := fnD 4 g_instruction_in
def g_read_code : GS := (gSeq (gExpr (gFn 1 m_check_machine (gCons (gVar 0) gNil)))
  (gSeq (gSet 2 (gSplit (gVar 1) (gC (.str "\n"))))
  (gSeq (gIfS (gTB (gOp2 (fB (fEqB true)) (gOp2 fIx (gVar 2) (gOp1 fNeg (gC (.int 1)))) (gC (.str "")))) (gRaise "TextError") gNext)
  (gSeq (gSet 3 (gCall fTuple (gCons (gLcE (.one 4) [4] (gSeqL (gSl (gVar 2) gNoPart (gPart (gOp1 fNeg (gC (.int 1)))))) gYes (gFn 1 m_instruction_in (gCons (gVar 4) gNil))) gNil)))
  (gSeq (gExpr (gFn 2 m_check_code (gCons (gVar 0) (gCons (gVar 3) gNil))))
  (gRetV 3))))))
def m_read_code : Fn := fnD 5 g_read_code
def g_letters_of : GS := (gRet (gJoin (gC (.str "")) (gLc (.one 1) [1] (gSeqL (gVar 0)) gYes (gOp2 fIx (gVar 1) (gC (.int 0))))))
def m_letters_of : Fn := fnD 2 g_letters_of
def g_same_but : GS := (gSeq (gIfS (gTB (gOp2 (fB (fEqB true)) (gFn 1 m_letters_of (gCons (gVar 0) gNil)) (gFn 1 m_letters_of (gCons (gVar 1) gNil)))) (gRet (gC (.bl false))) gNext)
  (gSeq (gFor (.one 3) (gRangeI fRange1 (gCons (gCall fLen (gCons (gVar 0) gNil)) gNil)) (gIfS (gAnd (gTB (gOp2 (fB (fEqB true)) (gOp2 fIx (gOp2 fIx (gVar 0) (gVar 3)) (gC (.int 0))) (gVar 2))) (gTB (gOp2 (fB (fEqB true)) (gOp2 fIx (gOp2 fIx (gVar 0) (gVar 3)) (gC (.int 1))) (gOp2 fIx (gOp2 fIx (gVar 1) (gVar 3)) (gC (.int 1)))))) (gRet (gC (.bl false))) gNext))
  (gRet (gC (.bl true)))))
def m_same_but : Fn := fnD 4 g_same_but
def g_check_axes : GS := (gSeq (gIfS (gTB (gOp2 (fB (fIn false)) (gVar 0) (gTup (gCons (gC (.str "input")) (gCons (gC (.str "const")) gNil))))) (fun _ => .ok (.ret (.p .non))) gNext)
  (gSeq (gSet 3 (gFn 1 m_letters_of (gCons (gOp2 fIx (gVar 2) (gC (.int 0))) gNil)))
  (gSeq (gSet 4 (gC (.bl true)))
  (gSeq (gIfS (gTB (gOp2 (fB (fIn false)) (gVar 0) (gC (.tup [(.str "sum"), (.str "peak"), (.str "dot"), (.str "rename"), (.str "cut"), (.str "pad"), (.str "join"), (.str "window"), (.str "fold"), (.str "gather")])))) (gSet 4 (gOp2 (fB (fIn false)) (gOp2 fIx (gVar 1) (gC (.int 0))) (gCall fListZ (gCons (gVar 3) gNil)))) gNext)
  (gSeq (gIfS (gTB (gOp2 (fB (fIn false)) (gVar 0) (gTup (gCons (gC (.str "dot")) (gCons (gC (.str "join")) gNil))))) (gSet 4 (gAndV (gVar 4) (gOp2 (fB (fIn false)) (gOp2 fIx (gVar 1) (gC (.int 0))) (gCall fListZ (gCons (gFn 1 m_letters_of (gCons (gOp2 fIx (gVar 2) (gC (.int 1))) gNil)) gNil))))) gNext)
  (gSeq (gIfS (gTB (gOp2 (fB (fEqB false)) (gVar 0) (gC (.str "order")))) (gSet 4 (gOp2 (fB (fEqB false)) (gCall fSortZ (gCons (gOp2 fIx (gVar 1) (gC (.int 0))) gNil)) (gCall fSortZ (gCons (gVar 3) gNil)))) (gIfS (gTB (gOp2 (fB (fIn false)) (gVar 0) (gTup (gCons (gC (.str "rename")) (gCons (gC (.str "window")) gNil))))) (gSet 4 (gAndV (gVar 4) (gOp2 (fB (fIn true)) (gOp2 fIx (gVar 1) (gC (.int 1))) (gCall fListZ (gCons (gVar 3) gNil))))) (gIfS (gTB (gOp2 (fB (fEqB false)) (gVar 0) (gC (.str "spread")))) (gSet 4 (gOp2 (fB (fIn true)) (gOp2 fIx (gVar 1) (gC (.int 0))) (gCall fListZ (gCons (gVar 3) gNil)))) (gIfS (gTB (gOp2 (fB (fEqB false)) (gVar 0) (gC (.str "fold")))) (gSet 4 (gAndV (gVar 4) (gAndV (gOp2 (fB (fIn false)) (gOp2 fIx (gVar 1) (gC (.int 1))) (gCall fListZ (gCons (gVar 3) gNil))) (gOp2 (fB (fEqB true)) (gOp2 fIx (gVar 1) (gC (.int 1))) (gOp2 fIx (gVar 1) (gC (.int 0))))))) (gIfS (gTB (gOp2 (fB (fEqB false)) (gVar 0) (gC (.str "join")))) (gSet 4 (gAndV (gVar 4) (gFn 3 m_same_but (gCons (gOp2 fIx (gVar 2) (gC (.int 0))) (gCons (gOp2 fIx (gVar 2) (gC (.int 1))) (gCons (gOp2 fIx (gVar 1) (gC (.int 0))) gNil)))))) (gIfS (gTB (gOp2 (fB (fEqB false)) (gVar 0) (gC (.str "gather")))) (gSet 4 (gAndV (gVar 4) (gNotV (gCall (fAnyAll fun bs => bs.any id) (gCons (gLc (.one 5) [5] (gSeqL (gFn 1 m_letters_of (gCons (gOp2 fIx (gVar 2) (gC (.int 1))) gNil))) gYes (gOp2 (fB (fIn false)) (gVar 5) (gCall fListZ (gCons (gVar 3) gNil)))) gNil))))) gNext))))))
  (gIfS (gNot (gTru (gVar 4))) (gRaise "AxisError") gNext)))))))
def m_check_axes : Fn := fnD 6 g_check_axes
def g_size_on : GS := (gSeq (gForV (.one 2) 0 (gIfS (gTB (gOp2 (fB (fEqB false)) (gOp2 fIx (gVar 2) (gC (.int 0))) (gVar 1))) (gRet (gOp2 fIx (gVar 2) (gC (.int 1)))) gNext))
  (gRet (gC (.int 0))))
def m_size_on : Fn := fnD 3 g_size_on
def g_check_extents : GS := (gSeq (gSet 3 (gC (.bl true)))
  (gSeq (gIfS (gTB (gOp2 (fB (fEqB false)) (gVar 0) (gC (.str "cut")))) (gSet 3 (gOp2 (fB fLe) (gOp2 fAdd (gOp2 fIx (gVar 1) (gC (.int 1))) (gOp2 fIx (gVar 1) (gC (.int 2)))) (gFn 2 m_size_on (gCons (gOp2 fIx (gVar 2) (gC (.int 0))) (gCons (gOp2 fIx (gVar 1) (gC (.int 0))) gNil))))) (gIfS (gTB (gOp2 (fB (fEqB false)) (gVar 0) (gC (.str "window")))) (gSet 3 (gOp2 (fB fLe) (gOp2 fIx (gVar 1) (gC (.int 2))) (gFn 2 m_size_on (gCons (gOp2 fIx (gVar 2) (gC (.int 0))) (gCons (gOp2 fIx (gVar 1) (gC (.int 0))) gNil))))) (gIfS (gTB (gOp2 (fB (fEqB false)) (gVar 0) (gC (.str "fold")))) (gSeq (gSet 4 (gFn 2 m_size_on (gCons (gOp2 fIx (gVar 2) (gC (.int 0))) (gCons (gOp2 fIx (gVar 1) (gC (.int 0))) gNil))))
  (gSet 3 (gOp2 (fB fLe) (gOp2 fAdd (gOp2 fMul (gOp2 fIx (gVar 1) (gC (.int 2))) (gOp2 iSub (gVar 4) (gC (.int 1)))) (gFn 2 m_size_on (gCons (gOp2 fIx (gVar 2) (gC (.int 0))) (gCons (gOp2 fIx (gVar 1) (gC (.int 1))) gNil)))) (gOp2 fIx (gVar 1) (gC (.int 3)))))) gNext)))
  (gIfS (gNot (gTru (gVar 3))) (gRaise "RangeError") gNext)))
def m_check_extents : Fn := fnD 5 g_check_extents
def g_within : GS := (gSeq (gForV (.one 3) 0 (gIfS (gOr (gTB (gOp2 (fB fLt) (gVar 3) (gVar 1))) (gTB (gOp2 (fB fGt) (gVar 3) (gVar 2)))) (gRet (gC (.bl false))) gNext))
  (gRet (gC (.bl true))))
def m_within : Fn := fnD 4 g_within
def g_check_fields : GS := (gSeq (gSet 2 (gFn 2 m_fields_in_range (gCons (gVar 0) (gCons (gVar 1) gNil))))
  (gSeq (gIfS (gTB (gOp2 (fB (fEqB false)) (gVar 0) (gC (.str "input")))) (gSet 2 (gOp2 (fB fLe) (gOp2 fIx (gVar 1) (gC (.int 1))) (gOp2 fIx (gVar 1) (gC (.int 2))))) (gIfS (gTB (gOp2 (fB (fEqB false)) (gVar 0) (gC (.str "spread")))) (gSet 2 (gFn 3 m_within (gCons (gSl (gVar 1) (gPart (gC (.int 1))) gNoPart) (gCons (gC (.int 1)) (gCons (gC (.int 16)) gNil))))) (gIfS (gTB (gOp2 (fB (fEqB false)) (gVar 0) (gC (.str "cut")))) (gSet 2 (gAndV (gFn 3 m_within (gCons (gSl (gVar 1) (gPart (gC (.int 1))) (gPart (gC (.int 2)))) (gCons (gC (.int 0)) (gCons (gC (.int 16)) gNil)))) (gFn 3 m_within (gCons (gSl (gVar 1) (gPart (gC (.int 2))) gNoPart) (gCons (gC (.int 1)) (gCons (gC (.int 16)) gNil)))))) (gIfS (gTB (gOp2 (fB (fEqB false)) (gVar 0) (gC (.str "pad")))) (gSet 2 (gFn 3 m_within (gCons (gSl (gVar 1) (gPart (gC (.int 1))) gNoPart) (gCons (gC (.int 0)) (gCons (gC (.int 16)) gNil))))) (gIfS (gOr (gTB (gOp2 (fB (fEqB false)) (gVar 0) (gC (.str "window")))) (gTB (gOp2 (fB (fEqB false)) (gVar 0) (gC (.str "fold"))))) (gSet 2 (gFn 3 m_within (gCons (gSl (gVar 1) (gPart (gC (.int 2))) gNoPart) (gCons (gC (.int 1)) (gCons (gC (.int 16)) gNil))))) gNext)))))
  (gIfS (gNot (gTru (gVar 2))) (gRaise "RangeError") gNext)))
def m_check_fields : Fn := fnD 3 g_check_fields
def g_count_of : GS := (gSeq (gSet 1 (gC (.int 1)))
  (gSeq (gForV (.one 2) 0 (gSet 1 (gOp2 fMul (gVar 1) (gOp2 fIx (gVar 2) (gC (.int 1))))))
  (gRetV 1)))
def m_count_of : Fn := fnD 3 g_count_of
def g_check_form : GS := (gSeq (gUnpT [2, 3, 4] (gVar 0))
  (gSeq (gIfS (gTB (gInT tab_ARGS true (gVar 2))) (gRaise "KindError") gNext)
  (gSeq (gIfS (gOr (gTB (gOp2 (fB (fEqB true)) (gCall fLen (gCons (gVar 3) gNil)) (gItT tab_ARGS (gVar 2)))) (gTB (gOp2 (fB (fEqB true)) (gCall fLen (gCons (gVar 4) gNil)) (gItT tab_FIELDS (gVar 2))))) (gRaise "FormError") gNext)
  (gSeq (gIfS (gAnd (gTB (gOp2 (fB (fEqB false)) (gVar 2) (gC (.str "const")))) (gTB (gOp2 (fB (fEqB true)) (gCall fLen (gCons (gOp2 fIx (gVar 4) (gC (.int 1))) gNil)) (gFn 1 m_count_of (gCons (gOp2 fIx (gVar 4) (gC (.int 0))) gNil))))) (gRaise "FormError") gNext)
  (gForV (.one 5) 3 (gIfS (gOr (gTB (gOp2 (fB fLt) (gVar 5) (gC (.int 0)))) (gTB (gOp2 (fB fGe) (gVar 5) (gCall fLen (gCons (gVar 1) gNil))))) (gRaise "FormError") gNext))))))
def m_check_form : Fn := fnD 6 g_check_form
def g_check_letters : GS := (gSeq (gSet 1 (gFn 1 m_letters_of (gCons (gVar 0) gNil)))
  (gFor (.one 2) (gRangeI fRange1 (gCons (gCall fLen (gCons (gVar 1) gNil)) gNil)) (gIfS (gTB (gOp2 (fB (fIn false)) (gOp2 fIx (gVar 1) (gVar 2)) (gSl (gVar 1) gNoPart (gPart (gVar 2))))) (gRaise "AxisError") gNext)))
def m_check_letters : Fn := fnD 3 g_check_letters
def g_check_shape : GS := (gSeq (gIfS (gTB (gOp2 (fB fGt) (gCall fLen (gCons (gVar 0) gNil)) (gC (.int 4)))) (gRaise "RankError") gNext)
  (gSeq (gExpr (gFn 1 m_check_letters (gCons (gVar 0) gNil)))
  (gSeq (gForV (.one 1) 0 (gIfS (gOr (gTB (gOp2 (fB fLt) (gOp2 fIx (gVar 1) (gC (.int 1))) (gC (.int 1)))) (gTB (gOp2 (fB fGt) (gOp2 fIx (gVar 1) (gC (.int 1))) (gC (.int 16))))) (gRaise "RangeError") gNext))
  (gIfS (gTB (gOp2 (fB fGt) (gFn 1 m_count_of (gCons (gVar 0) gNil)) (gC (.int 256)))) (gRaise "TooLarge") gNext))))
def m_check_shape : Fn := fnD 2 g_check_shape
def g_corners : GS := (gSeq (gSet 2 (gLst (gCons (gOp2 fMul (gOp2 fIx (gVar 0) (gC (.int 0))) (gOp2 fIx (gVar 1) (gC (.int 0)))) (gCons (gOp2 fMul (gOp2 fIx (gVar 0) (gC (.int 0))) (gOp2 fIx (gVar 1) (gC (.int 1)))) (gCons (gOp2 fMul (gOp2 fIx (gVar 0) (gC (.int 1))) (gOp2 fIx (gVar 1) (gC (.int 0)))) (gCons (gOp2 fMul (gOp2 fIx (gVar 0) (gC (.int 1))) (gOp2 fIx (gVar 1) (gC (.int 1)))) gNil))))))
  (gRet (gTup (gCons (gCall fMinA (gCons (gVar 2) gNil)) (gCons (gCall fMaxA (gCons (gVar 2) gNil)) gNil)))))
def m_corners : Fn := fnD 3 g_corners
def g_other_span : GS := (gSeq (gIfS (gTB (gOp2 (fB (fEqB false)) (gVar 0) (gC (.str "input")))) (gRet (gTup (gCons (gOp2 fIx (gVar 1) (gC (.int 1))) (gCons (gOp2 fIx (gVar 1) (gC (.int 2))) gNil)))) gNext)
  (gSeq (gIfS (gTB (gOp2 (fB (fEqB false)) (gVar 0) (gC (.str "const")))) (gRet (gTup (gCons (gCall fMinA (gCons (gOp2 fIx (gVar 1) (gC (.int 1))) gNil)) (gCons (gCall fMaxA (gCons (gOp2 fIx (gVar 1) (gC (.int 1))) gNil)) gNil)))) gNext)
  (gSeq (gUnpT [4, 5] (gOp2 fIx (gVar 3) (gC (.int 0))))
  (gSeq (gIfS (gTB (gOp2 (fB (fEqB false)) (gVar 0) (gC (.str "sum")))) (gRet (gTup (gCons (gOp2 fMul (gFn 2 m_size_on (gCons (gOp2 fIx (gVar 2) (gC (.int 0))) (gCons (gOp2 fIx (gVar 1) (gC (.int 0))) gNil))) (gVar 4)) (gCons (gOp2 fMul (gFn 2 m_size_on (gCons (gOp2 fIx (gVar 2) (gC (.int 0))) (gCons (gOp2 fIx (gVar 1) (gC (.int 0))) gNil))) (gVar 5)) gNil)))) gNext)
  (gSeq (gIfS (gTB (gOp2 (fB (fEqB false)) (gVar 0) (gC (.str "dot")))) (gSeq (gSet 6 (gFn 2 m_size_on (gCons (gOp2 fIx (gVar 2) (gC (.int 0))) (gCons (gOp2 fIx (gVar 1) (gC (.int 0))) gNil))))
  (gSeq (gUnpT [7, 8] (gFn 2 m_corners (gCons (gOp2 fIx (gVar 3) (gC (.int 0))) (gCons (gOp2 fIx (gVar 3) (gC (.int 1))) gNil))))
  (gRet (gTup (gCons (gOp2 fMul (gVar 6) (gVar 7)) (gCons (gOp2 fMul (gVar 6) (gVar 8)) gNil)))))) gNext)
  (gSeq (gIfS (gTB (gOp2 (fB (fEqB false)) (gVar 0) (gC (.str "pad")))) (gRet (gTup (gCons (gCall fMinA (gCons (gVar 4) (gCons (gC (.int 0)) gNil))) (gCons (gCall fMaxA (gCons (gVar 5) (gCons (gC (.int 0)) gNil))) gNil)))) gNext)
  (gSeq (gIfS (gTB (gOp2 (fB (fEqB false)) (gVar 0) (gC (.str "join")))) (gRet (gTup (gCons (gCall fMinA (gCons (gVar 4) (gCons (gOp2 fIx (gOp2 fIx (gVar 3) (gC (.int 1))) (gC (.int 0))) gNil))) (gCons (gCall fMaxA (gCons (gVar 5) (gCons (gOp2 fIx (gOp2 fIx (gVar 3) (gC (.int 1))) (gC (.int 1))) gNil))) gNil)))) gNext)
  (gSeq (gIfS (gTB (gOp2 (fB (fEqB false)) (gVar 0) (gC (.str "fold")))) (gSeq (gSet 6 (gFn 2 m_size_on (gCons (gOp2 fIx (gVar 2) (gC (.int 0))) (gCons (gOp2 fIx (gVar 1) (gC (.int 1))) gNil))))
  (gRet (gTup (gCons (gCall fMinA (gCons (gOp2 fMul (gVar 6) (gVar 4)) (gCons (gC (.int 0)) gNil))) (gCons (gCall fMaxA (gCons (gOp2 fMul (gVar 6) (gVar 5)) (gCons (gC (.int 0)) gNil))) gNil))))) gNext)
  (gRet (gTup (gCons (gVar 4) (gCons (gVar 5) gNil))))))))))))
def m_other_span : Fn := fnD 9 g_other_span
def g_limit : GS := (gSeq (gIfS (gTB (gOp2 (fB fLt) (gVar 0) (gVar 1))) (gRetV 1) gNext)
  (gSeq (gIfS (gTB (gOp2 (fB fGt) (gVar 0) (gVar 2))) (gRetV 2) gNext)
  (gRetV 0)))
def m_limit : Fn := fnD 3 g_limit
def g_round_off : GS := (gRet (gOp2 (fIntC (fun _ j => 0 ≤ j) fun i j => i / 2 ^ j.toNat) (gOp2 fAdd (gVar 0) (gOp2 (fIntC CShl fun i j => i * 2 ^ j.toNat) (gC (.int 1)) (gOp2 iSub (gVar 1) (gC (.int 1))))) (gVar 1)))
def m_round_off : Fn := fnD 2 g_round_off
def g_pointwise_span : GS := (gSeq (gUnpT [3, 4] (gOp2 fIx (gVar 2) (gC (.int 0))))
  (gSeq (gIfS (gTB (gOp2 (fB (fEqB false)) (gVar 0) (gC (.str "neg")))) (gRet (gTup (gCons (gOp1 fNeg (gVar 4)) (gCons (gOp1 fNeg (gVar 3)) gNil)))) gNext)
  (gSeq (gIfS (gTB (gOp2 (fB (fEqB false)) (gVar 0) (gC (.str "clamp")))) (gRet (gTup (gCons (gFn 3 m_limit (gCons (gVar 3) (gCons (gOp2 fIx (gVar 1) (gC (.int 0))) (gCons (gOp2 fIx (gVar 1) (gC (.int 1))) gNil)))) (gCons (gFn 3 m_limit (gCons (gVar 4) (gCons (gOp2 fIx (gVar 1) (gC (.int 0))) (gCons (gOp2 fIx (gVar 1) (gC (.int 1))) gNil)))) gNil)))) gNext)
  (gSeq (gIfS (gTB (gOp2 (fB (fEqB false)) (gVar 0) (gC (.str "shift")))) (gRet (gTup (gCons (gFn 2 m_round_off (gCons (gVar 3) (gCons (gOp2 fIx (gVar 1) (gC (.int 0))) gNil))) (gCons (gFn 2 m_round_off (gCons (gVar 4) (gCons (gOp2 fIx (gVar 1) (gC (.int 0))) gNil))) gNil)))) gNext)
  (gSeq (gUnpT [5, 6] (gOp2 fIx (gVar 2) (gC (.int 1))))
  (gSeq (gIfS (gTB (gOp2 (fB (fEqB false)) (gVar 0) (gC (.str "add")))) (gRet (gTup (gCons (gOp2 fAdd (gVar 3) (gVar 5)) (gCons (gOp2 fAdd (gVar 4) (gVar 6)) gNil)))) gNext)
  (gSeq (gIfS (gTB (gOp2 (fB (fEqB false)) (gVar 0) (gC (.str "sub")))) (gRet (gTup (gCons (gOp2 iSub (gVar 3) (gVar 6)) (gCons (gOp2 iSub (gVar 4) (gVar 5)) gNil)))) gNext)
  (gSeq (gIfS (gTB (gOp2 (fB (fEqB false)) (gVar 0) (gC (.str "mul")))) (gRet (gFn 2 m_corners (gCons (gOp2 fIx (gVar 2) (gC (.int 0))) (gCons (gOp2 fIx (gVar 2) (gC (.int 1))) gNil)))) gNext)
  (gSeq (gIfS (gTB (gOp2 (fB (fEqB false)) (gVar 0) (gC (.str "max")))) (gRet (gTup (gCons (gCall fMaxA (gCons (gVar 3) (gCons (gVar 5) gNil))) (gCons (gCall fMaxA (gCons (gVar 4) (gCons (gVar 6) gNil))) gNil)))) gNext)
  (gSeq (gIfS (gTB (gOp2 (fB (fEqB false)) (gVar 0) (gC (.str "min")))) (gRet (gTup (gCons (gCall fMinA (gCons (gVar 3) (gCons (gVar 5) gNil))) (gCons (gCall fMinA (gCons (gVar 4) (gCons (gVar 6) gNil))) gNil)))) gNext)
  (gSeq (gIfS (gTB (gOp2 (fB (fEqB false)) (gVar 0) (gC (.str "where")))) (gRet (gTup (gCons (gCall fMinA (gCons (gVar 5) (gCons (gOp2 fIx (gOp2 fIx (gVar 2) (gC (.int 2))) (gC (.int 0))) gNil))) (gCons (gCall fMaxA (gCons (gVar 6) (gCons (gOp2 fIx (gOp2 fIx (gVar 2) (gC (.int 2))) (gC (.int 1))) gNil))) gNil)))) gNext)
  (gRet (gTup (gCons (gC (.int 0)) (gCons (gC (.int 1)) gNil)))))))))))))))
def m_pointwise_span : Fn := fnD 7 g_pointwise_span
def g_spread_together : GS := (gSeq (gSet 2 (gCall fListZ (gCons (gVar 0) gNil)))
  (gSeq (gForV (.one 3) 1 (gSeq (gSet 4 (gFn 2 m_size_on (gCons (gVar 0) (gCons (gOp2 fIx (gVar 3) (gC (.int 0))) gNil))))
  (gIfS (gTB (gOp2 (fB (fEqB false)) (gVar 4) (gC (.int 0)))) (gApp 2 (gVar 3)) (gIfS (gTB (gOp2 (fB (fEqB true)) (gVar 4) (gOp2 fIx (gVar 3) (gC (.int 1))))) (gRaise "AxisError") gNext))))
  (gRet (gCall fTuple (gCons (gVar 2) gNil)))))
def m_spread_together : Fn := fnD 5 g_spread_together
def g_broadcast : GS := (gSeq (gSet 2 (gFn 2 m_spread_together (gCons (gVar 0) (gCons (gVar 1) gNil))))
  (gSeq (gExpr (gFn 1 m_check_shape (gCons (gVar 2) gNil)))
  (gRetV 2)))
def m_broadcast : Fn := fnD 3 g_broadcast
def g_in_place_of : GS := (gSeq (gSet 3 (gLst gNil))
  (gSeq (gForV (.one 4) 0 (gIfS (gTB (gOp2 (fB (fEqB false)) (gOp2 fIx (gVar 4) (gC (.int 0))) (gVar 1))) (gSet 3 (gOp2 fAdd (gVar 3) (gCall fListZ (gCons (gVar 2) gNil)))) (gApp 3 (gVar 4))))
  (gRet (gCall fTuple (gCons (gVar 3) gNil)))))
def m_in_place_of : Fn := fnD 5 g_in_place_of
def g_resized : GS := (gRet (gCall fTuple (gCons (gLc (.one 3) [3] (gSeqL (gVar 0)) gYes (gTup (gCons (gOp2 fIx (gVar 3) (gC (.int 0))) (gCons (gIf (gTB (gOp2 (fB (fEqB false)) (gOp2 fIx (gVar 3) (gC (.int 0))) (gVar 1))) (gVar 2) (gOp2 fIx (gVar 3) (gC (.int 1)))) gNil)))) gNil)))
def m_resized : Fn := fnD 4 g_resized
def g_without : GS := (gRet (gCall fTuple (gCons (gLc (.one 2) [2] (gSeqL (gVar 0)) (gTB (gOp2 (fB (fEqB true)) (gOp2 fIx (gVar 2) (gC (.int 0))) (gVar 1))) (gVar 2)) gNil)))
def m_without : Fn := fnD 3 g_without
def g_raw_shape : GS := (gSeq (gSet 3 (gOp2 fIx (gVar 2) (gC (.int 0))))
  (gSeq (gSet 4 (gIf (gAnd (gTB (gOp2 (fB (fEqB true)) (gVar 0) (gC (.str "spread")))) (gTB (gOp2 (fB (fEqB true)) (gVar 0) (gC (.str "order"))))) (gFn 2 m_size_on (gCons (gVar 3) (gCons (gOp2 fIx (gVar 1) (gC (.int 0))) gNil))) (gC (.int 0))))
  (gSeq (gIfS (gTB (gOp2 (fB (fIn false)) (gVar 0) (gTup (gCons (gC (.str "sum")) (gCons (gC (.str "peak")) gNil))))) (gRet (gFn 2 m_without (gCons (gVar 3) (gCons (gOp2 fIx (gVar 1) (gC (.int 0))) gNil)))) gNext)
  (gSeq (gIfS (gTB (gOp2 (fB (fEqB false)) (gVar 0) (gC (.str "dot")))) (gRet (gFn 2 m_without (gCons (gFn 2 m_spread_together (gCons (gVar 3) (gCons (gOp2 fIx (gVar 2) (gC (.int 1))) gNil))) (gCons (gOp2 fIx (gVar 1) (gC (.int 0))) gNil)))) gNext)
  (gSeq (gIfS (gTB (gOp2 (fB (fEqB false)) (gVar 0) (gC (.str "order")))) (gRet (gCall fTuple (gCons (gLc (.one 5) [5] (gSeqL (gOp2 fIx (gVar 1) (gC (.int 0)))) gYes (gTup (gCons (gVar 5) (gCons (gFn 2 m_size_on (gCons (gVar 3) (gCons (gVar 5) gNil))) gNil)))) gNil))) gNext)
  (gSeq (gIfS (gTB (gOp2 (fB (fEqB false)) (gVar 0) (gC (.str "rename")))) (gRet (gFn 3 m_in_place_of (gCons (gVar 3) (gCons (gOp2 fIx (gVar 1) (gC (.int 0))) (gCons (gTup (gCons (gTup (gCons (gOp2 fIx (gVar 1) (gC (.int 1))) (gCons (gVar 4) gNil))) gNil)) gNil))))) gNext)
  (gSeq (gIfS (gTB (gOp2 (fB (fEqB false)) (gVar 0) (gC (.str "spread")))) (gRet (gOp2 fAdd (gVar 3) (gTup (gCons (gTup (gCons (gOp2 fIx (gVar 1) (gC (.int 0))) (gCons (gOp2 fIx (gVar 1) (gC (.int 1))) gNil))) gNil)))) gNext)
  (gSeq (gIfS (gTB (gOp2 (fB (fEqB false)) (gVar 0) (gC (.str "cut")))) (gRet (gFn 3 m_resized (gCons (gVar 3) (gCons (gOp2 fIx (gVar 1) (gC (.int 0))) (gCons (gOp2 fIx (gVar 1) (gC (.int 2))) gNil))))) gNext)
  (gSeq (gIfS (gTB (gOp2 (fB (fEqB false)) (gVar 0) (gC (.str "pad")))) (gRet (gFn 3 m_resized (gCons (gVar 3) (gCons (gOp2 fIx (gVar 1) (gC (.int 0))) (gCons (gOp2 fAdd (gOp2 fAdd (gOp2 fIx (gVar 1) (gC (.int 1))) (gVar 4)) (gOp2 fIx (gVar 1) (gC (.int 2)))) gNil))))) gNext)
  (gSeq (gIfS (gTB (gOp2 (fB (fEqB false)) (gVar 0) (gC (.str "join")))) (gRet (gFn 3 m_resized (gCons (gVar 3) (gCons (gOp2 fIx (gVar 1) (gC (.int 0))) (gCons (gOp2 fAdd (gVar 4) (gFn 2 m_size_on (gCons (gOp2 fIx (gVar 2) (gC (.int 1))) (gCons (gOp2 fIx (gVar 1) (gC (.int 0))) gNil)))) gNil))))) gNext)
  (gSeq (gIfS (gTB (gOp2 (fB (fEqB false)) (gVar 0) (gC (.str "window")))) (gRet (gFn 3 m_in_place_of (gCons (gVar 3) (gCons (gOp2 fIx (gVar 1) (gC (.int 0))) (gCons (gTup (gCons (gTup (gCons (gOp2 fIx (gVar 1) (gC (.int 0))) (gCons (gOp2 fAdd (gOp2 fDiv (gOp2 iSub (gVar 4) (gOp2 fIx (gVar 1) (gC (.int 2)))) (gOp2 fIx (gVar 1) (gC (.int 3)))) (gC (.int 1))) gNil))) (gCons (gTup (gCons (gOp2 fIx (gVar 1) (gC (.int 1))) (gCons (gOp2 fIx (gVar 1) (gC (.int 2))) gNil))) gNil))) gNil))))) gNext)
  (gSeq (gIfS (gTB (gOp2 (fB (fEqB false)) (gVar 0) (gC (.str "fold")))) (gRet (gFn 3 m_resized (gCons (gFn 2 m_without (gCons (gVar 3) (gCons (gOp2 fIx (gVar 1) (gC (.int 1))) gNil))) (gCons (gOp2 fIx (gVar 1) (gC (.int 0))) (gCons (gOp2 fIx (gVar 1) (gC (.int 3))) gNil))))) gNext)
  (gRet (gFn 3 m_in_place_of (gCons (gVar 3) (gCons (gOp2 fIx (gVar 1) (gC (.int 0))) (gCons (gOp2 fIx (gVar 2) (gC (.int 1))) gNil)))))))))))))))))
def m_raw_shape : Fn := fnD 6 g_raw_shape
def g_shape_of : GS := (gSeq (gIfS (gTB (gOp2 (fB (fIn false)) (gVar 0) (gTup (gCons (gC (.str "input")) (gCons (gC (.str "const")) gNil))))) (gRet (gOp2 fIx (gVar 1) (gC (.int 0)))) gNext)
  (gSeq (gIfS (gTB (gOp2 (fB (fIn false)) (gVar 0) (gC (.tup [(.str "add"), (.str "sub"), (.str "mul"), (.str "max"), (.str "min"), (.str "less"), (.str "equal"), (.str "where")])))) (gSeq (gSet 3 (gOp2 fIx (gVar 2) (gC (.int 0))))
  (gSeq (gFor (.one 4) (gSeqI (gSl (gVar 2) (gPart (gC (.int 1))) gNoPart)) (gSet 3 (gFn 2 m_broadcast (gCons (gVar 3) (gCons (gVar 4) gNil)))))
  (gRetV 3))) gNext)
  (gSeq (gIfS (gTB (gOp2 (fB (fIn false)) (gVar 0) (gTup (gCons (gC (.str "neg")) (gCons (gC (.str "clamp")) (gCons (gC (.str "shift")) gNil)))))) (gRet (gOp2 fIx (gVar 2) (gC (.int 0)))) gNext)
  (gSeq (gSet 3 (gFn 3 m_raw_shape (gCons (gVar 0) (gCons (gVar 1) (gCons (gVar 2) gNil)))))
  (gSeq (gExpr (gFn 1 m_check_shape (gCons (gVar 3) gNil)))
  (gRetV 3))))))
def m_shape_of : Fn := fnD 5 g_shape_of
def g_domain_of : GS := (gSeq (gExpr (gFn 2 m_check_form (gCons (gVar 0) (gCons (gVar 1) gNil))))
  (gSeq (gUnpT [2, 3, 4] (gVar 0))
  (gSeq (gExpr (gFn 2 m_check_fields (gCons (gVar 2) (gCons (gVar 4) gNil))))
  (gSeq (gIfS (gTB (gOp2 (fB (fIn false)) (gVar 2) (gTup (gCons (gC (.str "input")) (gCons (gC (.str "const")) gNil))))) (gExpr (gFn 1 m_check_shape (gCons (gOp2 fIx (gVar 4) (gC (.int 0))) gNil))) gNext)
  (gSeq (gSet 5 (gLc (.one 10) [10] (gSeqL (gVar 3)) gYes (gOp2 fIx (gOp2 fIx (gVar 1) (gVar 10)) (gC (.int 0)))))
  (gSeq (gSet 6 (gLc (.one 10) [10] (gSeqL (gVar 3)) gYes (gTup (gCons (gOp2 fIx (gOp2 fIx (gVar 1) (gVar 10)) (gC (.int 1))) (gCons (gOp2 fIx (gOp2 fIx (gVar 1) (gVar 10)) (gC (.int 2))) gNil)))))
  (gSeq (gExpr (gFn 3 m_check_axes (gCons (gVar 2) (gCons (gVar 4) (gCons (gVar 5) gNil)))))
  (gSeq (gExpr (gFn 3 m_check_extents (gCons (gVar 2) (gCons (gVar 4) (gCons (gVar 5) gNil)))))
  (gSeq (gSet 7 (gFn 3 m_shape_of (gCons (gVar 2) (gCons (gVar 4) (gCons (gVar 5) gNil)))))
  (gSeq (gIfS (gOr (gTB (gOp2 (fB (fIn false)) (gVar 2) (gC (.tup [(.str "add"), (.str "sub"), (.str "mul"), (.str "max"), (.str "min"), (.str "less"), (.str "equal"), (.str "where")])))) (gTB (gOp2 (fB (fIn false)) (gVar 2) (gTup (gCons (gC (.str "neg")) (gCons (gC (.str "clamp")) (gCons (gC (.str "shift")) gNil))))))) (gUnpT [8, 9] (gFn 3 m_pointwise_span (gCons (gVar 2) (gCons (gVar 4) (gCons (gVar 6) gNil))))) (gUnpT [8, 9] (gFn 4 m_other_span (gCons (gVar 2) (gCons (gVar 4) (gCons (gVar 5) (gCons (gVar 6) gNil)))))))
  (gSeq (gIfS (gOr (gTB (gOp2 (fB fLt) (gVar 8) (gOp1 fNeg (gC (.int 1606938044258990275541962092341162602522202993782792835301376))))) (gTB (gOp2 (fB fGt) (gVar 9) (gC (.int 1606938044258990275541962092341162602522202993782792835301376))))) (gRaise "TooWide") gNext)
  (gRet (gTup (gCons (gVar 7) (gCons (gVar 8) (gCons (gVar 9) gNil))))))))))))))))
def m_domain_of : Fn := fnD 11 g_domain_of
def g_node_work : GS := (gSeq (gUnpT [3, 4, 5] (gVar 0))
  (gSeq (gIfS (gTB (gOp2 (fB (fIn false)) (gVar 3) (gTup (gCons (gC (.str "input")) (gCons (gC (.str "const")) gNil))))) (gRet (gC (.int 0))) gNext)
  (gSeq (gIfS (gTB (gOp2 (fB (fIn false)) (gVar 3) (gTup (gCons (gC (.str "sum")) (gCons (gC (.str "peak")) (gCons (gC (.str "fold")) gNil)))))) (gRet (gFn 1 m_count_of (gCons (gOp2 fIx (gOp2 fIx (gVar 1) (gOp2 fIx (gVar 4) (gC (.int 0)))) (gC (.int 0))) gNil))) gNext)
  (gSeq (gIfS (gTB (gOp2 (fB (fEqB false)) (gVar 3) (gC (.str "dot")))) (gRet (gOp2 fMul (gFn 1 m_count_of (gCons (gVar 2) gNil)) (gFn 2 m_size_on (gCons (gOp2 fIx (gOp2 fIx (gVar 1) (gOp2 fIx (gVar 4) (gC (.int 0)))) (gC (.int 0))) (gCons (gOp2 fIx (gVar 5) (gC (.int 0))) gNil))))) gNext)
  (gRet (gFn 1 m_count_of (gCons (gVar 2) gNil)))))))
def m_node_work : Fn := fnD 6 g_node_work
def g_total_work : GS := (gSeq (gSet 2 (gC (.int 0)))
  (gSeq (gFor (.one 3) (gRangeI fRange1 (gCons (gCall fLen (gCons (gVar 0) gNil)) gNil)) (gSet 2 (gOp2 fAdd (gVar 2) (gFn 3 m_node_work (gCons (gOp2 fIx (gVar 0) (gVar 3)) (gCons (gVar 1) (gCons (gOp2 fIx (gOp2 fIx (gVar 1) (gVar 3)) (gC (.int 0))) gNil)))))))
  (gRetV 2)))
def m_total_work : Fn := fnD 4 g_total_work
def g_check_graph : GS := (gSeq (gUnpT [1, 2] (gVar 0))
  (gSeq (gIfS (gTB (gOp2 (fB fGt) (gCall fLen (gCons (gVar 1) gNil)) (gC (.int 400)))) (gRaise "TooLarge") gNext)
  (gSeq (gSet 3 (gLst gNil))
  (gSeq (gForV (.one 4) 1 (gApp 3 (gFn 2 m_domain_of (gCons (gVar 4) (gCons (gCall fTuple (gCons (gVar 3) gNil)) gNil)))))
  (gSeq (gIfS (gTB (gOp2 (fB (fEqB false)) (gCall fLen (gCons (gVar 2) gNil)) (gC (.int 0)))) (gRaise "FormError") gNext)
  (gSeq (gForV (.one 5) 2 (gIfS (gOr (gTB (gOp2 (fB fLt) (gVar 5) (gC (.int 0)))) (gTB (gOp2 (fB fGe) (gVar 5) (gCall fLen (gCons (gVar 1) gNil))))) (gRaise "FormError") gNext))
  (gSeq (gIfS (gTB (gOp2 (fB fGt) (gFn 2 m_total_work (gCons (gVar 1) (gCons (gVar 3) gNil))) (gC (.int 50000)))) (gRaise "TooLarge") gNext)
  (gRet (gCall fTuple (gCons (gVar 3) gNil))))))))))
def m_check_graph : Fn := fnD 6 g_check_graph
def g_letter_in : GS := (gSeq (gIfS (gOr (gTB (gOp2 (fB (fEqB true)) (gCall fLen (gCons (gVar 0) gNil)) (gC (.int 1)))) (gTB (gOp2 (fB (fIn true)) (gVar 0) (gC (.str "abcdefghijklmnopqrstuvwxyz"))))) (gRaise "TextError") gNext)
  (gRetV 0))
def m_letter_in : Fn := fnD 1 g_letter_in
def g_letters_in : GS := (gSeq (gIfS (gTB (gOp2 (fB (fEqB false)) (gVar 0) (gC (.str ".")))) (gRet (gC (.str ""))) gNext)
  (gSeq (gIfS (gTB (gOp2 (fB (fEqB false)) (gVar 0) (gC (.str "")))) (gRaise "TextError") gNext)
  (gSeq (gForV (.one 1) 0 (gExpr (gFn 1 m_letter_in (gCons (gVar 1) gNil))))
  (gRetV 0))))
def m_letters_in : Fn := fnD 2 g_letters_in
def g_number_in_notation : GS := (gSeq (gSet 1 (gFn 2 m_read_integer (gCons (gVar 0) (gCons (gC (.int 70)) gNil))))
  (gSeq (gIfS (gTB (gOp2 (fB (fIsN false)) (gVar 1) (gC .non))) (gRaise "TextError") gNext)
  (gRetV 1)))
def m_number_in_notation : Fn := fnD 2 g_number_in_notation
def g_read_natural : GS := (gSeq (gIfS (gTB (gOp2 (fB (fEqB false)) (gSl (gVar 0) gNoPart (gPart (gC (.int 1)))) (gC (.str "-")))) (gRet (gC .non)) gNext)
  (gRet (gFn 2 m_read_integer (gCons (gVar 0) (gCons (gVar 1) gNil)))))
def m_read_natural : Fn := fnD 2 g_read_natural
def g_shape_in : GS := (gSeq (gIfS (gTB (gOp2 (fB (fEqB false)) (gVar 0) (gC (.str ".")))) (gRet (gTup gNil)) gNext)
  (gSeq (gSet 1 (gLst gNil))
  (gSeq (gSet 2 (gC (.int 0)))
  (gSeq (fun δ => gWhile (gTB (gOp2 (fB fLt) (gVar 2) (gCall fLen (gCons (gVar 0) gNil)))) (gSeq (gSet 3 (gFn 1 m_letter_in (gCons (gOp2 fIx (gVar 0) (gVar 2)) gNil)))
  (gSeq (gSet 4 (gOp2 fAdd (gVar 2) (gC (.int 1))))
  (gSeq (fun δ => gWhile (gAnd (gTB (gOp2 (fB fLt) (gVar 4) (gCall fLen (gCons (gVar 0) gNil)))) (gTB (gOp2 (fB (fIn true)) (gOp2 fIx (gVar 0) (gVar 4)) (gC (.str "abcdefghijklmnopqrstuvwxyz"))))) (gSet 4 (gOp2 fAdd (gVar 4) (gC (.int 1)))) (((fun _ => 60)) δ) δ)
  (gSeq (gSet 5 (gFn 2 m_read_natural (gCons (gSl (gVar 0) (gPart (gOp2 fAdd (gVar 2) (gC (.int 1)))) (gPart (gVar 4))) (gCons (gC (.int 70)) gNil))))
  (gSeq (gIfS (gTB (gOp2 (fB (fIsN false)) (gVar 5) (gC .non))) (gRaise "TextError") gNext)
  (gSeq (gApp 1 (gTup (gCons (gVar 3) (gCons (gVar 5) gNil))))
  (gSet 2 (gVar 4)))))))) (((fun _ => 60)) δ) δ)
  (gSeq (gIfS (gTB (gOp2 (fB (fEqB false)) (gCall fLen (gCons (gVar 1) gNil)) (gC (.int 0)))) (gRaise "TextError") gNext)
  (gRet (gCall fTuple (gCons (gVar 1) gNil))))))))
def m_shape_in : Fn := fnD 6 g_shape_in
def g_fields_in : GS := (gSeq (gIfS (gTB (gOp2 (fB (fEqB false)) (gVar 0) (gC (.str "const")))) (gSeq (gIfS (gTB (gOp2 (fB (fEqB false)) (gCall fLen (gCons (gVar 1) gNil)) (gC (.int 0)))) (gRaise "TextError") gNext)
  (gRet (gTup (gCons (gFn 1 m_shape_in (gCons (gOp2 fIx (gVar 1) (gC (.int 0))) gNil)) (gCons (gCall fTuple (gCons (gLcE (.one 4) [4] (gSeqL (gSl (gVar 1) (gPart (gC (.int 1))) gNoPart)) gYes (gFn 1 m_number_in_notation (gCons (gVar 4) gNil))) gNil)) gNil))))) gNext)
  (gSeq (gIfS (gTB (gOp2 (fB (fEqB true)) (gCall fLen (gCons (gVar 1) gNil)) (gItT tab_FIELDS (gVar 0)))) (gRaise "TextError") gNext)
  (gSeq (gIfS (gTB (gOp2 (fB (fEqB false)) (gVar 0) (gC (.str "input")))) (gRet (gTup (gCons (gFn 1 m_shape_in (gCons (gOp2 fIx (gVar 1) (gC (.int 0))) gNil)) (gCons (gFn 1 m_number_in_notation (gCons (gOp2 fIx (gVar 1) (gC (.int 1))) gNil)) (gCons (gFn 1 m_number_in_notation (gCons (gOp2 fIx (gVar 1) (gC (.int 2))) gNil)) gNil))))) gNext)
  (gSeq (gIfS (gTB (gOp2 (fB (fEqB false)) (gVar 0) (gC (.str "order")))) (gRet (gTup (gCons (gFn 1 m_letters_in (gCons (gOp2 fIx (gVar 1) (gC (.int 0))) gNil)) gNil))) gNext)
  (gSeq (gSet 2 (gLst gNil))
  (gSeq (gFor (.one 3) (gRangeI fRange1 (gCons (gCall fLen (gCons (gVar 1) gNil)) gNil)) (gIfS (gTB (gOp2 (fB fLt) (gVar 3) (gGetT tab_AXIS_FIELDS (gVar 0) (gC (.int 0))))) (gApp 2 (gFn 1 m_letter_in (gCons (gOp2 fIx (gVar 1) (gVar 3)) gNil))) (gApp 2 (gFn 1 m_number_in_notation (gCons (gOp2 fIx (gVar 1) (gVar 3)) gNil)))))
  (gRet (gCall fTuple (gCons (gVar 2) gNil)))))))))
def m_fields_in : Fn := fnD 5 g_fields_in
def g_node_in : GS := (gSeq (gSet 1 (gSplit (gVar 0) (gC (.str " "))))
  (gSeq (gSet 2 (gOp2 fIx (gVar 1) (gC (.int 0))))
  (gSeq (gIfS (gTB (gInT tab_ARGS true (gVar 2))) (gRaise "TextError") gNext)
  (gSeq (gSet 3 (gItT tab_ARGS (gVar 2)))
  (gSeq (gIfS (gTB (gOp2 (fB fLt) (gCall fLen (gCons (gVar 1) gNil)) (gOp2 fAdd (gC (.int 1)) (gVar 3)))) (gRaise "TextError") gNext)
  (gSeq (gSet 4 (gCall fTuple (gCons (gLcE (.one 5) [5] (gSeqL (gSl (gVar 1) (gPart (gC (.int 1))) (gPart (gOp2 fAdd (gC (.int 1)) (gVar 3))))) gYes (gFn 1 m_number_in_notation (gCons (gVar 5) gNil))) gNil)))
  (gRet (gTup (gCons (gVar 2) (gCons (gVar 4) (gCons (gFn 2 m_fields_in (gCons (gVar 2) (gCons (gSl (gVar 1) (gPart (gOp2 fAdd (gC (.int 1)) (gVar 3))) gNoPart) gNil))) gNil)))))))))))
def m_node_in : Fn := fnD 6 g_node_in
def g_read_graph : GS := (gSeq (gSet 1 (gSplit (gVar 0) (gC (.str "\n"))))
  (gSeq (gIfS (gOr (gTB (gOp2 (fB fLt) (gCall fLen (gCons (gVar 1) gNil)) (gC (.int 2)))) (gTB (gOp2 (fB (fEqB true)) (gOp2 fIx (gVar 1) (gOp1 fNeg (gC (.int 1)))) (gC (.str ""))))) (gRaise "TextError") gNext)
  (gSeq (gSet 2 (gSplit (gOp2 fIx (gVar 1) (gOp1 fNeg (gC (.int 2)))) (gC (.str " "))))
  (gSeq (gIfS (gTB (gOp2 (fB (fEqB true)) (gOp2 fIx (gVar 2) (gC (.int 0))) (gC (.str "out")))) (gRaise "TextError") gNext)
  (gSeq (gSet 3 (gCall fTuple (gCons (gLcE (.one 5) [5] (gSeqL (gSl (gVar 1) gNoPart (gPart (gOp1 fNeg (gC (.int 2)))))) gYes (gFn 1 m_node_in (gCons (gVar 5) gNil))) gNil)))
  (gSeq (gSet 4 (gCall fTuple (gCons (gLcE (.one 6) [6] (gSeqL (gSl (gVar 2) (gPart (gC (.int 1))) gNoPart)) gYes (gFn 1 m_number_in_notation (gCons (gVar 6) gNil))) gNil)))
  (gSeq (gExpr (gFn 1 m_check_graph (gCons (gTup (gCons (gVar 3) (gCons (gVar 4) gNil))) gNil)))
  (gRet (gTup (gCons (gVar 3) (gCons (gVar 4) gNil)))))))))))
def m_read_graph : Fn := fnD 7 g_read_graph
def g__law_told : GS := (gSeq (gTry (tabS tc_TensorError) 4 (gIfS (gTB (gOp2 (fB (fEqB false)) (gVar 0) (gC (.int 0)))) (gSet 3 (gFn 1 m_check_machine (gCons (gVar 1) gNil))) (gIfS (gTB (gOp2 (fB (fEqB false)) (gVar 0) (gC (.int 1)))) (gSet 3 (gFn 2 m_check_code (gCons (gVar 1) (gCons (gVar 2) gNil)))) (gIfS (gTB (gOp2 (fB (fEqB false)) (gVar 0) (gC (.int 2)))) (gSet 3 (gFn 2 m_read_code (gCons (gVar 1) (gCons (gVar 2) gNil)))) (gSet 3 (gFn 1 m_read_graph (gCons (gVar 2) gNil)))))) (fun cl => (gRet (gOp2 fAdd (gOp2 fAdd (gOp2 fAdd (gOp2 fMulV (gC (.str "machine")) (gCall fIntT (gCons (gIsE 4 (tabS ti_MachineError cl)) gNil))) (gOp2 fMulV (gC (.str "form")) (gCall fIntT (gCons (gIsE 4 (tabS ti_FormError cl)) gNil)))) (gOp2 fMulV (gC (.str "range")) (gCall fIntT (gCons (gIsE 4 (tabS ti_RangeError cl)) gNil)))) (gOp2 fMulV (gC (.str "text")) (gCall fIntT (gCons (gIsE 4 (tabS ti_TextError cl)) gNil)))))))
  (gRet (gIf (gTB (gOp2 (fB (fIsN false)) (gVar 3) (gC .non))) (gC (.str "")) (gVar 3))))
def m__law_told : Fn := fnD 5 g__law_told
def g__law_codes : GS := (gSeq (gSet 0 (gTup (gCons (gC (.int 64)) (gCons (gC (.int 100)) (gCons (gC (.int 50)) (gCons (gC (.int 2)) (gCons (gC (.int 8)) gNil)))))))
  (gSeq (gSet 1 (gOp2 (fIntC CShl fun i j => i * 2 ^ j.toNat) (gC (.int 1)) (gC (.int 63))))
  (gSeq (gSet 2 (gLst (gCons (gTup (gCons (gTup (gCons (gC (.str "set")) (gCons (gC (.int 0)) (gCons (gC (.int 0)) gNil)))) (gCons (gC (.str "")) gNil))) (gCons (gTup (gCons (gTup (gCons (gC (.str "set")) (gCons (gC (.int 31)) (gCons (gOp2 iSub (gVar 1) (gC (.int 1))) gNil)))) (gCons (gC (.str "")) gNil))) (gCons (gTup (gCons (gTup (gCons (gC (.str "set")) (gCons (gC (.int 32)) (gCons (gC (.int 0)) gNil)))) (gCons (gC (.str "range")) gNil))) (gCons (gTup (gCons (gTup (gCons (gC (.str "set")) (gCons (gOp1 fNeg (gC (.int 1))) (gCons (gC (.int 0)) gNil)))) (gCons (gC (.str "range")) gNil))) (gCons (gTup (gCons (gTup (gCons (gC (.str "set")) (gCons (gC (.int 0)) (gCons (gVar 1) gNil)))) (gCons (gC (.str "range")) gNil))) (gCons (gTup (gCons (gTup (gCons (gC (.str "set")) (gCons (gC (.int 0)) (gCons (gOp1 fNeg (gVar 1)) gNil)))) (gCons (gC (.str "")) gNil))) (gCons (gTup (gCons (gTup (gCons (gC (.str "set")) (gCons (gC (.int 0)) (gCons (gOp2 iSub (gOp1 fNeg (gVar 1)) (gC (.int 1))) gNil)))) (gCons (gC (.str "range")) gNil))) (gCons (gTup (gCons (gTup (gCons (gC (.str "load")) (gCons (gC (.int 31)) (gCons (gC (.int 31)) (gCons (gC (.int 16384)) gNil))))) (gCons (gC (.str "")) gNil))) (gCons (gTup (gCons (gTup (gCons (gC (.str "load")) (gCons (gC (.int 32)) (gCons (gC (.int 0)) (gCons (gC (.int 0)) gNil))))) (gCons (gC (.str "range")) gNil))) (gCons (gTup (gCons (gTup (gCons (gC (.str "load")) (gCons (gC (.int 0)) (gCons (gC (.int 32)) (gCons (gC (.int 0)) gNil))))) (gCons (gC (.str "range")) gNil))) (gCons (gTup (gCons (gTup (gCons (gC (.str "load")) (gCons (gC (.int 0)) (gCons (gC (.int 0)) (gCons (gC (.int 16385)) gNil))))) (gCons (gC (.str "range")) gNil))) (gCons (gTup (gCons (gTup (gCons (gC (.str "load")) (gCons (gC (.int 0)) (gCons (gC (.int 0)) (gCons (gOp1 fNeg (gC (.int 16384))) gNil))))) (gCons (gC (.str "")) gNil))) (gCons (gTup (gCons (gTup (gCons (gC (.str "load")) (gCons (gC (.int 0)) (gCons (gC (.int 0)) (gCons (gOp1 fNeg (gC (.int 16385))) gNil))))) (gCons (gC (.str "range")) gNil))) (gCons (gTup (gCons (gTup (gCons (gC (.str "store")) (gCons (gC (.int 0)) (gCons (gC (.int 16384)) (gCons (gC (.int 31)) gNil))))) (gCons (gC (.str "")) gNil))) (gCons (gTup (gCons (gTup (gCons (gC (.str "store")) (gCons (gC (.int 0)) (gCons (gC (.int 16385)) (gCons (gC (.int 0)) gNil))))) (gCons (gC (.str "range")) gNil))) (gCons (gTup (gCons (gTup (gCons (gC (.str "store")) (gCons (gC (.int 0)) (gCons (gC (.int 0)) (gCons (gC (.int 32)) gNil))))) (gCons (gC (.str "range")) gNil))) (gCons (gTup (gCons (gTup (gCons (gC (.str "mac")) (gCons (gC (.int 0)) (gCons (gC (.int 1)) (gCons (gC (.int 16384)) (gCons (gC (.int 2)) (gCons (gOp1 fNeg (gC (.int 16384))) (gCons (gC (.int 8)) gNil)))))))) (gCons (gC (.str "")) gNil))) (gCons (gTup (gCons (gTup (gCons (gC (.str "mac")) (gCons (gC (.int 0)) (gCons (gC (.int 1)) (gCons (gC (.int 16385)) (gCons (gC (.int 2)) (gCons (gC (.int 0)) (gCons (gC (.int 1)) gNil)))))))) (gCons (gC (.str "range")) gNil))) (gCons (gTup (gCons (gTup (gCons (gC (.str "mac")) (gCons (gC (.int 0)) (gCons (gC (.int 1)) (gCons (gC (.int 0)) (gCons (gC (.int 2)) (gCons (gOp1 fNeg (gC (.int 16385))) (gCons (gC (.int 1)) gNil)))))))) (gCons (gC (.str "range")) gNil))) (gCons (gTup (gCons (gTup (gCons (gC (.str "mac")) (gCons (gC (.int 0)) (gCons (gC (.int 1)) (gCons (gC (.int 1)) (gCons (gC (.int 2)) (gCons (gC (.int 1)) (gCons (gC (.int 9)) gNil)))))))) (gCons (gC (.str "range")) gNil))) (gCons (gTup (gCons (gTup (gCons (gC (.str "mac")) (gCons (gC (.int 0)) (gCons (gC (.int 1)) (gCons (gC (.int 1)) (gCons (gC (.int 2)) (gCons (gC (.int 1)) (gCons (gC (.int 0)) gNil)))))))) (gCons (gC (.str "range")) gNil))) (gCons (gTup (gCons (gTup (gCons (gC (.str "mac")) (gCons (gC (.int 0)) (gCons (gC (.int 1)) (gCons (gC (.int 1)) (gCons (gC (.int 2)) (gCons (gC (.int 1)) (gCons (gC (.int 1)) gNil)))))))) (gCons (gC (.str "")) gNil))) (gCons (gTup (gCons (gTup (gCons (gC (.str "mac")) (gCons (gC (.int 0)) (gCons (gC (.int 32)) (gCons (gC (.int 1)) (gCons (gC (.int 2)) (gCons (gC (.int 1)) (gCons (gC (.int 1)) gNil)))))))) (gCons (gC (.str "range")) gNil))) (gCons (gTup (gCons (gTup (gCons (gC (.str "mac")) (gCons (gC (.int 0)) (gCons (gC (.int 1)) (gCons (gC (.int 1)) (gCons (gC (.int 32)) (gCons (gC (.int 1)) (gCons (gC (.int 1)) gNil)))))))) (gCons (gC (.str "range")) gNil))) (gCons (gTup (gCons (gTup (gCons (gC (.str "vector")) (gCons (gC (.str "add")) (gCons (gC (.int 0)) (gCons (gC (.int 1)) (gCons (gC (.int 2)) (gCons (gC (.int 8)) gNil))))))) (gCons (gC (.str "")) gNil))) (gCons (gTup (gCons (gTup (gCons (gC (.str "vector")) (gCons (gC (.str "less")) (gCons (gC (.int 0)) (gCons (gC (.int 1)) (gCons (gC (.int 2)) (gCons (gC (.int 1)) gNil))))))) (gCons (gC (.str "")) gNil))) (gCons (gTup (gCons (gTup (gCons (gC (.str "vector")) (gCons (gC (.str "add")) (gCons (gC (.int 0)) (gCons (gC (.int 1)) (gCons (gC (.int 2)) (gCons (gC (.int 9)) gNil))))))) (gCons (gC (.str "range")) gNil))) (gCons (gTup (gCons (gTup (gCons (gC (.str "vector")) (gCons (gC (.str "add")) (gCons (gC (.int 0)) (gCons (gC (.int 1)) (gCons (gC (.int 2)) (gCons (gC (.int 0)) gNil))))))) (gCons (gC (.str "range")) gNil))) (gCons (gTup (gCons (gTup (gCons (gC (.str "vector")) (gCons (gC (.str "neg")) (gCons (gC (.int 0)) (gCons (gC (.int 1)) (gCons (gC (.int 2)) (gCons (gC (.int 1)) gNil))))))) (gCons (gC (.str "form")) gNil))) (gCons (gTup (gCons (gTup (gCons (gC (.str "vector")) (gCons (gC (.str "dot")) (gCons (gC (.int 0)) (gCons (gC (.int 1)) (gCons (gC (.int 2)) (gCons (gC (.int 1)) gNil))))))) (gCons (gC (.str "form")) gNil))) (gCons (gTup (gCons (gTup (gCons (gC (.str "vector")) (gCons (gC (.str "add")) (gCons (gC (.int 0)) (gCons (gC (.int 1)) (gCons (gC (.int 32)) (gCons (gC (.int 1)) gNil))))))) (gCons (gC (.str "range")) gNil))) (gCons (gTup (gCons (gTup (gCons (gC (.str "vector")) (gCons (gC (.str "add")) (gCons (gC (.int 32)) (gCons (gC (.int 1)) (gCons (gC (.int 2)) (gCons (gC (.int 1)) gNil))))))) (gCons (gC (.str "range")) gNil))) (gCons (gTup (gCons (gTup (gCons (gC (.str "do")) (gCons (gC (.str "add")) (gCons (gC (.int 0)) (gCons (gTup (gCons (gC (.int 1)) (gCons (gC (.int 2)) gNil))) (gCons (gTup gNil) gNil)))))) (gCons (gC (.str "")) gNil))) (gCons (gTup (gCons (gTup (gCons (gC (.str "do")) (gCons (gC (.str "add")) (gCons (gC (.int 0)) (gCons (gTup (gCons (gC (.int 1)) gNil)) (gCons (gTup gNil) gNil)))))) (gCons (gC (.str "form")) gNil))) (gCons (gTup (gCons (gTup (gCons (gC (.str "do")) (gCons (gC (.str "add")) (gCons (gC (.int 0)) (gCons (gTup (gCons (gC (.int 1)) (gCons (gC (.int 2)) (gCons (gC (.int 3)) gNil)))) (gCons (gTup gNil) gNil)))))) (gCons (gC (.str "form")) gNil))) (gCons (gTup (gCons (gTup (gCons (gC (.str "do")) (gCons (gC (.str "add")) (gCons (gC (.int 0)) (gCons (gTup (gCons (gC (.int 1)) (gCons (gC (.int 2)) gNil))) (gCons (gTup (gCons (gC (.int 1)) gNil)) gNil)))))) (gCons (gC (.str "form")) gNil))) (gCons (gTup (gCons (gTup (gCons (gC (.str "do")) (gCons (gC (.str "sum")) (gCons (gC (.int 0)) (gCons (gTup (gCons (gC (.int 1)) gNil)) (gCons (gTup gNil) gNil)))))) (gCons (gC (.str "form")) gNil))) (gCons (gTup (gCons (gTup (gCons (gC (.str "do")) (gCons (gC (.str "neg")) (gCons (gC (.int 31)) (gCons (gTup (gCons (gC (.int 31)) gNil)) (gCons (gTup gNil) gNil)))))) (gCons (gC (.str "")) gNil))) (gCons (gTup (gCons (gTup (gCons (gC (.str "do")) (gCons (gC (.str "neg")) (gCons (gC (.int 0)) (gCons (gTup (gCons (gC (.int 32)) gNil)) (gCons (gTup gNil) gNil)))))) (gCons (gC (.str "range")) gNil))) (gCons (gTup (gCons (gTup (gCons (gC (.str "do")) (gCons (gC (.str "neg")) (gCons (gC (.int 32)) (gCons (gTup (gCons (gC (.int 0)) gNil)) (gCons (gTup gNil) gNil)))))) (gCons (gC (.str "range")) gNil))) (gCons (gTup (gCons (gTup (gCons (gC (.str "do")) (gCons (gC (.str "clamp")) (gCons (gC (.int 0)) (gCons (gTup (gCons (gC (.int 1)) gNil)) (gCons (gTup (gCons (gOp1 fNeg (gC (.int 5))) (gCons (gC (.int 5)) gNil))) gNil)))))) (gCons (gC (.str "")) gNil))) (gCons (gTup (gCons (gTup (gCons (gC (.str "do")) (gCons (gC (.str "clamp")) (gCons (gC (.int 0)) (gCons (gTup (gCons (gC (.int 1)) gNil)) (gCons (gTup (gCons (gC (.int 5)) (gCons (gC (.int 5)) gNil))) gNil)))))) (gCons (gC (.str "")) gNil))) (gCons (gTup (gCons (gTup (gCons (gC (.str "do")) (gCons (gC (.str "clamp")) (gCons (gC (.int 0)) (gCons (gTup (gCons (gC (.int 1)) gNil)) (gCons (gTup (gCons (gC (.int 6)) (gCons (gC (.int 5)) gNil))) gNil)))))) (gCons (gC (.str "range")) gNil))) (gCons (gTup (gCons (gTup (gCons (gC (.str "do")) (gCons (gC (.str "clamp")) (gCons (gC (.int 0)) (gCons (gTup (gCons (gC (.int 1)) gNil)) (gCons (gTup (gCons (gOp1 fNeg (gVar 1)) (gCons (gOp2 iSub (gVar 1) (gC (.int 1))) gNil))) gNil)))))) (gCons (gC (.str "")) gNil))) (gCons (gTup (gCons (gTup (gCons (gC (.str "do")) (gCons (gC (.str "clamp")) (gCons (gC (.int 0)) (gCons (gTup (gCons (gC (.int 1)) gNil)) (gCons (gTup (gCons (gC (.int 0)) (gCons (gVar 1) gNil))) gNil)))))) (gCons (gC (.str "range")) gNil))) (gCons (gTup (gCons (gTup (gCons (gC (.str "do")) (gCons (gC (.str "clamp")) (gCons (gC (.int 0)) (gCons (gTup (gCons (gC (.int 1)) gNil)) (gCons (gTup (gCons (gOp2 iSub (gOp1 fNeg (gVar 1)) (gC (.int 1))) (gCons (gC (.int 0)) gNil))) gNil)))))) (gCons (gC (.str "range")) gNil))) (gCons (gTup (gCons (gTup (gCons (gC (.str "do")) (gCons (gC (.str "shift")) (gCons (gC (.int 0)) (gCons (gTup (gCons (gC (.int 1)) gNil)) (gCons (gTup (gCons (gC (.int 1)) gNil)) gNil)))))) (gCons (gC (.str "")) gNil))) (gCons (gTup (gCons (gTup (gCons (gC (.str "do")) (gCons (gC (.str "shift")) (gCons (gC (.int 0)) (gCons (gTup (gCons (gC (.int 1)) gNil)) (gCons (gTup (gCons (gC (.int 30)) gNil)) gNil)))))) (gCons (gC (.str "")) gNil))) (gCons (gTup (gCons (gTup (gCons (gC (.str "do")) (gCons (gC (.str "shift")) (gCons (gC (.int 0)) (gCons (gTup (gCons (gC (.int 1)) gNil)) (gCons (gTup (gCons (gC (.int 0)) gNil)) gNil)))))) (gCons (gC (.str "range")) gNil))) (gCons (gTup (gCons (gTup (gCons (gC (.str "do")) (gCons (gC (.str "shift")) (gCons (gC (.int 0)) (gCons (gTup (gCons (gC (.int 1)) gNil)) (gCons (gTup (gCons (gC (.int 31)) gNil)) gNil)))))) (gCons (gC (.str "range")) gNil))) (gCons (gTup (gCons (gTup (gCons (gC (.str "do")) (gCons (gC (.str "where")) (gCons (gC (.int 0)) (gCons (gTup (gCons (gC (.int 1)) (gCons (gC (.int 2)) (gCons (gC (.int 3)) gNil)))) (gCons (gTup gNil) gNil)))))) (gCons (gC (.str "")) gNil))) (gCons (gTup (gCons (gTup (gCons (gC (.str "do")) (gCons (gC (.str "where")) (gCons (gC (.int 0)) (gCons (gTup (gCons (gC (.int 1)) (gCons (gC (.int 2)) gNil))) (gCons (gTup gNil) gNil)))))) (gCons (gC (.str "form")) gNil))) (gCons (gTup (gCons (gTup (gCons (gC (.str "wait")) (gCons (gC (.int 0)) gNil))) (gCons (gC (.str "")) gNil))) (gCons (gTup (gCons (gTup (gCons (gC (.str "wait")) (gCons (gC (.int 1)) gNil))) (gCons (gC (.str "")) gNil))) (gCons (gTup (gCons (gTup (gCons (gC (.str "wait")) (gCons (gC (.int 2)) gNil))) (gCons (gC (.str "range")) gNil))) (gCons (gTup (gCons (gTup (gCons (gC (.str "wait")) (gCons (gOp1 fNeg (gC (.int 1))) gNil))) (gCons (gC (.str "range")) gNil))) (gCons (gTup (gCons (gTup (gCons (gC (.str "in")) (gCons (gC (.int 1)) (gCons (gC (.int 31)) (gCons (gC (.int 16384)) (gCons (gC (.int 31)) (gCons (gOp1 fNeg (gC (.int 16384))) (gCons (gC (.int 4096)) gNil)))))))) (gCons (gC (.str "")) gNil))) (gCons (gTup (gCons (gTup (gCons (gC (.str "in")) (gCons (gC (.int 2)) (gCons (gC (.int 0)) (gCons (gC (.int 0)) (gCons (gC (.int 0)) (gCons (gC (.int 0)) (gCons (gC (.int 1)) gNil)))))))) (gCons (gC (.str "range")) gNil))) (gCons (gTup (gCons (gTup (gCons (gC (.str "in")) (gCons (gC (.int 0)) (gCons (gC (.int 0)) (gCons (gC (.int 16385)) (gCons (gC (.int 0)) (gCons (gC (.int 0)) (gCons (gC (.int 1)) gNil)))))))) (gCons (gC (.str "range")) gNil))) (gCons (gTup (gCons (gTup (gCons (gC (.str "in")) (gCons (gC (.int 0)) (gCons (gC (.int 0)) (gCons (gC (.int 0)) (gCons (gC (.int 0)) (gCons (gC (.int 16385)) (gCons (gC (.int 1)) gNil)))))))) (gCons (gC (.str "range")) gNil))) (gCons (gTup (gCons (gTup (gCons (gC (.str "in")) (gCons (gC (.int 0)) (gCons (gC (.int 0)) (gCons (gC (.int 0)) (gCons (gC (.int 0)) (gCons (gC (.int 0)) (gCons (gC (.int 0)) gNil)))))))) (gCons (gC (.str "range")) gNil))) (gCons (gTup (gCons (gTup (gCons (gC (.str "in")) (gCons (gC (.int 0)) (gCons (gC (.int 0)) (gCons (gC (.int 0)) (gCons (gC (.int 0)) (gCons (gC (.int 0)) (gCons (gC (.int 4097)) gNil)))))))) (gCons (gC (.str "range")) gNil))) (gCons (gTup (gCons (gTup (gCons (gC (.str "out")) (gCons (gC (.int 0)) (gCons (gC (.int 0)) (gCons (gC (.int 0)) (gCons (gC (.int 0)) (gCons (gC (.int 0)) (gCons (gC (.int 4096)) gNil)))))))) (gCons (gC (.str "")) gNil))) (gCons (gTup (gCons (gTup (gCons (gC (.str "out")) (gCons (gC (.int 0)) (gCons (gC (.int 32)) (gCons (gC (.int 0)) (gCons (gC (.int 0)) (gCons (gC (.int 0)) (gCons (gC (.int 1)) gNil)))))))) (gCons (gC (.str "range")) gNil))) (gCons (gTup (gCons (gTup (gCons (gC (.str "out")) (gCons (gC (.int 0)) (gCons (gC (.int 0)) (gCons (gC (.int 0)) (gCons (gC (.int 32)) (gCons (gC (.int 0)) (gCons (gC (.int 1)) gNil)))))))) (gCons (gC (.str "range")) gNil))) (gCons (gTup (gCons (gTup (gCons (gC (.str "out")) (gCons (gC (.int 0)) (gCons (gC (.int 0)) (gCons (gC (.int 0)) (gCons (gC (.int 0)) (gCons (gC (.int 0)) (gCons (gC (.int 4097)) gNil)))))))) (gCons (gC (.str "range")) gNil))) (gCons (gTup (gCons (gTup (gCons (gC (.str "skip")) (gCons (gC (.int 0)) (gCons (gC (.int 0)) gNil)))) (gCons (gC (.str "")) gNil))) (gCons (gTup (gCons (gTup (gCons (gC (.str "skip")) (gCons (gC (.int 32)) (gCons (gC (.int 0)) gNil)))) (gCons (gC (.str "range")) gNil))) (gCons (gTup (gCons (gTup (gCons (gC (.str "skip")) (gCons (gC (.int 0)) (gCons (gC (.int 1)) gNil)))) (gCons (gC (.str "form")) gNil))) (gCons (gTup (gCons (gTup (gCons (gC (.str "skip")) (gCons (gC (.int 0)) (gCons (gOp1 fNeg (gC (.int 1))) gNil)))) (gCons (gC (.str "range")) gNil))) (gCons (gTup (gCons (gTup (gCons (gC (.str "end")) gNil)) (gCons (gC (.str "form")) gNil))) (gCons (gTup (gCons (gTup (gCons (gC (.str "loop")) (gCons (gC (.int 0)) (gCons (gC (.int 0)) (gCons (gC (.int 1)) (gCons (gC (.int 2)) gNil)))))) (gCons (gC (.str "form")) gNil))) (gCons (gTup (gCons (gTup (gCons (gC (.str "jump")) gNil)) (gCons (gC (.str "form")) gNil))) (gCons (gTup (gCons (gTup (gCons (gC (.str "set")) (gCons (gC (.int 0)) gNil))) (gCons (gC (.str "form")) gNil))) (gCons (gTup (gCons (gTup (gCons (gC (.str "set")) (gCons (gC (.int 0)) (gCons (gC (.int 1)) (gCons (gC (.int 2)) gNil))))) (gCons (gC (.str "form")) gNil))) (gCons (gTup (gCons (gTup (gCons (gC (.str "wait")) gNil)) (gCons (gC (.str "form")) gNil))) (gCons (gTup (gCons (gTup (gCons (gC (.str "end")) (gCons (gC (.int 1)) gNil))) (gCons (gC (.str "form")) gNil))) (gCons (gTup (gCons (gTup gNil) (gCons (gC (.str "form")) gNil))) gNil))))))))))))))))))))))))))))))))))))))))))))))))))))))))))))))))))))))))))))))))
  (gSeq (gForV (.tup [3, 4]) 2 (gIfS (gTB (gOp2 (fB (fEqB true)) (gFn 3 m__law_told (gCons (gC (.int 1)) (gCons (gVar 0) (gCons (gTup (gCons (gVar 3) gNil)) gNil)))) (gVar 4))) (gRet (gC (.bl false))) gNext))
  (gSeq (gSet 5 (gOp2 fMul (gC (.int 2)) (gVar 1)))
  (gSeq (gSet 6 (gLst (gCons (gTup (gCons (gTup (gCons (gC (.int 0)) (gCons (gC (.int 0)) (gCons (gC (.int 1)) (gCons (gC (.int 1)) gNil))))) (gCons (gC (.str "")) gNil))) (gCons (gTup (gCons (gTup (gCons (gC (.int 0)) (gCons (gC (.int 0)) (gCons (gC (.int 1)) (gCons (gC (.int 1000)) gNil))))) (gCons (gC (.str "")) gNil))) (gCons (gTup (gCons (gTup (gCons (gC (.int 0)) (gCons (gC (.int 0)) (gCons (gC (.int 1)) (gCons (gC (.int 0)) gNil))))) (gCons (gC (.str "range")) gNil))) (gCons (gTup (gCons (gTup (gCons (gC (.int 0)) (gCons (gC (.int 0)) (gCons (gC (.int 1)) (gCons (gC (.int 1001)) gNil))))) (gCons (gC (.str "range")) gNil))) (gCons (gTup (gCons (gTup (gCons (gC (.int 32)) (gCons (gC (.int 0)) (gCons (gC (.int 1)) (gCons (gC (.int 1)) gNil))))) (gCons (gC (.str "range")) gNil))) (gCons (gTup (gCons (gTup (gCons (gC (.int 0)) (gCons (gOp2 iSub (gVar 1) (gC (.int 1))) (gCons (gC (.int 1)) (gCons (gC (.int 1)) gNil))))) (gCons (gC (.str "")) gNil))) (gCons (gTup (gCons (gTup (gCons (gC (.int 0)) (gCons (gOp2 iSub (gVar 1) (gC (.int 1))) (gCons (gC (.int 1)) (gCons (gC (.int 2)) gNil))))) (gCons (gC (.str "range")) gNil))) (gCons (gTup (gCons (gTup (gCons (gC (.int 0)) (gCons (gVar 1) (gCons (gC (.int 0)) (gCons (gC (.int 1)) gNil))))) (gCons (gC (.str "range")) gNil))) (gCons (gTup (gCons (gTup (gCons (gC (.int 0)) (gCons (gOp1 fNeg (gVar 1)) (gCons (gC (.int 0)) (gCons (gC (.int 3)) gNil))))) (gCons (gC (.str "")) gNil))) (gCons (gTup (gCons (gTup (gCons (gC (.int 0)) (gCons (gOp1 fNeg (gVar 1)) (gCons (gOp1 fNeg (gC (.int 1))) (gCons (gC (.int 2)) gNil))))) (gCons (gC (.str "range")) gNil))) (gCons (gTup (gCons (gTup (gCons (gC (.int 0)) (gCons (gC (.int 0)) (gCons (gVar 5) (gCons (gC (.int 1)) gNil))))) (gCons (gC (.str "")) gNil))) (gCons (gTup (gCons (gTup (gCons (gC (.int 0)) (gCons (gC (.int 0)) (gCons (gOp2 fAdd (gVar 5) (gC (.int 1))) (gCons (gC (.int 1)) gNil))))) (gCons (gC (.str "range")) gNil))) (gCons (gTup (gCons (gTup (gCons (gC (.int 0)) (gCons (gC (.int 0)) (gCons (gOp1 fNeg (gVar 5)) (gCons (gC (.int 1)) gNil))))) (gCons (gC (.str "")) gNil))) (gCons (gTup (gCons (gTup (gCons (gC (.int 0)) (gCons (gC (.int 0)) (gCons (gOp2 iSub (gOp1 fNeg (gVar 5)) (gC (.int 1))) (gCons (gC (.int 1)) gNil))))) (gCons (gC (.str "range")) gNil))) gNil))))))))))))))))
  (gSeq (gForV (.tup [7, 4]) 6 (gIfS (gTB (gOp2 (fB (fEqB true)) (gFn 3 m__law_told (gCons (gC (.int 1)) (gCons (gVar 0) (gCons (gTup (gCons (gOp2 fAdd (gTup (gCons (gC (.str "loop")) gNil)) (gVar 7)) (gCons (gTup (gCons (gC (.str "end")) gNil)) gNil))) gNil)))) (gVar 4))) (gRet (gC (.bl false))) gNext))
  (gSeq (gSet 8 (gTup (gCons (gC (.str "set")) (gCons (gC (.int 0)) (gCons (gC (.int 0)) gNil)))))
  (gSeq (gSet 9 (gTup (gCons (gC (.str "loop")) (gCons (gC (.int 0)) (gCons (gC (.int 0)) (gCons (gC (.int 1)) (gCons (gC (.int 2)) gNil)))))))
  (gSeq (gSet 10 (gLst (gCons (gTup (gCons (gTup (gCons (gTup (gCons (gC (.str "skip")) (gCons (gC (.int 0)) (gCons (gC (.int 2)) gNil)))) (gCons (gVar 8) (gCons (gVar 8) gNil)))) (gCons (gC (.str "")) gNil))) (gCons (gTup (gCons (gTup (gCons (gTup (gCons (gC (.str "skip")) (gCons (gC (.int 0)) (gCons (gC (.int 3)) gNil)))) (gCons (gVar 8) (gCons (gVar 8) gNil)))) (gCons (gC (.str "form")) gNil))) (gCons (gTup (gCons (gTup (gCons (gTup (gCons (gC (.str "skip")) (gCons (gC (.int 0)) (gCons (gC (.int 3)) gNil)))) (gCons (gVar 9) (gCons (gVar 8) (gCons (gTup (gCons (gC (.str "end")) gNil)) gNil))))) (gCons (gC (.str "")) gNil))) (gCons (gTup (gCons (gTup (gCons (gTup (gCons (gC (.str "skip")) (gCons (gC (.int 0)) (gCons (gC (.int 1)) gNil)))) (gCons (gVar 9) (gCons (gVar 8) (gCons (gTup (gCons (gC (.str "end")) gNil)) gNil))))) (gCons (gC (.str "form")) gNil))) (gCons (gTup (gCons (gTup (gCons (gVar 9) (gCons (gTup (gCons (gC (.str "skip")) (gCons (gC (.int 0)) (gCons (gC (.int 1)) gNil)))) (gCons (gVar 8) (gCons (gTup (gCons (gC (.str "end")) gNil)) gNil))))) (gCons (gC (.str "")) gNil))) (gCons (gTup (gCons (gTup (gCons (gVar 9) (gCons (gTup (gCons (gC (.str "skip")) (gCons (gC (.int 0)) (gCons (gC (.int 2)) gNil)))) (gCons (gVar 8) (gCons (gTup (gCons (gC (.str "end")) gNil)) gNil))))) (gCons (gC (.str "form")) gNil))) (gCons (gTup (gCons (gTup (gCons (gVar 9) (gCons (gTup (gCons (gC (.str "end")) gNil)) (gCons (gTup (gCons (gC (.str "end")) gNil)) gNil)))) (gCons (gC (.str "form")) gNil))) (gCons (gTup (gCons (gTup (gCons (gVar 9) (gCons (gVar 9) (gCons (gTup (gCons (gC (.str "end")) gNil)) gNil)))) (gCons (gC (.str "form")) gNil))) (gCons (gTup (gCons (gTup (gCons (gVar 9) (gCons (gVar 9) (gCons (gTup (gCons (gC (.str "end")) gNil)) (gCons (gTup (gCons (gC (.str "end")) gNil)) gNil))))) (gCons (gC (.str "")) gNil))) (gCons (gTup (gCons (gTup (gCons (gTup (gCons (gC (.str "end")) gNil)) (gCons (gVar 9) gNil))) (gCons (gC (.str "form")) gNil))) gNil))))))))))))
  (gRet (gCall (fAnyAll fun bs => bs.all id) (gCons (gLc (.tup [11, 4]) [11, 4] (gSeqL (gVar 10)) gYes (gOp2 (fB (fEqB false)) (gFn 3 m__law_told (gCons (gC (.int 1)) (gCons (gVar 0) (gCons (gVar 11) gNil)))) (gVar 4))) gNil)))))))))))))
def m__law_codes : Fn := fnD 12 g__law_codes
def g__law_graphs : GS := (gSeq (gSet 0 (gLst (gCons (gC (.str "input i3k4 -5 9")) (gCons (gC (.str "const k4 1 2 3 -4")) (gCons (gC (.str "dot 0 1 k")) (gCons (gC (.str "out 2")) gNil))))))
  (gSeq (gSet 1 (gTup (gCons (gTup (gCons (gC (.str "input")) (gCons (gTup gNil) (gCons (gTup (gCons (gTup (gCons (gTup (gCons (gC (.str "i")) (gCons (gC (.int 3)) gNil))) (gCons (gTup (gCons (gC (.str "k")) (gCons (gC (.int 4)) gNil))) gNil))) (gCons (gOp1 fNeg (gC (.int 5))) (gCons (gC (.int 9)) gNil)))) gNil)))) (gCons (gTup (gCons (gC (.str "const")) (gCons (gTup gNil) (gCons (gTup (gCons (gTup (gCons (gTup (gCons (gC (.str "k")) (gCons (gC (.int 4)) gNil))) gNil)) (gCons (gTup (gCons (gC (.int 1)) (gCons (gC (.int 2)) (gCons (gC (.int 3)) (gCons (gOp1 fNeg (gC (.int 4))) gNil))))) gNil))) gNil)))) (gCons (gTup (gCons (gC (.str "dot")) (gCons (gTup (gCons (gC (.int 0)) (gCons (gC (.int 1)) gNil))) (gCons (gTup (gCons (gC (.str "k")) gNil)) gNil)))) gNil)))))
  (gSeq (gIfS (gTB (gOp2 (fB (fEqB true)) (gFn 3 m__law_told (gCons (gC (.int 3)) (gCons (gC (.int 0)) (gCons (gJoin (gC (.str "")) (gLc (.one 3) [3] (gSeqL (gVar 0)) gYes (gOp2 fAdd (gVar 3) (gC (.str "\n"))))) gNil)))) (gTup (gCons (gVar 1) (gCons (gTup (gCons (gC (.int 2)) gNil)) gNil))))) (gRet (gC (.bl false))) gNext)
  (gSeq (gIfS (gTB (gOp2 (fB (fEqB true)) (gFn 3 m__law_told (gCons (gC (.int 3)) (gCons (gC (.int 0)) (gCons (gOp2 fAdd (gJoin (gC (.str "")) (gLc (.one 3) [3] (gSeqL (gSl (gVar 0) gNoPart (gPart (gC (.int 3))))) gYes (gOp2 fAdd (gVar 3) (gC (.str "\n"))))) (gC (.str "out\n"))) gNil)))) (gC (.str "form")))) (gRet (gC (.bl false))) gNext)
  (gSeq (gFor (.tup [2, 3]) (gSeqI (gLst (gCons (gTup (gCons (gC (.int 0)) (gCons (gC (.str "input i3k4 -5")) gNil))) (gCons (gTup (gCons (gC (.int 0)) (gCons (gC (.str "input i3k4 -5 9 9")) gNil))) (gCons (gTup (gCons (gC (.int 0)) (gCons (gC (.str "input I3 -5 9")) gNil))) (gCons (gTup (gCons (gC (.int 0)) (gCons (gC (.str "input i -5 9")) gNil))) (gCons (gTup (gCons (gC (.int 0)) (gCons (gC (.str "input 3i -5 9")) gNil))) (gCons (gTup (gCons (gC (.int 0)) (gCons (gC (.str "input i03k4 -5 9")) gNil))) (gCons (gTup (gCons (gC (.int 0)) (gCons (gC (.str "input i3k4 -05 9")) gNil))) (gCons (gTup (gCons (gC (.int 0)) (gCons (gC (.str "input i3k4 +5 9")) gNil))) (gCons (gTup (gCons (gC (.int 0)) (gCons (gC (.str "input i3k4 -0 9")) gNil))) (gCons (gTup (gCons (gC (.int 0)) (gCons (gC (.str "inputs i3k4 -5 9")) gNil))) (gCons (gTup (gCons (gC (.int 0)) (gCons (gC (.str "input  i3k4 -5 9")) gNil))) (gCons (gTup (gCons (gC (.int 0)) (gCons (gC (.str "input i3k4 -5 9 ")) gNil))) (gCons (gTup (gCons (gC (.int 0)) (gCons (gC (.str "")) gNil))) (gCons (gTup (gCons (gC (.int 1)) (gCons (gC (.str "const 1 2 3 4")) gNil))) (gCons (gTup (gCons (gC (.int 1)) (gCons (gC (.str "const")) gNil))) (gCons (gTup (gCons (gC (.int 1)) (gCons (gC (.str "const k4 1 2 x 4")) gNil))) (gCons (gTup (gCons (gC (.int 2)) (gCons (gC (.str "dot 0 k")) gNil))) (gCons (gTup (gCons (gC (.int 2)) (gCons (gC (.str "dot 0 1 2 k")) gNil))) (gCons (gTup (gCons (gC (.int 2)) (gCons (gC (.str "dot 0 1 K")) gNil))) (gCons (gTup (gCons (gC (.int 2)) (gCons (gC (.str "dot 0 1")) gNil))) (gCons (gTup (gCons (gC (.int 2)) (gCons (gC (.str "dot 0 1 k k")) gNil))) (gCons (gTup (gCons (gC (.int 3)) (gCons (gC (.str "outs 2")) gNil))) (gCons (gTup (gCons (gC (.int 3)) (gCons (gC (.str "out 2 ")) gNil))) (gCons (gTup (gCons (gC (.int 3)) (gCons (gC (.str "out  2")) gNil))) (gCons (gTup (gCons (gC (.int 3)) (gCons (gC (.str "out 02")) gNil))) (gCons (gTup (gCons (gC (.int 3)) (gCons (gC (.str "out x")) gNil))) (gCons (gTup (gCons (gC (.int 3)) (gCons (gC (.str "dot 0 1 k")) gNil))) gNil))))))))))))))))))))))))))))) (gIfS (gTB (gOp2 (fB (fEqB true)) (gFn 3 m__law_told (gCons (gC (.int 3)) (gCons (gC (.int 0)) (gCons (gJoin (gC (.str "")) (gLc (.one 6) [6] (gSeqL (gOp2 fAdd (gOp2 fAdd (gSl (gVar 0) gNoPart (gPart (gVar 2))) (gLst (gCons (gVar 3) gNil))) (gSl (gVar 0) (gPart (gOp2 fAdd (gVar 2) (gC (.int 1)))) gNoPart))) gYes (gOp2 fAdd (gVar 6) (gC (.str "\n"))))) gNil)))) (gC (.str "text")))) (gRet (gC (.bl false))) gNext))
  (gSeq (gFor (.one 4) (gSeqI (gTup (gCons (gC (.str "")) (gCons (gC (.str "\n")) (gCons (gC (.str "out 2")) (gCons (gC (.str "input i3 1 2\n")) (gCons (gC (.str "out\nout\n")) (gCons (gC (.str "input i3k4 -5 9\nout 0\ninput i3k4 -5 9\n")) gNil)))))))) (gIfS (gTB (gOp2 (fB (fEqB true)) (gFn 3 m__law_told (gCons (gC (.int 3)) (gCons (gC (.int 0)) (gCons (gVar 4) gNil)))) (gC (.str "text")))) (gRet (gC (.bl false))) gNext))
  (gSeq (gSet 5 (gLst (gCons (gTup (gCons (gC (.int 1)) (gCons (gC (.str "const k4 1 2 3")) gNil))) (gCons (gTup (gCons (gC (.int 1)) (gCons (gC (.str "const k4 1 2 3 4 5")) gNil))) (gCons (gTup (gCons (gC (.int 2)) (gCons (gC (.str "dot 0 2 k")) gNil))) (gCons (gTup (gCons (gC (.int 2)) (gCons (gC (.str "dot 0 -1 k")) gNil))) (gCons (gTup (gCons (gC (.int 2)) (gCons (gC (.str "dot 3 1 k")) gNil))) (gCons (gTup (gCons (gC (.int 3)) (gCons (gC (.str "out 3")) gNil))) (gCons (gTup (gCons (gC (.int 3)) (gCons (gC (.str "out -1")) gNil))) (gCons (gTup (gCons (gC (.int 3)) (gCons (gC (.str "out")) gNil))) gNil))))))))))
  (gRet (gCall (fAnyAll fun bs => bs.all id) (gCons (gLc (.tup [2, 3]) [2, 3] (gSeqL (gVar 5)) gYes (gOp2 (fB (fEqB false)) (gFn 3 m__law_told (gCons (gC (.int 3)) (gCons (gC (.int 0)) (gCons (gJoin (gC (.str "")) (gLc (.one 6) [6] (gSeqL (gOp2 fAdd (gOp2 fAdd (gSl (gVar 0) gNoPart (gPart (gVar 2))) (gLst (gCons (gVar 3) gNil))) (gSl (gVar 0) (gPart (gOp2 fAdd (gVar 2) (gC (.int 1)))) gNoPart))) gYes (gOp2 fAdd (gVar 6) (gC (.str "\n"))))) gNil)))) (gC (.str "form")))) gNil))))))))))
def m__law_graphs : Fn := fnD 7 g__law_graphs
def g__law_lines : GS := (gSeq (gSet 0 (gTup (gCons (gC (.int 64)) (gCons (gC (.int 100)) (gCons (gC (.int 50)) (gCons (gC (.int 2)) (gCons (gC (.int 8)) gNil)))))))
  (gSeq (gSet 1 (gLst (gCons (gTup (gCons (gC (.str "")) (gCons (gTup gNil) gNil))) (gCons (gTup (gCons (gC (.str "set 0 -1\n")) (gCons (gTup (gCons (gTup (gCons (gC (.str "set")) (gCons (gC (.int 0)) (gCons (gOp1 fNeg (gC (.int 1))) gNil)))) gNil)) gNil))) (gCons (gTup (gCons (gC (.str "do add 0 2 1 2 0\n")) (gCons (gTup (gCons (gTup (gCons (gC (.str "do")) (gCons (gC (.str "add")) (gCons (gC (.int 0)) (gCons (gTup (gCons (gC (.int 1)) (gCons (gC (.int 2)) gNil))) (gCons (gTup gNil) gNil)))))) gNil)) gNil))) (gCons (gTup (gCons (gC (.str "do clamp 3 1 2 2 -5 5\n")) (gCons (gTup (gCons (gTup (gCons (gC (.str "do")) (gCons (gC (.str "clamp")) (gCons (gC (.int 3)) (gCons (gTup (gCons (gC (.int 2)) gNil)) (gCons (gTup (gCons (gOp1 fNeg (gC (.int 5))) (gCons (gC (.int 5)) gNil))) gNil)))))) gNil)) gNil))) (gCons (gTup (gCons (gC (.str "vector add 0 1 2 8\nwait 1\n")) (gCons (gTup (gCons (gTup (gCons (gC (.str "vector")) (gCons (gC (.str "add")) (gCons (gC (.int 0)) (gCons (gC (.int 1)) (gCons (gC (.int 2)) (gCons (gC (.int 8)) gNil))))))) (gCons (gTup (gCons (gC (.str "wait")) (gCons (gC (.int 1)) gNil))) gNil))) gNil))) (gCons (gTup (gCons (gC (.str "loop 0 0 1 2\nend\n")) (gCons (gTup (gCons (gTup (gCons (gC (.str "loop")) (gCons (gC (.int 0)) (gCons (gC (.int 0)) (gCons (gC (.int 1)) (gCons (gC (.int 2)) gNil)))))) (gCons (gTup (gCons (gC (.str "end")) gNil)) gNil))) gNil))) gNil))))))))
  (gSeq (gForV (.tup [2, 3]) 1 (gIfS (gTB (gOp2 (fB (fEqB true)) (gFn 3 m__law_told (gCons (gC (.int 2)) (gCons (gVar 0) (gCons (gVar 2) gNil)))) (gVar 3))) (gRet (gC (.bl false))) gNext))
  (gSeq (gFor (.one 4) (gSeqI (gTup (gCons (gC (.str "set 0")) (gCons (gC (.str "set 0 1 2")) (gCons (gC (.str "set 00 1")) (gCons (gC (.str "set +1 1")) (gCons (gC (.str "set  0 1")) (gCons (gC (.str " set 0 1")) (gCons (gC (.str "set 0 1 ")) (gCons (gC (.str "set 0 -0")) (gCons (gC (.str "set 0 01")) (gCons (gC (.str "set 0 x")) (gCons (gC (.str "jump")) (gCons (gC (.str "")) (gCons (gC (.str "do dot 0 1 1 0")) (gCons (gC (.str "do add 0 3 1 2 0")) (gCons (gC (.str "do add 0 -1 0")) (gCons (gC (.str "do add 0 2 1 2")) (gCons (gC (.str "do add 0 2 1 2 1")) (gCons (gC (.str "vector dot 0 1 2 3")) (gCons (gC (.str "end 1")) (gCons (gC (.str "SET 0 1")) (gCons (gC (.str "set 0 1	")) gNil))))))))))))))))))))))) (gIfS (gTB (gOp2 (fB (fEqB true)) (gFn 3 m__law_told (gCons (gC (.int 2)) (gCons (gVar 0) (gCons (gOp2 fAdd (gVar 4) (gC (.str "\n"))) gNil)))) (gC (.str "text")))) (gRet (gC (.bl false))) gNext))
  (gSeq (gFor (.one 2) (gSeqI (gTup (gCons (gC (.str "set 0 1")) (gCons (gC (.str "\n")) (gCons (gC (.str "set 0 1\n\n")) (gCons (gC (.str "set 0 1\nset 0 1")) gNil)))))) (gIfS (gTB (gOp2 (fB (fEqB true)) (gFn 3 m__law_told (gCons (gC (.int 2)) (gCons (gVar 0) (gCons (gVar 2) gNil)))) (gC (.str "text")))) (gRet (gC (.bl false))) gNext))
  (gRet (gAndV (gOp2 (fB (fEqB false)) (gFn 3 m__law_told (gCons (gC (.int 2)) (gCons (gVar 0) (gCons (gC (.str "vector neg 0 1 2 3\n")) gNil)))) (gC (.str "form"))) (gAndV (gOp2 (fB (fEqB false)) (gFn 3 m__law_told (gCons (gC (.int 2)) (gCons (gVar 0) (gCons (gC (.str "set 32 1\n")) gNil)))) (gC (.str "range"))) (gOp2 (fB (fEqB false)) (gFn 3 m__law_told (gCons (gC (.int 2)) (gCons (gVar 0) (gCons (gC (.str "do add 0 1 1 0\n")) gNil)))) (gC (.str "form")))))))))))
def m__law_lines : Fn := fnD 5 g__law_lines
def g__law_machines : GS := (gSeq (gSet 0 (gLst (gCons (gC (.int 32)) (gCons (gC (.int 1)) (gCons (gC (.int 16)) (gCons (gC (.int 1)) (gCons (gC (.int 1)) gNil)))))))
  (gSeq (gSet 1 (gLst (gCons (gC (.int 256)) (gCons (gC (.int 16384)) (gCons (gC (.int 4096)) (gCons (gC (.int 4)) (gCons (gC (.int 16)) gNil)))))))
  (gSeq (gIfS (gOr (gTB (gOp2 (fB (fEqB true)) (gFn 3 m__law_told (gCons (gC (.int 0)) (gCons (gCall fTuple (gCons (gVar 0) gNil)) (gCons (gC (.int 0)) gNil)))) (gC (.str "")))) (gTB (gOp2 (fB (fEqB true)) (gFn 3 m__law_told (gCons (gC (.int 0)) (gCons (gCall fTuple (gCons (gVar 1) gNil)) (gCons (gC (.int 0)) gNil)))) (gC (.str ""))))) (gRet (gC (.bl false))) gNext)
  (gSeq (gFor (.one 2) (gRangeI fRange1 (gCons (gC (.int 5)) gNil)) (gFor (.one 3) (gSeqI (gTup (gCons (gOp2 iSub (gOp2 fIx (gVar 0) (gVar 2)) (gC (.int 1))) (gCons (gOp2 fAdd (gOp2 fIx (gVar 1) (gVar 2)) (gC (.int 1))) (gCons (gC (.int 0)) (gCons (gOp1 fNeg (gC (.int 1))) gNil)))))) (gIfS (gTB (gOp2 (fB (fEqB true)) (gFn 3 m__law_told (gCons (gC (.int 0)) (gCons (gCall fTuple (gCons (gOp2 fAdd (gOp2 fAdd (gSl (gVar 0) gNoPart (gPart (gVar 2))) (gLst (gCons (gVar 3) gNil))) (gSl (gVar 0) (gPart (gOp2 fAdd (gVar 2) (gC (.int 1)))) gNoPart)) gNil)) (gCons (gC (.int 0)) gNil)))) (gC (.str "machine")))) (gRet (gC (.bl false))) gNext)))
  (gRet (gC (.bl true)))))))
def m__law_machines : Fn := fnD 4 g__law_machines
def g_law : GS := (gSeq (gSet 1 (gC (.int 0)))
  (gSeq (gFor (.one 2) (gScr (gVar 0)) (gSet 1 (gOp2 fMod (gCall fIntT (gCons (gOp2 fAdd (gVar 1) (gCall fAbs (gCons (gVar 2) gNil))) gNil)) (gC (.int 4)))))
  (gRet (gSel [m__law_machines, m__law_codes, m__law_lines, m__law_graphs] (gVar 1)))))
def m_law : Fn := fnD 3 g_law
/-- what the top leaves -/
structure Txt (K : PySem.W.Frag) (w : World) (mg : Str → Option Value) : Prop where
  b_abs : mg "abs" = none
  b_all : mg "all" = none
  b_any : mg "any" = none
  b_int : mg "int" = none
  b_isinstance : mg "isinstance" = none
  b_len : mg "len" = none
  b_list : mg "list" = none
  b_max : mg "max" = none
  b_min : mg "min" = none
  b_range : mg "range" = none
  b_sorted : mg "sorted" = none
  b_tuple : mg "tuple" = none
  d_check_machine : DefT K mg "check_machine" s_check_machine ["machine"]
  d_check_skip : DefT K mg "check_skip" s_check_skip ["code", "at"]
  d_depths_of : DefT K mg "depths_of" s_depths_of ["code"]
  d_fields_in_range : DefT K mg "fields_in_range" s_fields_in_range ["kind", "info"]
  d_fits_width : DefT K mg "fits_width" s_fits_width ["width", "n"]
  d_loop_in_range : DefT K mg "loop_in_range" s_loop_in_range ["width", "instruction"]
  d_own_in_range : DefT K mg "own_in_range" s_own_in_range ["machine", "instruction"]
  d_in_range : DefT K mg "in_range" s_in_range ["machine", "instruction"]
  d_steps_in : DefT K mg "steps_in" s_steps_in ["code"]
  d_well_formed : DefT K mg "well_formed" s_well_formed ["instruction"]
  d_check_code : DefT K mg "check_code" s_check_code ["machine", "code"]
  d_read_integer : DefT K mg "read_integer" s_read_integer ["word", "most"]
  d_number_in_listing : DefA K mg "number_in_listing" "number_in" s_number_in_listing ["word"]
  d_group_in : DefT K mg "group_in" s_group_in ["words"]
  d_kind_in : DefT K mg "kind_in" s_kind_in ["word"]
  d_do_in : DefT K mg "do_in" s_do_in ["words"]
  d_instruction_in : DefT K mg "instruction_in" s_instruction_in ["line"]
  d_read_code : DefT K mg "read_code" s_read_code ["machine", "text"]
  d_letters_of : DefT K mg "letters_of" s_letters_of ["shape"]
  d_same_but : DefT K mg "same_but" s_same_but ["first", "second", "letter"]
  d_check_axes : DefT K mg "check_axes" s_check_axes ["kind", "info", "shapes"]
  d_size_on : DefT K mg "size_on" s_size_on ["shape", "letter"]
  d_check_extents : DefT K mg "check_extents" s_check_extents ["kind", "info", "shapes"]
  d_within : DefT K mg "within" s_within ["numbers", "low", "high"]
  d_check_fields : DefT K mg "check_fields" s_check_fields ["kind", "info"]
  d_count_of : DefT K mg "count_of" s_count_of ["shape"]
  d_check_form : DefT K mg "check_form" s_check_form ["node", "domains"]
  d_check_letters : DefT K mg "check_letters" s_check_letters ["shape"]
  d_check_shape : DefT K mg "check_shape" s_check_shape ["shape"]
  d_corners : DefT K mg "corners" s_corners ["a", "b"]
  d_other_span : DefT K mg "other_span" s_other_span ["kind", "info", "shapes", "spans"]
  d_limit : DefT K mg "limit" s_limit ["n", "low", "high"]
  d_round_off : DefT K mg "round_off" s_round_off ["n", "bits"]
  d_pointwise_span : DefT K mg "pointwise_span" s_pointwise_span ["kind", "info", "spans"]
  d_spread_together : DefT K mg "spread_together" s_spread_together ["first", "second"]
  d_broadcast : DefT K mg "broadcast" s_broadcast ["first", "second"]
  d_in_place_of : DefT K mg "in_place_of" s_in_place_of ["shape", "letter", "others"]
  d_resized : DefT K mg "resized" s_resized ["shape", "letter", "size"]
  d_without : DefT K mg "without" s_without ["shape", "letter"]
  d_raw_shape : DefT K mg "raw_shape" s_raw_shape ["kind", "info", "shapes"]
  d_shape_of : DefT K mg "shape_of" s_shape_of ["kind", "info", "shapes"]
  d_domain_of : DefT K mg "domain_of" s_domain_of ["node", "domains"]
  d_node_work : DefT K mg "node_work" s_node_work ["node", "domains", "shape"]
  d_total_work : DefT K mg "total_work" s_total_work ["nodes", "domains"]
  d_check_graph : DefT K mg "check_graph" s_check_graph ["graph"]
  d_letter_in : DefT K mg "letter_in" s_letter_in ["word"]
  d_letters_in : DefT K mg "letters_in" s_letters_in ["word"]
  d_number_in_notation : DefA K mg "number_in_notation" "number_in" s_number_in_notation ["word"]
  d_read_natural : DefT K mg "read_natural" s_read_natural ["word", "most"]
  d_shape_in : DefT K mg "shape_in" s_shape_in ["word"]
  d_fields_in : DefT K mg "fields_in" s_fields_in ["kind", "words"]
  d_node_in : DefT K mg "node_in" s_node_in ["line"]
  d_read_graph : DefT K mg "read_graph" s_read_graph ["text"]
  d__law_told : DefT K mg "_law_told" s__law_told ["which", "one", "two"]
  d__law_codes : DefT K mg "_law_codes" s__law_codes []
  d__law_graphs : DefT K mg "_law_graphs" s__law_graphs []
  d__law_lines : DefT K mg "_law_lines" s__law_lines []
  d__law_machines : DefT K mg "_law_machines" s__law_machines []
  d_law : DefT K mg "law" s_law ["script"]
  e_AxisError : ErrC K mg "AxisError"
  e_FormError : ErrC K mg "FormError"
  e_KindError : ErrC K mg "KindError"
  e_MachineError : ErrC K mg "MachineError"
  e_RangeError : ErrC K mg "RangeError"
  e_RankError : ErrC K mg "RankError"
  e_TextError : ErrC K mg "TextError"
  e_TooLarge : ErrC K mg "TooLarge"
  e_TooWide : ErrC K mg "TooWide"
  c_TensorError : CatchC K mg "TensorError" (tabS tc_TensorError)
  i_FormError : IsT K mg "FormError" (tabS ti_FormError)
  i_MachineError : IsT K mg "MachineError" (tabS ti_MachineError)
  i_RangeError : IsT K mg "RangeError" (tabS ti_RangeError)
  i_TextError : IsT K mg "TextError" (tabS ti_TextError)
  g_BROADCAST : GC K mg "BROADCAST" (.tup [(.str "add"), (.str "sub"), (.str "mul"), (.str "max"), (.str "min"), (.str "less"), (.str "equal"), (.str "where")])
  g_CODE_LIMIT : GC K mg "CODE_LIMIT" (.int 4000000)
  g_COUNT_LIMIT : GC K mg "COUNT_LIMIT" (.int 256)
  g_EXECUTION_LIMIT : GC K mg "EXECUTION_LIMIT" (.int 1000000000)
  g_FIGURES : GC K mg "FIGURES" (.str "0123456789")
  g_FIGURE_LIMIT_listing : GC K mg "FIGURE_LIMIT_listing" (.int 90)
  g_FIGURE_LIMIT_notation : GC K mg "FIGURE_LIMIT_notation" (.int 70)
  g_LETTERS : GC K mg "LETTERS" (.str "abcdefghijklmnopqrstuvwxyz")
  g_LIMITS : GC K mg "LIMITS" (.tup [(.tup [(.int 32), (.int 256)]), (.tup [(.int 1), (.int 16384)]), (.tup [(.int 16), (.int 4096)]), (.tup [(.int 1), (.int 4)]), (.tup [(.int 1), (.int 16)])])
  g_NEST_LIMIT : GC K mg "NEST_LIMIT" (.int 16)
  g_NODE_LIMIT : GC K mg "NODE_LIMIT" (.int 400)
  g_POINTWISE : GC K mg "POINTWISE" (.tup [(.str "add"), (.str "sub"), (.str "mul"), (.str "max"), (.str "min"), (.str "less"), (.str "equal"), (.str "neg"), (.str "clamp"), (.str "shift"), (.str "where")])
  g_RANK_LIMIT : GC K mg "RANK_LIMIT" (.int 4)
  g_SIZE_LIMIT : GC K mg "SIZE_LIMIT" (.int 16)
  g_WIDEST : GC K mg "WIDEST" (.int 1606938044258990275541962092341162602522202993782792835301376)
  g_WITH_AXIS : GC K mg "WITH_AXIS" (.tup [(.str "sum"), (.str "peak"), (.str "dot"), (.str "rename"), (.str "cut"), (.str "pad"), (.str "join"), (.str "window"), (.str "fold"), (.str "gather")])
  g_WORK_LIMIT : GC K mg "WORK_LIMIT" (.int 50000)
  k_ARGS : DictT K w mg "ARGS" tab_ARGS
  k_AXIS_FIELDS : DictT K w mg "AXIS_FIELDS" tab_AXIS_FIELDS
  k_FIELDS : DictT K w mg "FIELDS" tab_FIELDS
  k_LENGTHS : DictT K w mg "LENGTHS" tab_LENGTHS
  k_OFFSETS : DictT K w mg "OFFSETS" tab_OFFSETS
  k_SLOTS : DictT K w mg "SLOTS" tab_SLOTS
section
variable {P : Program} {w : World} {K : PySem.W.Frag} {mg : Str → Option Value} {base : Heap}
theorem ok_check_machine (T : Txt K w mg) : FD P w K mg base 1 "check_machine" 1 m_check_machine := fd_of T.d_check_machine fun a fd F => fn_ok (N := n_check_machine) F sc_check_machine fun cdv A outer s H E hr =>
  (dss_one (ds_for (t := (.one 1)) (passes_of rfl) rfl (di_range1 T.b_range (da_cons de_int da_nil)) (pg_name (i := 1) sc_check_machine.nd rfl (.inl rfl)) (dss_one (ds_if (dt_w (dw_or (dt_cmp op_lt og_intB (de_ix (hu_of hr) (dv 0) (dv 1)) (de_ix (hu_of hr) (de_ix (hu_of hr) (de_glob T.g_LIMITS) (dv 1)) de_int) (nomark _)) (dw_or1 (dt_cmp op_gt og_intB (de_ix (hu_of hr) (dv 0) (dv 1)) (de_ix (hu_of hr) (de_ix (hu_of hr) (de_glob T.g_LIMITS) (dv 1)) de_int) (nomark _))))) (dss_one (ds_raise rfl (takes_of rfl rfl rfl rfl) T.e_MachineError)) dss_nil))))
theorem ok_check_skip (T : Txt K w mg) : FD P w K mg base 1 "check_skip" 2 m_check_skip := fd_of T.d_check_skip fun a fd F => fn_ok (N := n_check_skip) F sc_check_skip fun cdv A outer s H E hr =>
  (dss_cons (ds_set (i := 2) sc_check_skip.nd rfl (.inl rfl) de_int)
  (dss_cons (ds_for (t := (.one 3)) (passes_of rfl) rfl (di_range2B T.b_range (da_cons (de_add (dv 1) de_int) (da_cons (de_add (de_add (dv 1) de_int) (de_maxA (hu64 hr) rfl T.b_max (da_cons de_int (da_cons (de_ix (hu_of hr) (de_ix (hu_of hr) (dv 0) (dv 1)) de_int) da_nil)))) da_nil))) (pg_name (i := 3) sc_check_skip.nd rfl (.inl rfl)) (dss_cons (ds_if (dt_cmp op_ge og_intB (dv 3) (de_len T.b_len (da_cons (dv 0) da_nil)) (nomark _)) (dss_one (ds_raise rfl (takes_of rfl rfl rfl rfl) T.e_FormError)) dss_nil)
  (dss_cons (ds_if (dt_cmp (op_eqA (hu64 hr)) og_eq (de_ix (hu_of hr) (de_ix (hu_of hr) (dv 0) (dv 3)) de_int) de_str (nomark _)) (dss_one (ds_set (i := 2) sc_check_skip.nd rfl (.inl rfl) (de_add (dv 2) de_int))) (dss_one (ds_if (dt_cmp (op_eqA (hu64 hr)) og_eq (de_ix (hu_of hr) (de_ix (hu_of hr) (dv 0) (dv 3)) de_int) de_str (nomark _)) (dss_one (ds_set (i := 2) sc_check_skip.nd rfl (.inl rfl) (de_sub (dv 2) de_int))) dss_nil)))
  (dss_one (ds_if (dt_cmp op_lt og_intB (dv 2) de_int (nomark _)) (dss_one (ds_raise rfl (takes_of rfl rfl rfl rfl) T.e_FormError)) dss_nil)))))
  (dss_one (ds_if (dt_cmp (op_neA (hu64 hr)) og_ne (dv 2) de_int (nomark _)) (dss_one (ds_raise rfl (takes_of rfl rfl rfl rfl) T.e_FormError)) dss_nil))))
theorem ok_depths_of (T : Txt K w mg) : FD P w K mg base 1 "depths_of" 1 m_depths_of := fd_of T.d_depths_of fun a fd F => fn_ok (N := n_depths_of) F sc_depths_of fun cdv A outer s H E hr =>
  (dss_cons (ds_set (i := 1) sc_depths_of.nd rfl (.inl rfl) (de_lst da_nil))
  (dss_cons (ds_set (i := 2) sc_depths_of.nd rfl (.inl rfl) de_int)
  (dss_cons (ds_forV (t := (.one 3)) (i := 0) rfl (.inl rfl) (passes_of rfl) rfl (pg_name (i := 3) sc_depths_of.nd rfl (.inl rfl)) (dss_cons (ds_if (dt_cmp (op_eqA (hu64 hr)) og_eq (de_ix (hu_of hr) (dv 3) de_int) de_str (nomark _)) (dss_cons (ds_set (i := 2) sc_depths_of.nd rfl (.inl rfl) (de_sub (dv 2) de_int))
  (dss_one (ds_if (dt_cmp op_lt og_intB (dv 2) de_int (nomark _)) (dss_one (ds_raise rfl (takes_of rfl rfl rfl rfl) T.e_FormError)) dss_nil))) dss_nil)
  (dss_cons (ds_app (i := 1) rfl (.inl rfl) (dv 2))
  (dss_one (ds_if (dt_cmp (op_eqA (hu64 hr)) og_eq (de_ix (hu_of hr) (dv 3) de_int) de_str (nomark _)) (dss_one (ds_set (i := 2) sc_depths_of.nd rfl (.inl rfl) (de_add (dv 2) de_int))) dss_nil)))))
  (dss_cons (ds_if (dt_cmp (op_neA (hu64 hr)) og_ne (dv 2) de_int (nomark _)) (dss_one (ds_raise rfl (takes_of rfl rfl rfl rfl) T.e_FormError)) dss_nil)
  (dss_one (ds_retV (i := 1) rfl (.inl rfl)))))))
theorem ok_fields_in_range (T : Txt K w mg) : FD P w K mg base 1 "fields_in_range" 2 m_fields_in_range := fd_of T.d_fields_in_range fun a fd F => fn_ok (N := n_fields_in_range) F sc_fields_in_range fun cdv A outer s H E hr =>
  (dss_cons (ds_if (dt_cmp (op_eqA (hu64 hr)) og_eq (dv 0) de_str (nomark _)) (dss_one (ds_ret (de_chain3 op_le og_intB op_le og_intB op_le og_intB (de_neg (de_glob T.g_WIDEST)) (de_ix (hu_of hr) (dv 1) de_int) (de_ix (hu_of hr) (dv 1) de_int) (de_glob T.g_WIDEST)))) dss_nil)
  (dss_cons (ds_if (dt_cmp (op_eqA (hu64 hr)) og_eq (dv 0) de_str (nomark _)) (dss_one (ds_ret (de_chain op_le og_intB op_le og_intB de_int (de_ix (hu_of hr) (dv 1) de_int) de_int))) dss_nil)
  (dss_one (ds_ret de_bl))))
theorem ok_fits_width (T : Txt K w mg) : FD P w K mg base 1 "fits_width" 2 m_fits_width := fd_of T.d_fits_width fun a fd F => fn_ok (N := n_fits_width) F sc_fits_width fun cdv A outer s H E hr =>
  (dss_one (ds_ret (de_chain op_le og_intB op_lt og_intB (de_neg (de_shl de_int (de_sub (dv 0) de_int))) (dv 1) (de_shl de_int (de_sub (dv 0) de_int)))))
theorem ok_loop_in_range (T : Txt K w mg) : FD P w K mg base 2 "loop_in_range" 2 m_loop_in_range := fd_of T.d_loop_in_range fun a fd F => fn_ok (N := n_loop_in_range) F sc_loop_in_range fun cdv A outer s H E hr =>
  (dss_cons (ds_unpT rfl (pgs_cons (pg_name (i := 2) sc_loop_in_range.nd rfl (.inl rfl)) (pgs_cons (pg_name (i := 3) sc_loop_in_range.nd rfl (.inl rfl)) (pgs_cons (pg_name (i := 4) sc_loop_in_range.nd rfl (.inl rfl)) pgs_nil))) (de_slice (dv 1) (do_some de_int) (do_some de_int)) rfl)
  (dss_cons (ds_set (i := 5) sc_loop_in_range.nd rfl (.inl rfl) (de_shl de_int (dv 0)))
  (dss_cons (ds_if (dt_w (dw_or (dt_not (dt_chain op_le og_intB op_le og_intB de_int (dv 4) de_int)) (dw_or (dt_not (dt_chain op_le og_intB op_le og_intB (de_neg (dv 5)) (dv 2) (dv 5))) (dw_or1 (dt_not (dt_chain op_le og_intB op_le og_intB (de_neg (dv 5)) (dv 3) (dv 5))))))) (dss_one (ds_ret de_bl)) dss_nil)
  (dss_one (ds_ret (de_and (de_call ((ok_fits_width T).mono (by decide)) hr (takes_of rfl rfl rfl rfl) (da_cons (dv 0) (da_cons (dv 2) da_nil))) (de_one (de_call ((ok_fits_width T).mono (by decide)) hr (takes_of rfl rfl rfl rfl) (da_cons (dv 0) (da_cons (de_add (dv 2) (de_mul (dv 3) (de_sub (dv 4) de_int))) da_nil))))))))))
theorem ok_own_in_range (T : Txt K w mg) : FD P w K mg base 3 "own_in_range" 2 m_own_in_range := fd_of T.d_own_in_range fun a fd F => fn_ok (N := n_own_in_range) F sc_own_in_range fun cdv A outer s H E hr =>
  (dss_cons (ds_unpT rfl (pgs_cons (pg_name (i := 2) sc_own_in_range.nd rfl (.inr rfl)) (pgs_cons (pg_name (i := 3) sc_own_in_range.nd rfl (.inl rfl)) (pgs_cons (pg_name (i := 4) sc_own_in_range.nd rfl (.inl rfl)) (pgs_cons (pg_name (i := 5) sc_own_in_range.nd rfl (.inl rfl)) (pgs_cons (pg_name (i := 6) sc_own_in_range.nd rfl (.inl rfl)) pgs_nil))))) (dv 0) rfl)
  (dss_cons (ds_set (i := 7) sc_own_in_range.nd rfl (.inl rfl) (de_ix (hu_of hr) (dv 1) de_int))
  (dss_cons (ds_if (dt_cmp (op_eqA (hu64 hr)) og_eq (dv 7) de_str (nomark _)) (dss_one (ds_ret (de_call ((ok_fits_width T).mono (by decide)) hr (takes_of rfl rfl rfl rfl) (da_cons (dv 2) (da_cons (de_ix (hu_of hr) (dv 1) de_int) da_nil))))) dss_nil)
  (dss_cons (ds_if (dt_cmp (op_eqA (hu64 hr)) og_eq (dv 7) de_str (nomark _)) (dss_cons (ds_set (i := 8) sc_own_in_range.nd rfl (.inl rfl) (de_and (de_all rfl T.b_all (da_cons (de_lc2 (own := [("s", 9)]) rfl sc_own_in_range.nd (di2_seq (de_ix (hu_of hr) (dv 1) de_int)) (blkOk_by (N := n_own_in_range) (sc := defScope s_own_in_range) (by decide +kernel)) (fun _ _ _ _ _ => (pg_name (i := 9) sc_own_in_range.nd rfl (.inl rfl))) (fun _ _ _ _ _ => dts_nil) (fun _ _ _ _ _ => (de_chain op_le og_intB op_le og_intB de_int (dv 9) de_int))) da_nil)) (de_one (de_call ((ok_fields_in_range T).mono (by decide)) hr (takes_of rfl rfl rfl rfl) (da_cons (de_ix (hu_of hr) (dv 1) de_int) (da_cons (de_ix (hu_of hr) (dv 1) de_int) da_nil))))))
  (dss_cons (ds_if (dt_cmp (op_eqA (hu64 hr)) og_eq (de_ix (hu_of hr) (dv 1) de_int) de_str (nomark _)) (dss_one (ds_set (i := 8) sc_own_in_range.nd rfl (.inl rfl) (de_and (dv 8) (de_one (de_all rfl T.b_all (da_cons (de_lc2 (own := [("n", 10)]) rfl sc_own_in_range.nd (di2_seq (de_ix (hu_of hr) (dv 1) de_int)) (blkOk_by (N := n_own_in_range) (sc := defScope s_own_in_range) (by decide +kernel)) (fun _ _ _ _ _ => (pg_name (i := 10) sc_own_in_range.nd rfl (.inl rfl))) (fun _ _ _ _ _ => dts_nil) (fun _ _ _ _ _ => (de_call ((ok_fits_width T).mono (by decide)) hr tk0 (da_cons (dv 2) (da_cons (dv 10) da_nil))))) da_nil)))))) dss_nil)
  (dss_one (ds_retV (i := 8) rfl (.inl rfl))))) dss_nil)
  (dss_cons (ds_if (dt_cmp (op_eqA (hu64 hr)) og_eq (dv 7) de_str (nomark _)) (dss_one (ds_ret (de_chain op_le og_intB op_le og_intB de_int (de_ix (hu_of hr) (dv 1) de_int) (dv 6)))) dss_nil)
  (dss_cons (ds_if (dt_cmp (op_eqA (hu64 hr)) og_eq (dv 7) de_str (nomark _)) (dss_one (ds_ret (de_chain op_le og_intB op_le og_intB de_int (de_ix (hu_of hr) (dv 1) de_int) (dv 6)))) dss_nil)
  (dss_cons (ds_if (dt_cmp (op_eqA (hu64 hr)) og_eq (dv 7) de_str (nomark _)) (dss_one (ds_ret (de_call ((ok_loop_in_range T).mono (by decide)) hr (takes_of rfl rfl rfl rfl) (da_cons (dv 2) (da_cons (dv 1) da_nil))))) dss_nil)
  (dss_cons (ds_if (dt_cmp (op_eqA (hu64 hr)) og_eq (dv 7) de_str (nomark _)) (dss_one (ds_ret (de_chain op_le og_intB op_le og_intB de_int (de_ix (hu_of hr) (dv 1) de_int) (de_glob T.g_CODE_LIMIT)))) dss_nil)
  (dss_cons (ds_if (dt_cmp (op_inA (hu_of hr)) og_in (dv 7) (de_tup (da_cons de_str (da_cons de_str da_nil))) (by rfl)) (dss_one (ds_ret (de_and (de_chain op_le og_intB op_lt og_intB de_int (de_ix (hu_of hr) (dv 1) de_int) (dv 5)) (de_one (de_chain op_le og_intB op_le og_intB de_int (de_ix (hu_of hr) (dv 1) de_int) de_int))))) dss_nil)
  (dss_cons (ds_if (dt_cmp (op_eqA (hu64 hr)) og_eq (dv 7) de_str (nomark _)) (dss_one (ds_ret (de_chain op_le og_intB op_lt og_intB de_int (de_ix (hu_of hr) (dv 1) de_int) (dv 5)))) dss_nil)
  (dss_one (ds_ret de_bl))))))))))))
theorem ok_in_range (T : Txt K w mg) : FD P w K mg base 4 "in_range" 2 m_in_range := fd_of T.d_in_range fun a fd F => fn_ok (N := n_in_range) F sc_in_range fun cdv A outer s H E hr =>
  (dss_cons (ds_set (i := 2) sc_in_range.nd rfl (.inl rfl) (de_ix (hu_of hr) (dv 1) de_int))
  (dss_cons (ds_if (dt_not (dt_tru (de_all rfl T.b_all (da_cons (de_lc2 (own := [("k", 3)]) rfl sc_in_range.nd (di2_seq (de_itT T.k_SLOTS (dv 2))) (blkOk_by (N := n_in_range) (sc := defScope s_in_range) (by decide +kernel)) (fun _ _ _ _ _ => (pg_name (i := 3) sc_in_range.nd rfl (.inl rfl))) (fun _ _ _ _ _ => dts_nil) (fun _ _ _ _ _ => (de_chain op_le og_intB op_le og_intB de_int (de_ix (hu_of hr) (dv 1) (dv 3)) de_int))) da_nil)))) (dss_one (ds_ret de_bl)) dss_nil)
  (dss_cons (ds_if (dt_not (dt_tru (de_all rfl T.b_all (da_cons (de_lc2 (own := [("k", 3)]) rfl sc_in_range.nd (di2_seq (de_itT T.k_OFFSETS (dv 2))) (blkOk_by (N := n_in_range) (sc := defScope s_in_range) (by decide +kernel)) (fun _ _ _ _ _ => (pg_name (i := 3) sc_in_range.nd rfl (.inl rfl))) (fun _ _ _ _ _ => dts_nil) (fun _ _ _ _ _ => (de_chain op_le og_intB op_le og_intB (de_neg de_int) (de_ix (hu_of hr) (dv 1) (dv 3)) de_int))) da_nil)))) (dss_one (ds_ret de_bl)) dss_nil)
  (dss_one (ds_ret (de_call ((ok_own_in_range T).mono (by decide)) hr (takes_of rfl rfl rfl rfl) (da_cons (dv 0) (da_cons (dv 1) da_nil))))))))
theorem ok_steps_in (T : Txt K w mg) : FD P w K mg base 1 "steps_in" 1 m_steps_in := fd_of T.d_steps_in fun a fd F => fn_ok (N := n_steps_in) F sc_steps_in fun cdv A outer s H E hr =>
  (dss_cons (ds_set (i := 1) sc_steps_in.nd rfl (.inl rfl) (de_lst (da_cons de_int da_nil)))
  (dss_cons (ds_set (i := 2) sc_steps_in.nd rfl (.inl rfl) (de_lst (da_cons de_int da_nil)))
  (dss_cons (ds_forV (t := (.one 3)) (i := 0) rfl (.inl rfl) (passes_of rfl) rfl (pg_name (i := 3) sc_steps_in.nd rfl (.inl rfl)) (dss_one (ds_if (dt_cmp (op_eqA (hu64 hr)) og_eq (de_ix (hu_of hr) (dv 3) de_int) de_str (nomark _)) (dss_cons (ds_app (i := 1) rfl (.inl rfl) de_int)
  (dss_one (ds_app (i := 2) rfl (.inl rfl) (de_ix (hu_of hr) (dv 3) de_int)))) (dss_one (ds_if (dt_cmp (op_eqA (hu64 hr)) og_eq (de_ix (hu_of hr) (dv 3) de_int) de_str (nomark _)) (dss_cons (ds_pop (i := 4) (j := 1) sc_steps_in.nd rfl (.inl rfl) rfl (.inl rfl))
  (dss_one (ds_putPop (i := 1) (j := 2) rfl (.inl rfl) rfl (.inl rfl) (de_neg de_int) (de_add (de_ix (hu_of hr) (dv 1) (de_neg de_int)) de_int) (de_add (dv 4) de_int)))) (dss_one (ds_put (i := 1) (hu_of hr) rfl (.inl rfl) (de_neg de_int) (de_add (de_ix (hu_of hr) (dv 1) (de_neg de_int)) de_int))))))))
  (dss_one (ds_ret (de_ix (hu_of hr) (dv 1) de_int))))))
theorem ok_well_formed (T : Txt K w mg) : FD P w K mg base 1 "well_formed" 1 m_well_formed := fd_of T.d_well_formed fun a fd F => fn_ok (N := n_well_formed) F sc_well_formed fun cdv A outer s H E hr =>
  (dss_cons (ds_if (dt_w (dw_or (dt_cmp (op_eqA (hu64 hr)) og_eq (de_len T.b_len (da_cons (dv 0) da_nil)) de_int (nomark _)) (dw_or1 (dt_niT T.k_LENGTHS (de_ix (hu_of hr) (dv 0) de_int))))) (dss_one (ds_ret de_bl)) dss_nil)
  (dss_cons (ds_if (dt_cmp (op_neA (hu64 hr)) og_ne (de_len T.b_len (da_cons (dv 0) da_nil)) (de_itT T.k_LENGTHS (de_ix (hu_of hr) (dv 0) de_int)) (nomark _)) (dss_one (ds_ret de_bl)) dss_nil)
  (dss_cons (ds_if (dt_cmp (op_eqA (hu64 hr)) og_eq (de_ix (hu_of hr) (dv 0) de_int) de_str (nomark _)) (dss_cons (ds_set (i := 1) sc_well_formed.nd rfl (.inl rfl) (de_ix (hu_of hr) (dv 0) de_int))
  (dss_cons (ds_if (dt_cmp (op_niA (hu_of hr)) og_ni (dv 1) (de_glob T.g_POINTWISE) (by rfl)) (dss_one (ds_ret de_bl)) dss_nil)
  (dss_one (ds_ret (de_and (de_cmp (op_eqA (hu64 hr)) og_eq (de_len T.b_len (da_cons (de_ix (hu_of hr) (dv 0) de_int) da_nil)) (de_itT T.k_ARGS (dv 1)) (nomark _)) (de_one (de_cmp (op_eqA (hu64 hr)) og_eq (de_len T.b_len (da_cons (de_ix (hu_of hr) (dv 0) de_int) da_nil)) (de_itT T.k_FIELDS (dv 1)) (nomark _)))))))) dss_nil)
  (dss_cons (ds_if (dt_cmp (op_eqA (hu64 hr)) og_eq (de_ix (hu_of hr) (dv 0) de_int) de_str (nomark _)) (dss_one (ds_ret (de_and (de_cmp (op_inA (hu_of hr)) og_in (de_ix (hu_of hr) (dv 0) de_int) (de_glob T.g_POINTWISE) (by rfl)) (de_one (de_cmp (op_eqA (hu64 hr)) og_eq (de_itT T.k_ARGS (de_ix (hu_of hr) (dv 0) de_int)) de_int (nomark _)))))) dss_nil)
  (dss_one (ds_ret de_bl))))))
theorem ok_check_code (T : Txt K w mg) : FD P w K mg base 5 "check_code" 2 m_check_code := fd_of T.d_check_code fun a fd F => fn_ok (N := n_check_code) F sc_check_code fun cdv A outer s H E hr =>
  (dss_cons (ds_expr (de_call ((ok_check_machine T).mono (by decide)) hr (takes_of rfl rfl rfl rfl) (da_cons (dv 0) da_nil)))
  (dss_cons (ds_forV (t := (.one 2)) (i := 1) rfl (.inl rfl) (passes_of rfl) rfl (pg_name (i := 2) sc_check_code.nd rfl (.inl rfl)) (dss_one (ds_if (dt_not (dt_tru (de_call ((ok_well_formed T).mono (by decide)) hr (takes_of rfl rfl rfl rfl) (da_cons (dv 2) da_nil)))) (dss_one (ds_raise rfl (takes_of rfl rfl rfl rfl) T.e_FormError)) dss_nil)))
  (dss_cons (ds_set (i := 3) sc_check_code.nd rfl (.inl rfl) (de_call ((ok_depths_of T).mono (by decide)) hr (takes_of rfl rfl rfl rfl) (da_cons (dv 1) da_nil)))
  (dss_cons (ds_for (t := (.one 4)) (passes_of rfl) rfl (di_range1 T.b_range (da_cons (de_len T.b_len (da_cons (dv 1) da_nil)) da_nil)) (pg_name (i := 4) sc_check_code.nd rfl (.inl rfl)) (dss_one (ds_if (dt_cmp (op_eqA (hu64 hr)) og_eq (de_ix (hu_of hr) (de_ix (hu_of hr) (dv 1) (dv 4)) de_int) de_str (nomark _)) (dss_one (ds_expr (de_call ((ok_check_skip T).mono (by decide)) hr (takes_of rfl rfl rfl rfl) (da_cons (dv 1) (da_cons (dv 4) da_nil))))) dss_nil)))
  (dss_cons (ds_forV (t := (.one 2)) (i := 1) rfl (.inl rfl) (passes_of rfl) rfl (pg_name (i := 2) sc_check_code.nd rfl (.inl rfl)) (dss_one (ds_if (dt_not (dt_tru (de_call ((ok_in_range T).mono (by decide)) hr (takes_of rfl rfl rfl rfl) (da_cons (dv 0) (da_cons (dv 2) da_nil))))) (dss_one (ds_raise rfl (takes_of rfl rfl rfl rfl) T.e_RangeError)) dss_nil)))
  (dss_one (ds_if (dt_w (dw_or (dt_cmp op_gt og_intB (de_len T.b_len (da_cons (dv 1) da_nil)) (de_glob T.g_CODE_LIMIT) (nomark _)) (dw_or (dt_cmp op_gt og_intB (de_maxA (hu64 hr) rfl T.b_max (da_cons (de_add (de_lst (da_cons de_int da_nil)) (dv 3)) da_nil)) (de_glob T.g_NEST_LIMIT) (nomark _)) (dw_or1 (dt_cmp op_gt og_intB (de_call ((ok_steps_in T).mono (by decide)) hr (takes_of rfl rfl rfl rfl) (da_cons (dv 1) da_nil)) (de_glob T.g_EXECUTION_LIMIT) (nomark _)))))) (dss_one (ds_raise rfl (takes_of rfl rfl rfl rfl) T.e_TooLarge)) dss_nil)))))))
theorem ok_read_integer (T : Txt K w mg) : FD P w K mg base 1 "read_integer" 2 m_read_integer := fd_of T.d_read_integer fun a fd F => fn_ok (N := n_read_integer) F sc_read_integer fun cdv A outer s H E hr =>
  (dss_cons (ds_set (i := 2) sc_read_integer.nd rfl (.inl rfl) (dv 0))
  (dss_cons (ds_if (dt_cmp (op_eqA (hu64 hr)) og_eq (de_slice (dv 0) do_none (do_some de_int)) de_str (nomark _)) (dss_one (ds_set (i := 2) sc_read_integer.nd rfl (.inl rfl) (de_slice (dv 0) (do_some de_int) do_none))) dss_nil)
  (dss_cons (ds_if (dt_w (dw_or (dt_cmp (op_eqA (hu64 hr)) og_eq (dv 2) de_str (nomark _)) (dw_or1 (dt_cmp op_gt og_intB (de_len T.b_len (da_cons (dv 2) da_nil)) (dv 1) (nomark _))))) (dss_one (ds_ret de_non)) dss_nil)
  (dss_cons (ds_forV (t := (.one 3)) (i := 2) rfl (.inl rfl) (passes_of rfl) rfl (pg_name (i := 3) sc_read_integer.nd rfl (.inl rfl)) (dss_one (ds_if (dt_cmp (op_niA (hu_of hr)) og_ni (dv 3) (de_glob T.g_FIGURES) (by rfl)) (dss_one (ds_ret de_non)) dss_nil)))
  (dss_cons (ds_if (dt_w (dw_and (dt_cmp (op_eqA (hu64 hr)) og_eq (de_ix (hu_of hr) (dv 2) de_int) de_str (nomark _)) (dw_and1 (dt_w (dw_or (dt_cmp op_gt og_intB (de_len T.b_len (da_cons (dv 2) da_nil)) de_int (nomark _)) (dw_or1 (dt_cmp op_gt og_intB (de_len T.b_len (da_cons (dv 0) da_nil)) de_int (nomark _)))))))) (dss_one (ds_ret de_non)) dss_nil)
  (dss_one (ds_ret (de_intT T.b_int (da_cons (dv 0) da_nil)))))))))
theorem ok_number_in_listing (T : Txt K w mg) : FD P w K mg base 2 "number_in_listing" 1 m_number_in_listing := fd_ofA T.d_number_in_listing fun a fd F => fn_ok (N := n_number_in_listing) F sc_number_in_listing fun cdv A outer s H E hr =>
  (dss_cons (ds_set (i := 1) sc_number_in_listing.nd rfl (.inl rfl) (de_call ((ok_read_integer T).mono (by decide)) hr (takes_of rfl rfl rfl rfl) (da_cons (dv 0) (da_cons (de_glob T.g_FIGURE_LIMIT_listing) da_nil))))
  (dss_cons (ds_if (dt_cmp op_isN og_isN (dv 1) de_non (nomark _)) (dss_one (ds_raise rfl (takes_of rfl rfl rfl rfl) T.e_TextError)) dss_nil)
  (dss_one (ds_retV (i := 1) rfl (.inl rfl)))))
theorem ok_group_in (T : Txt K w mg) : FD P w K mg base 3 "group_in" 1 m_group_in := fd_of T.d_group_in fun a fd F => fn_ok (N := n_group_in) F sc_group_in fun cdv A outer s H E hr =>
  (dss_cons (ds_if (dt_cmp (op_eqA (hu64 hr)) og_eq (de_len T.b_len (da_cons (dv 0) da_nil)) de_int (nomark _)) (dss_one (ds_raise rfl (takes_of rfl rfl rfl rfl) T.e_TextError)) dss_nil)
  (dss_cons (ds_set (i := 1) sc_group_in.nd rfl (.inl rfl) (de_call ((ok_number_in_listing T).mono (by decide)) hr (takes_of rfl rfl rfl rfl) (da_cons (de_ix (hu_of hr) (dv 0) de_int) da_nil)))
  (dss_cons (ds_if (dt_w (dw_or (dt_cmp op_lt og_intB (dv 1) de_int (nomark _)) (dw_or1 (dt_cmp op_gt og_intB (dv 1) (de_sub (de_len T.b_len (da_cons (dv 0) da_nil)) de_int) (nomark _))))) (dss_one (ds_raise rfl (takes_of rfl rfl rfl rfl) T.e_TextError)) dss_nil)
  (dss_one (ds_ret (de_tup (da_cons (de_tuple T.b_tuple (da_cons (de_lcE (own := [("word", 2)]) rfl rfl rfl (takes_of rfl rfl rfl rfl) sc_group_in.nd (di2_seq (de_slice (dv 0) (do_some de_int) (do_some (de_add de_int (dv 1))))) (blkOk_by (N := n_group_in) (sc := defScope s_group_in) (by decide +kernel)) (fun _ _ _ _ _ _ => (pg_name (i := 2) sc_group_in.nd rfl (.inl rfl))) (fun _ _ _ _ _ _ => dts_nil) (fun _ _ _ _ _ _ _ tk => (de_call ((ok_number_in_listing T).mono (by decide)) hr tk (da_cons (dv 2) da_nil)))) da_nil)) (da_cons (de_slice (dv 0) (do_some (de_add de_int (dv 1))) do_none) da_nil))))))))
theorem ok_kind_in (T : Txt K w mg) : FD P w K mg base 1 "kind_in" 1 m_kind_in := fd_of T.d_kind_in fun a fd F => fn_ok (N := n_kind_in) F sc_kind_in fun cdv A outer s H E hr =>
  (dss_cons (ds_if (dt_cmp (op_niA (hu_of hr)) og_ni (dv 0) (de_glob T.g_POINTWISE) (by rfl)) (dss_one (ds_raise rfl (takes_of rfl rfl rfl rfl) T.e_TextError)) dss_nil)
  (dss_one (ds_retV (i := 0) rfl (.inl rfl))))
theorem ok_do_in (T : Txt K w mg) : FD P w K mg base 4 "do_in" 1 m_do_in := fd_of T.d_do_in fun a fd F => fn_ok (N := n_do_in) F sc_do_in fun cdv A outer s H E hr =>
  (dss_cons (ds_if (dt_cmp op_lt og_intB (de_len T.b_len (da_cons (dv 0) da_nil)) de_int (nomark _)) (dss_one (ds_raise rfl (takes_of rfl rfl rfl rfl) T.e_TextError)) dss_nil)
  (dss_cons (ds_set (i := 1) sc_do_in.nd rfl (.inl rfl) (de_call ((ok_kind_in T).mono (by decide)) hr (takes_of rfl rfl rfl rfl) (da_cons (de_ix (hu_of hr) (dv 0) de_int) da_nil)))
  (dss_cons (ds_set (i := 2) sc_do_in.nd rfl (.inl rfl) (de_call ((ok_number_in_listing T).mono (by decide)) hr (takes_of rfl rfl rfl rfl) (da_cons (de_ix (hu_of hr) (dv 0) de_int) da_nil)))
  (dss_cons (ds_unpT rfl (pgs_cons (pg_name (i := 3) sc_do_in.nd rfl (.inl rfl)) (pgs_cons (pg_name (i := 4) sc_do_in.nd rfl (.inl rfl)) pgs_nil)) (de_call ((ok_group_in T).mono (by decide)) hr (takes_of rfl rfl rfl rfl) (da_cons (de_slice (dv 0) (do_some de_int) do_none) da_nil)) rfl)
  (dss_cons (ds_unpT rfl (pgs_cons (pg_name (i := 5) sc_do_in.nd rfl (.inl rfl)) (pgs_cons (pg_name (i := 4) sc_do_in.nd rfl (.inl rfl)) pgs_nil)) (de_call ((ok_group_in T).mono (by decide)) hr (takes_of rfl rfl rfl rfl) (da_cons (dv 4) da_nil)) rfl)
  (dss_cons (ds_if (dt_cmp op_gt og_intB (de_len T.b_len (da_cons (dv 4) da_nil)) de_int (nomark _)) (dss_one (ds_raise rfl (takes_of rfl rfl rfl rfl) T.e_TextError)) dss_nil)
  (dss_one (ds_ret (de_tup (da_cons de_str (da_cons (dv 1) (da_cons (dv 2) (da_cons (dv 3) (da_cons (dv 5) da_nil))))))))))))))
theorem ok_instruction_in (T : Txt K w mg) : FD P w K mg base 5 "instruction_in" 1 m_instruction_in := fd_of T.d_instruction_in fun a fd F => fn_ok (N := n_instruction_in) F sc_instruction_in fun cdv A outer s H E hr =>
  (dss_cons (ds_set (i := 1) sc_instruction_in.nd rfl (.inl rfl) (de_split (dv 0) de_str))
  (dss_cons (ds_set (i := 2) sc_instruction_in.nd rfl (.inl rfl) (de_ix (hu_of hr) (dv 1) de_int))
  (dss_cons (ds_if (dt_niT T.k_LENGTHS (dv 2)) (dss_one (ds_raise rfl (takes_of rfl rfl rfl rfl) T.e_TextError)) dss_nil)
  (dss_cons (ds_if (dt_cmp (op_eqA (hu64 hr)) og_eq (dv 2) de_str (nomark _)) (dss_one (ds_ret (de_call ((ok_do_in T).mono (by decide)) hr (takes_of rfl rfl rfl rfl) (da_cons (dv 1) da_nil)))) dss_nil)
  (dss_cons (ds_if (dt_cmp (op_neA (hu64 hr)) og_ne (de_len T.b_len (da_cons (dv 1) da_nil)) (de_itT T.k_LENGTHS (dv 2)) (nomark _)) (dss_one (ds_raise rfl (takes_of rfl rfl rfl rfl) T.e_TextError)) dss_nil)
  (dss_cons (ds_if (dt_cmp (op_eqA (hu64 hr)) og_eq (dv 2) de_str (nomark _)) (dss_one (ds_ret (de_add (de_tup (da_cons (dv 2) (da_cons (de_call ((ok_kind_in T).mono (by decide)) hr (takes_of rfl rfl rfl rfl) (da_cons (de_ix (hu_of hr) (dv 1) de_int) da_nil)) da_nil))) (de_tuple T.b_tuple (da_cons (de_lcE (own := [("word", 3)]) rfl rfl rfl (takes_of rfl rfl rfl rfl) sc_instruction_in.nd (di2_seq (de_slice (dv 1) (do_some de_int) do_none)) (blkOk_by (N := n_instruction_in) (sc := defScope s_instruction_in) (by decide +kernel)) (fun _ _ _ _ _ _ => (pg_name (i := 3) sc_instruction_in.nd rfl (.inl rfl))) (fun _ _ _ _ _ _ => dts_nil) (fun _ _ _ _ _ _ _ tk => (de_call ((ok_number_in_listing T).mono (by decide)) hr tk (da_cons (dv 3) da_nil)))) da_nil))))) dss_nil)
  (dss_one (ds_ret (de_add (de_tup (da_cons (dv 2) da_nil)) (de_tuple T.b_tuple (da_cons (de_lcE (own := [("word", 3)]) rfl rfl rfl (takes_of rfl rfl rfl rfl) sc_instruction_in.nd (di2_seq (de_slice (dv 1) (do_some de_int) do_none)) (blkOk_by (N := n_instruction_in) (sc := defScope s_instruction_in) (by decide +kernel)) (fun _ _ _ _ _ _ => (pg_name (i := 3) sc_instruction_in.nd rfl (.inl rfl))) (fun _ _ _ _ _ _ => dts_nil) (fun _ _ _ _ _ _ _ tk => (de_call ((ok_number_in_listing T).mono (by decide)) hr tk (da_cons (dv 3) da_nil)))) da_nil)))))))))))
theorem ok_read_code (T : Txt K w mg) : FD P w K mg base 6 "read_code" 2 m_read_code := fd_of T.d_read_code fun a fd F => fn_ok (N := n_read_code) F sc_read_code fun cdv A outer s H E hr =>
  (dss_cons (ds_expr (de_call ((ok_check_machine T).mono (by decide)) hr (takes_of rfl rfl rfl rfl) (da_cons (dv 0) da_nil)))
  (dss_cons (ds_set (i := 2) sc_read_code.nd rfl (.inl rfl) (de_split (dv 1) de_str))
  (dss_cons (ds_if (dt_cmp (op_neA (hu64 hr)) og_ne (de_ix (hu_of hr) (dv 2) (de_neg de_int)) de_str (nomark _)) (dss_one (ds_raise rfl (takes_of rfl rfl rfl rfl) T.e_TextError)) dss_nil)
  (dss_cons (ds_set (i := 3) sc_read_code.nd rfl (.inl rfl) (de_tuple T.b_tuple (da_cons (de_lcE (own := [("line", 4)]) rfl rfl rfl (takes_of rfl rfl rfl rfl) sc_read_code.nd (di2_seq (de_slice (dv 2) do_none (do_some (de_neg de_int)))) (blkOk_by (N := n_read_code) (sc := defScope s_read_code) (by decide +kernel)) (fun _ _ _ _ _ _ => (pg_name (i := 4) sc_read_code.nd rfl (.inl rfl))) (fun _ _ _ _ _ _ => dts_nil) (fun _ _ _ _ _ _ _ tk => (de_call ((ok_instruction_in T).mono (by decide)) hr tk (da_cons (dv 4) da_nil)))) da_nil)))
  (dss_cons (ds_expr (de_call ((ok_check_code T).mono (by decide)) hr (takes_of rfl rfl rfl rfl) (da_cons (dv 0) (da_cons (dv 3) da_nil))))
  (dss_one (ds_retV (i := 3) rfl (.inl rfl))))))))
theorem ok_letters_of (T : Txt K w mg) : FD P w K mg base 1 "letters_of" 1 m_letters_of := fd_of T.d_letters_of fun a fd F => fn_ok (N := n_letters_of) F sc_letters_of fun cdv A outer s H E hr =>
  (dss_one (ds_ret (de_join de_str (de_lc2 (own := [("axis", 1)]) rfl sc_letters_of.nd (di2_seq (dv 0)) (blkOk_by (N := n_letters_of) (sc := defScope s_letters_of) (by decide +kernel)) (fun _ _ _ _ _ => (pg_name (i := 1) sc_letters_of.nd rfl (.inl rfl))) (fun _ _ _ _ _ => dts_nil) (fun _ _ _ _ _ => (de_ix (hu_of hr) (dv 1) de_int))))))
theorem ok_same_but (T : Txt K w mg) : FD P w K mg base 2 "same_but" 3 m_same_but := fd_of T.d_same_but fun a fd F => fn_ok (N := n_same_but) F sc_same_but fun cdv A outer s H E hr =>
  (dss_cons (ds_if (dt_cmp (op_neA (hu64 hr)) og_ne (de_call ((ok_letters_of T).mono (by decide)) hr (takes_of rfl rfl rfl rfl) (da_cons (dv 0) da_nil)) (de_call ((ok_letters_of T).mono (by decide)) hr (takes_of rfl rfl rfl rfl) (da_cons (dv 1) da_nil)) (nomark _)) (dss_one (ds_ret de_bl)) dss_nil)
  (dss_cons (ds_for (t := (.one 3)) (passes_of rfl) rfl (di_range1 T.b_range (da_cons (de_len T.b_len (da_cons (dv 0) da_nil)) da_nil)) (pg_name (i := 3) sc_same_but.nd rfl (.inl rfl)) (dss_one (ds_if (dt_w (dw_and (dt_cmp (op_neA (hu64 hr)) og_ne (de_ix (hu_of hr) (de_ix (hu_of hr) (dv 0) (dv 3)) de_int) (dv 2) (nomark _)) (dw_and1 (dt_cmp (op_neA (hu64 hr)) og_ne (de_ix (hu_of hr) (de_ix (hu_of hr) (dv 0) (dv 3)) de_int) (de_ix (hu_of hr) (de_ix (hu_of hr) (dv 1) (dv 3)) de_int) (nomark _))))) (dss_one (ds_ret de_bl)) dss_nil)))
  (dss_one (ds_ret de_bl))))
theorem ok_check_axes (T : Txt K w mg) : FD P w K mg base 3 "check_axes" 3 m_check_axes := fd_of T.d_check_axes fun a fd F => fn_ok (N := n_check_axes) F sc_check_axes fun cdv A outer s H E hr =>
  (dss_cons (ds_if (dt_cmp (op_inA (hu_of hr)) og_in (dv 0) (de_tup (da_cons de_str (da_cons de_str da_nil))) (by rfl)) (dss_one ds_retN) dss_nil)
  (dss_cons (ds_set (i := 3) sc_check_axes.nd rfl (.inr rfl) (de_call ((ok_letters_of T).mono (by decide)) hr (takes_of rfl rfl rfl rfl) (da_cons (de_ix (hu_of hr) (dv 2) de_int) da_nil)))
  (dss_cons (ds_set (i := 4) sc_check_axes.nd rfl (.inl rfl) de_bl)
  (dss_cons (ds_if (dt_cmp (op_inA (hu_of hr)) og_in (dv 0) (de_glob T.g_WITH_AXIS) (by rfl)) (dss_one (ds_set (i := 4) sc_check_axes.nd rfl (.inl rfl) (de_cmp (op_inA (hu_of hr)) og_in (de_ix (hu_of hr) (dv 1) de_int) (de_listZ rfl T.b_list (da_cons (dv 3) da_nil)) (by rfl)))) dss_nil)
  (dss_cons (ds_if (dt_cmp (op_inA (hu_of hr)) og_in (dv 0) (de_tup (da_cons de_str (da_cons de_str da_nil))) (by rfl)) (dss_one (ds_set (i := 4) sc_check_axes.nd rfl (.inl rfl) (de_and (dv 4) (de_one (de_cmp (op_inA (hu_of hr)) og_in (de_ix (hu_of hr) (dv 1) de_int) (de_listZ rfl T.b_list (da_cons (de_call ((ok_letters_of T).mono (by decide)) hr (takes_of rfl rfl rfl rfl) (da_cons (de_ix (hu_of hr) (dv 2) de_int) da_nil)) da_nil)) (by rfl)))))) dss_nil)
  (dss_cons (ds_if (dt_cmp (op_eqA (hu64 hr)) og_eq (dv 0) de_str (nomark _)) (dss_one (ds_set (i := 4) sc_check_axes.nd rfl (.inl rfl) (de_cmp (op_eqA (hu64 hr)) og_eq (de_sortZ rfl T.b_sorted (da_cons (de_ix (hu_of hr) (dv 1) de_int) da_nil)) (de_sortZ rfl T.b_sorted (da_cons (dv 3) da_nil)) (nomark _)))) (dss_one (ds_if (dt_cmp (op_inA (hu_of hr)) og_in (dv 0) (de_tup (da_cons de_str (da_cons de_str da_nil))) (by rfl)) (dss_one (ds_set (i := 4) sc_check_axes.nd rfl (.inl rfl) (de_and (dv 4) (de_one (de_cmp (op_niA (hu_of hr)) og_ni (de_ix (hu_of hr) (dv 1) de_int) (de_listZ rfl T.b_list (da_cons (dv 3) da_nil)) (by rfl)))))) (dss_one (ds_if (dt_cmp (op_eqA (hu64 hr)) og_eq (dv 0) de_str (nomark _)) (dss_one (ds_set (i := 4) sc_check_axes.nd rfl (.inl rfl) (de_cmp (op_niA (hu_of hr)) og_ni (de_ix (hu_of hr) (dv 1) de_int) (de_listZ rfl T.b_list (da_cons (dv 3) da_nil)) (by rfl)))) (dss_one (ds_if (dt_cmp (op_eqA (hu64 hr)) og_eq (dv 0) de_str (nomark _)) (dss_one (ds_set (i := 4) sc_check_axes.nd rfl (.inl rfl) (de_and (dv 4) (de_and (de_cmp (op_inA (hu_of hr)) og_in (de_ix (hu_of hr) (dv 1) de_int) (de_listZ rfl T.b_list (da_cons (dv 3) da_nil)) (by rfl)) (de_one (de_cmp (op_neA (hu64 hr)) og_ne (de_ix (hu_of hr) (dv 1) de_int) (de_ix (hu_of hr) (dv 1) de_int) (nomark _))))))) (dss_one (ds_if (dt_cmp (op_eqA (hu64 hr)) og_eq (dv 0) de_str (nomark _)) (dss_one (ds_set (i := 4) sc_check_axes.nd rfl (.inl rfl) (de_and (dv 4) (de_one (de_call ((ok_same_but T).mono (by decide)) hr (takes_of rfl rfl rfl rfl) (da_cons (de_ix (hu_of hr) (dv 2) de_int) (da_cons (de_ix (hu_of hr) (dv 2) de_int) (da_cons (de_ix (hu_of hr) (dv 1) de_int) da_nil)))))))) (dss_one (ds_if (dt_cmp (op_eqA (hu64 hr)) og_eq (dv 0) de_str (nomark _)) (dss_one (ds_set (i := 4) sc_check_axes.nd rfl (.inl rfl) (de_and (dv 4) (de_one (de_not (de_any rfl T.b_any (da_cons (de_lc2 (own := [("letter", 5)]) rfl sc_check_axes.nd (di2_seq (de_call ((ok_letters_of T).mono (by decide)) hr (takes_of rfl rfl rfl rfl) (da_cons (de_ix (hu_of hr) (dv 2) de_int) da_nil))) (blkOk_by (N := n_check_axes) (sc := defScope s_check_axes) (by decide +kernel)) (fun _ _ _ _ _ => (pg_name (i := 5) sc_check_axes.nd rfl (.inl rfl))) (fun _ _ _ _ _ => dts_nil) (fun _ _ _ _ _ => (de_cmp (op_inA (hu_of hr)) og_in (dv 5) (de_listZ rfl T.b_list (da_cons (dv 3) da_nil)) (by rfl)))) da_nil))))))) dss_nil)))))))))))
  (dss_one (ds_if (dt_not (dt_tru (dv 4))) (dss_one (ds_raise rfl (takes_of rfl rfl rfl rfl) T.e_AxisError)) dss_nil))))))))
theorem ok_size_on (T : Txt K w mg) : FD P w K mg base 1 "size_on" 2 m_size_on := fd_of T.d_size_on fun a fd F => fn_ok (N := n_size_on) F sc_size_on fun cdv A outer s H E hr =>
  (dss_cons (ds_forV (t := (.one 2)) (i := 0) rfl (.inl rfl) (passes_of rfl) rfl (pg_name (i := 2) sc_size_on.nd rfl (.inl rfl)) (dss_one (ds_if (dt_cmp (op_eqA (hu64 hr)) og_eq (de_ix (hu_of hr) (dv 2) de_int) (dv 1) (nomark _)) (dss_one (ds_ret (de_ix (hu_of hr) (dv 2) de_int))) dss_nil)))
  (dss_one (ds_ret de_int)))
theorem ok_check_extents (T : Txt K w mg) : FD P w K mg base 2 "check_extents" 3 m_check_extents := fd_of T.d_check_extents fun a fd F => fn_ok (N := n_check_extents) F sc_check_extents fun cdv A outer s H E hr =>
  (dss_cons (ds_set (i := 3) sc_check_extents.nd rfl (.inl rfl) de_bl)
  (dss_cons (ds_if (dt_cmp (op_eqA (hu64 hr)) og_eq (dv 0) de_str (nomark _)) (dss_one (ds_set (i := 3) sc_check_extents.nd rfl (.inl rfl) (de_cmp op_le og_intB (de_add (de_ix (hu_of hr) (dv 1) de_int) (de_ix (hu_of hr) (dv 1) de_int)) (de_call ((ok_size_on T).mono (by decide)) hr (takes_of rfl rfl rfl rfl) (da_cons (de_ix (hu_of hr) (dv 2) de_int) (da_cons (de_ix (hu_of hr) (dv 1) de_int) da_nil))) (nomark _)))) (dss_one (ds_if (dt_cmp (op_eqA (hu64 hr)) og_eq (dv 0) de_str (nomark _)) (dss_one (ds_set (i := 3) sc_check_extents.nd rfl (.inl rfl) (de_cmp op_le og_intB (de_ix (hu_of hr) (dv 1) de_int) (de_call ((ok_size_on T).mono (by decide)) hr (takes_of rfl rfl rfl rfl) (da_cons (de_ix (hu_of hr) (dv 2) de_int) (da_cons (de_ix (hu_of hr) (dv 1) de_int) da_nil))) (nomark _)))) (dss_one (ds_if (dt_cmp (op_eqA (hu64 hr)) og_eq (dv 0) de_str (nomark _)) (dss_cons (ds_set (i := 4) sc_check_extents.nd rfl (.inl rfl) (de_call ((ok_size_on T).mono (by decide)) hr (takes_of rfl rfl rfl rfl) (da_cons (de_ix (hu_of hr) (dv 2) de_int) (da_cons (de_ix (hu_of hr) (dv 1) de_int) da_nil))))
  (dss_one (ds_set (i := 3) sc_check_extents.nd rfl (.inl rfl) (de_cmp op_le og_intB (de_add (de_mul (de_ix (hu_of hr) (dv 1) de_int) (de_sub (dv 4) de_int)) (de_call ((ok_size_on T).mono (by decide)) hr (takes_of rfl rfl rfl rfl) (da_cons (de_ix (hu_of hr) (dv 2) de_int) (da_cons (de_ix (hu_of hr) (dv 1) de_int) da_nil)))) (de_ix (hu_of hr) (dv 1) de_int) (nomark _))))) dss_nil)))))
  (dss_one (ds_if (dt_not (dt_tru (dv 3))) (dss_one (ds_raise rfl (takes_of rfl rfl rfl rfl) T.e_RangeError)) dss_nil))))
theorem ok_within (T : Txt K w mg) : FD P w K mg base 1 "within" 3 m_within := fd_of T.d_within fun a fd F => fn_ok (N := n_within) F sc_within fun cdv A outer s H E hr =>
  (dss_cons (ds_forV (t := (.one 3)) (i := 0) rfl (.inl rfl) (passes_of rfl) rfl (pg_name (i := 3) sc_within.nd rfl (.inl rfl)) (dss_one (ds_if (dt_w (dw_or (dt_cmp op_lt og_intB (dv 3) (dv 1) (nomark _)) (dw_or1 (dt_cmp op_gt og_intB (dv 3) (dv 2) (nomark _))))) (dss_one (ds_ret de_bl)) dss_nil)))
  (dss_one (ds_ret de_bl)))
theorem ok_check_fields (T : Txt K w mg) : FD P w K mg base 2 "check_fields" 2 m_check_fields := fd_of T.d_check_fields fun a fd F => fn_ok (N := n_check_fields) F sc_check_fields fun cdv A outer s H E hr =>
  (dss_cons (ds_set (i := 2) sc_check_fields.nd rfl (.inl rfl) (de_call ((ok_fields_in_range T).mono (by decide)) hr (takes_of rfl rfl rfl rfl) (da_cons (dv 0) (da_cons (dv 1) da_nil))))
  (dss_cons (ds_if (dt_cmp (op_eqA (hu64 hr)) og_eq (dv 0) de_str (nomark _)) (dss_one (ds_set (i := 2) sc_check_fields.nd rfl (.inl rfl) (de_cmp op_le og_intB (de_ix (hu_of hr) (dv 1) de_int) (de_ix (hu_of hr) (dv 1) de_int) (nomark _)))) (dss_one (ds_if (dt_cmp (op_eqA (hu64 hr)) og_eq (dv 0) de_str (nomark _)) (dss_one (ds_set (i := 2) sc_check_fields.nd rfl (.inl rfl) (de_call ((ok_within T).mono (by decide)) hr (takes_of rfl rfl rfl rfl) (da_cons (de_slice (dv 1) (do_some de_int) do_none) (da_cons de_int (da_cons de_int da_nil)))))) (dss_one (ds_if (dt_cmp (op_eqA (hu64 hr)) og_eq (dv 0) de_str (nomark _)) (dss_one (ds_set (i := 2) sc_check_fields.nd rfl (.inl rfl) (de_and (de_call ((ok_within T).mono (by decide)) hr (takes_of rfl rfl rfl rfl) (da_cons (de_slice (dv 1) (do_some de_int) (do_some de_int)) (da_cons de_int (da_cons de_int da_nil)))) (de_one (de_call ((ok_within T).mono (by decide)) hr (takes_of rfl rfl rfl rfl) (da_cons (de_slice (dv 1) (do_some de_int) do_none) (da_cons de_int (da_cons de_int da_nil)))))))) (dss_one (ds_if (dt_cmp (op_eqA (hu64 hr)) og_eq (dv 0) de_str (nomark _)) (dss_one (ds_set (i := 2) sc_check_fields.nd rfl (.inl rfl) (de_call ((ok_within T).mono (by decide)) hr (takes_of rfl rfl rfl rfl) (da_cons (de_slice (dv 1) (do_some de_int) do_none) (da_cons de_int (da_cons de_int da_nil)))))) (dss_one (ds_if (dt_w (dw_or (dt_cmp (op_eqA (hu64 hr)) og_eq (dv 0) de_str (nomark _)) (dw_or1 (dt_cmp (op_eqA (hu64 hr)) og_eq (dv 0) de_str (nomark _))))) (dss_one (ds_set (i := 2) sc_check_fields.nd rfl (.inl rfl) (de_call ((ok_within T).mono (by decide)) hr (takes_of rfl rfl rfl rfl) (da_cons (de_slice (dv 1) (do_some de_int) do_none) (da_cons de_int (da_cons de_int da_nil)))))) dss_nil)))))))))
  (dss_one (ds_if (dt_not (dt_tru (dv 2))) (dss_one (ds_raise rfl (takes_of rfl rfl rfl rfl) T.e_RangeError)) dss_nil))))
theorem ok_count_of (T : Txt K w mg) : FD P w K mg base 1 "count_of" 1 m_count_of := fd_of T.d_count_of fun a fd F => fn_ok (N := n_count_of) F sc_count_of fun cdv A outer s H E hr =>
  (dss_cons (ds_set (i := 1) sc_count_of.nd rfl (.inl rfl) de_int)
  (dss_cons (ds_forV (t := (.one 2)) (i := 0) rfl (.inl rfl) (passes_of rfl) rfl (pg_name (i := 2) sc_count_of.nd rfl (.inl rfl)) (dss_one (ds_set (i := 1) sc_count_of.nd rfl (.inl rfl) (de_mul (dv 1) (de_ix (hu_of hr) (dv 2) de_int)))))
  (dss_one (ds_retV (i := 1) rfl (.inl rfl)))))
theorem ok_check_form (T : Txt K w mg) : FD P w K mg base 2 "check_form" 2 m_check_form := fd_of T.d_check_form fun a fd F => fn_ok (N := n_check_form) F sc_check_form fun cdv A outer s H E hr =>
  (dss_cons (ds_unpT rfl (pgs_cons (pg_name (i := 2) sc_check_form.nd rfl (.inl rfl)) (pgs_cons (pg_name (i := 3) sc_check_form.nd rfl (.inl rfl)) (pgs_cons (pg_name (i := 4) sc_check_form.nd rfl (.inl rfl)) pgs_nil))) (dv 0) rfl)
  (dss_cons (ds_if (dt_niT T.k_ARGS (dv 2)) (dss_one (ds_raise rfl (takes_of rfl rfl rfl rfl) T.e_KindError)) dss_nil)
  (dss_cons (ds_if (dt_w (dw_or (dt_cmp (op_neA (hu64 hr)) og_ne (de_len T.b_len (da_cons (dv 3) da_nil)) (de_itT T.k_ARGS (dv 2)) (nomark _)) (dw_or1 (dt_cmp (op_neA (hu64 hr)) og_ne (de_len T.b_len (da_cons (dv 4) da_nil)) (de_itT T.k_FIELDS (dv 2)) (nomark _))))) (dss_one (ds_raise rfl (takes_of rfl rfl rfl rfl) T.e_FormError)) dss_nil)
  (dss_cons (ds_if (dt_w (dw_and (dt_cmp (op_eqA (hu64 hr)) og_eq (dv 2) de_str (nomark _)) (dw_and1 (dt_cmp (op_neA (hu64 hr)) og_ne (de_len T.b_len (da_cons (de_ix (hu_of hr) (dv 4) de_int) da_nil)) (de_call ((ok_count_of T).mono (by decide)) hr (takes_of rfl rfl rfl rfl) (da_cons (de_ix (hu_of hr) (dv 4) de_int) da_nil)) (nomark _))))) (dss_one (ds_raise rfl (takes_of rfl rfl rfl rfl) T.e_FormError)) dss_nil)
  (dss_one (ds_forV (t := (.one 5)) (i := 3) rfl (.inl rfl) (passes_of rfl) rfl (pg_name (i := 5) sc_check_form.nd rfl (.inl rfl)) (dss_one (ds_if (dt_w (dw_or (dt_cmp op_lt og_intB (dv 5) de_int (nomark _)) (dw_or1 (dt_cmp op_ge og_intB (dv 5) (de_len T.b_len (da_cons (dv 1) da_nil)) (nomark _))))) (dss_one (ds_raise rfl (takes_of rfl rfl rfl rfl) T.e_FormError)) dss_nil))))))))
theorem ok_check_letters (T : Txt K w mg) : FD P w K mg base 2 "check_letters" 1 m_check_letters := fd_of T.d_check_letters fun a fd F => fn_ok (N := n_check_letters) F sc_check_letters fun cdv A outer s H E hr =>
  (dss_cons (ds_set (i := 1) sc_check_letters.nd rfl (.inl rfl) (de_call ((ok_letters_of T).mono (by decide)) hr (takes_of rfl rfl rfl rfl) (da_cons (dv 0) da_nil)))
  (dss_one (ds_for (t := (.one 2)) (passes_of rfl) rfl (di_range1 T.b_range (da_cons (de_len T.b_len (da_cons (dv 1) da_nil)) da_nil)) (pg_name (i := 2) sc_check_letters.nd rfl (.inl rfl)) (dss_one (ds_if (dt_cmp (op_inA (hu_of hr)) og_in (de_ix (hu_of hr) (dv 1) (dv 2)) (de_slice (dv 1) do_none (do_some (dv 2))) (by rfl)) (dss_one (ds_raise rfl (takes_of rfl rfl rfl rfl) T.e_AxisError)) dss_nil)))))
theorem ok_check_shape (T : Txt K w mg) : FD P w K mg base 3 "check_shape" 1 m_check_shape := fd_of T.d_check_shape fun a fd F => fn_ok (N := n_check_shape) F sc_check_shape fun cdv A outer s H E hr =>
  (dss_cons (ds_if (dt_cmp op_gt og_intB (de_len T.b_len (da_cons (dv 0) da_nil)) (de_glob T.g_RANK_LIMIT) (nomark _)) (dss_one (ds_raise rfl (takes_of rfl rfl rfl rfl) T.e_RankError)) dss_nil)
  (dss_cons (ds_expr (de_call ((ok_check_letters T).mono (by decide)) hr (takes_of rfl rfl rfl rfl) (da_cons (dv 0) da_nil)))
  (dss_cons (ds_forV (t := (.one 1)) (i := 0) rfl (.inl rfl) (passes_of rfl) rfl (pg_name (i := 1) sc_check_shape.nd rfl (.inl rfl)) (dss_one (ds_if (dt_w (dw_or (dt_cmp op_lt og_intB (de_ix (hu_of hr) (dv 1) de_int) de_int (nomark _)) (dw_or1 (dt_cmp op_gt og_intB (de_ix (hu_of hr) (dv 1) de_int) (de_glob T.g_SIZE_LIMIT) (nomark _))))) (dss_one (ds_raise rfl (takes_of rfl rfl rfl rfl) T.e_RangeError)) dss_nil)))
  (dss_one (ds_if (dt_cmp op_gt og_intB (de_call ((ok_count_of T).mono (by decide)) hr (takes_of rfl rfl rfl rfl) (da_cons (dv 0) da_nil)) (de_glob T.g_COUNT_LIMIT) (nomark _)) (dss_one (ds_raise rfl (takes_of rfl rfl rfl rfl) T.e_TooLarge)) dss_nil)))))
theorem ok_corners (T : Txt K w mg) : FD P w K mg base 1 "corners" 2 m_corners := fd_of T.d_corners fun a fd F => fn_ok (N := n_corners) F sc_corners fun cdv A outer s H E hr =>
  (dss_cons (ds_set (i := 2) sc_corners.nd rfl (.inl rfl) (de_lst (da_cons (de_mul (de_ix (hu_of hr) (dv 0) de_int) (de_ix (hu_of hr) (dv 1) de_int)) (da_cons (de_mul (de_ix (hu_of hr) (dv 0) de_int) (de_ix (hu_of hr) (dv 1) de_int)) (da_cons (de_mul (de_ix (hu_of hr) (dv 0) de_int) (de_ix (hu_of hr) (dv 1) de_int)) (da_cons (de_mul (de_ix (hu_of hr) (dv 0) de_int) (de_ix (hu_of hr) (dv 1) de_int)) da_nil))))))
  (dss_one (ds_ret (de_tup (da_cons (de_minA (hu64 hr) rfl T.b_min (da_cons (dv 2) da_nil)) (da_cons (de_maxA (hu64 hr) rfl T.b_max (da_cons (dv 2) da_nil)) da_nil))))))
theorem ok_other_span (T : Txt K w mg) : FD P w K mg base 2 "other_span" 4 m_other_span := fd_of T.d_other_span fun a fd F => fn_ok (N := n_other_span) F sc_other_span fun cdv A outer s H E hr =>
  (dss_cons (ds_if (dt_cmp (op_eqA (hu64 hr)) og_eq (dv 0) de_str (nomark _)) (dss_one (ds_ret (de_tup (da_cons (de_ix (hu_of hr) (dv 1) de_int) (da_cons (de_ix (hu_of hr) (dv 1) de_int) da_nil))))) dss_nil)
  (dss_cons (ds_if (dt_cmp (op_eqA (hu64 hr)) og_eq (dv 0) de_str (nomark _)) (dss_one (ds_ret (de_tup (da_cons (de_minA (hu64 hr) rfl T.b_min (da_cons (de_ix (hu_of hr) (dv 1) de_int) da_nil)) (da_cons (de_maxA (hu64 hr) rfl T.b_max (da_cons (de_ix (hu_of hr) (dv 1) de_int) da_nil)) da_nil))))) dss_nil)
  (dss_cons (ds_unpT rfl (pgs_cons (pg_name (i := 4) sc_other_span.nd rfl (.inl rfl)) (pgs_cons (pg_name (i := 5) sc_other_span.nd rfl (.inl rfl)) pgs_nil)) (de_ix (hu_of hr) (dv 3) de_int) rfl)
  (dss_cons (ds_if (dt_cmp (op_eqA (hu64 hr)) og_eq (dv 0) de_str (nomark _)) (dss_one (ds_ret (de_tup (da_cons (de_mul (de_call ((ok_size_on T).mono (by decide)) hr (takes_of rfl rfl rfl rfl) (da_cons (de_ix (hu_of hr) (dv 2) de_int) (da_cons (de_ix (hu_of hr) (dv 1) de_int) da_nil))) (dv 4)) (da_cons (de_mul (de_call ((ok_size_on T).mono (by decide)) hr (takes_of rfl rfl rfl rfl) (da_cons (de_ix (hu_of hr) (dv 2) de_int) (da_cons (de_ix (hu_of hr) (dv 1) de_int) da_nil))) (dv 5)) da_nil))))) dss_nil)
  (dss_cons (ds_if (dt_cmp (op_eqA (hu64 hr)) og_eq (dv 0) de_str (nomark _)) (dss_cons (ds_set (i := 6) sc_other_span.nd rfl (.inl rfl) (de_call ((ok_size_on T).mono (by decide)) hr (takes_of rfl rfl rfl rfl) (da_cons (de_ix (hu_of hr) (dv 2) de_int) (da_cons (de_ix (hu_of hr) (dv 1) de_int) da_nil))))
  (dss_cons (ds_unpT rfl (pgs_cons (pg_name (i := 7) sc_other_span.nd rfl (.inl rfl)) (pgs_cons (pg_name (i := 8) sc_other_span.nd rfl (.inl rfl)) pgs_nil)) (de_call ((ok_corners T).mono (by decide)) hr (takes_of rfl rfl rfl rfl) (da_cons (de_ix (hu_of hr) (dv 3) de_int) (da_cons (de_ix (hu_of hr) (dv 3) de_int) da_nil))) rfl)
  (dss_one (ds_ret (de_tup (da_cons (de_mul (dv 6) (dv 7)) (da_cons (de_mul (dv 6) (dv 8)) da_nil))))))) dss_nil)
  (dss_cons (ds_if (dt_cmp (op_eqA (hu64 hr)) og_eq (dv 0) de_str (nomark _)) (dss_one (ds_ret (de_tup (da_cons (de_minA (hu64 hr) rfl T.b_min (da_cons (dv 4) (da_cons de_int da_nil))) (da_cons (de_maxA (hu64 hr) rfl T.b_max (da_cons (dv 5) (da_cons de_int da_nil))) da_nil))))) dss_nil)
  (dss_cons (ds_if (dt_cmp (op_eqA (hu64 hr)) og_eq (dv 0) de_str (nomark _)) (dss_one (ds_ret (de_tup (da_cons (de_minA (hu64 hr) rfl T.b_min (da_cons (dv 4) (da_cons (de_ix (hu_of hr) (de_ix (hu_of hr) (dv 3) de_int) de_int) da_nil))) (da_cons (de_maxA (hu64 hr) rfl T.b_max (da_cons (dv 5) (da_cons (de_ix (hu_of hr) (de_ix (hu_of hr) (dv 3) de_int) de_int) da_nil))) da_nil))))) dss_nil)
  (dss_cons (ds_if (dt_cmp (op_eqA (hu64 hr)) og_eq (dv 0) de_str (nomark _)) (dss_cons (ds_set (i := 6) sc_other_span.nd rfl (.inl rfl) (de_call ((ok_size_on T).mono (by decide)) hr (takes_of rfl rfl rfl rfl) (da_cons (de_ix (hu_of hr) (dv 2) de_int) (da_cons (de_ix (hu_of hr) (dv 1) de_int) da_nil))))
  (dss_one (ds_ret (de_tup (da_cons (de_minA (hu64 hr) rfl T.b_min (da_cons (de_mul (dv 6) (dv 4)) (da_cons de_int da_nil))) (da_cons (de_maxA (hu64 hr) rfl T.b_max (da_cons (de_mul (dv 6) (dv 5)) (da_cons de_int da_nil))) da_nil)))))) dss_nil)
  (dss_one (ds_ret (de_tup (da_cons (dv 4) (da_cons (dv 5) da_nil)))))))))))))
theorem ok_limit (T : Txt K w mg) : FD P w K mg base 1 "limit" 3 m_limit := fd_of T.d_limit fun a fd F => fn_ok (N := n_limit) F sc_limit fun cdv A outer s H E hr =>
  (dss_cons (ds_if (dt_cmp op_lt og_intB (dv 0) (dv 1) (nomark _)) (dss_one (ds_retV (i := 1) rfl (.inl rfl))) dss_nil)
  (dss_cons (ds_if (dt_cmp op_gt og_intB (dv 0) (dv 2) (nomark _)) (dss_one (ds_retV (i := 2) rfl (.inl rfl))) dss_nil)
  (dss_one (ds_retV (i := 0) rfl (.inl rfl)))))
theorem ok_round_off (T : Txt K w mg) : FD P w K mg base 1 "round_off" 2 m_round_off := fd_of T.d_round_off fun a fd F => fn_ok (N := n_round_off) F sc_round_off fun cdv A outer s H E hr =>
  (dss_one (ds_ret (de_shr (de_add (dv 0) (de_shl de_int (de_sub (dv 1) de_int))) (dv 1))))
theorem ok_pointwise_span (T : Txt K w mg) : FD P w K mg base 2 "pointwise_span" 3 m_pointwise_span := fd_of T.d_pointwise_span fun a fd F => fn_ok (N := n_pointwise_span) F sc_pointwise_span fun cdv A outer s H E hr =>
  (dss_cons (ds_unpT rfl (pgs_cons (pg_name (i := 3) sc_pointwise_span.nd rfl (.inl rfl)) (pgs_cons (pg_name (i := 4) sc_pointwise_span.nd rfl (.inl rfl)) pgs_nil)) (de_ix (hu_of hr) (dv 2) de_int) rfl)
  (dss_cons (ds_if (dt_cmp (op_eqA (hu64 hr)) og_eq (dv 0) de_str (nomark _)) (dss_one (ds_ret (de_tup (da_cons (de_neg (dv 4)) (da_cons (de_neg (dv 3)) da_nil))))) dss_nil)
  (dss_cons (ds_if (dt_cmp (op_eqA (hu64 hr)) og_eq (dv 0) de_str (nomark _)) (dss_one (ds_ret (de_tup (da_cons (de_call ((ok_limit T).mono (by decide)) hr (takes_of rfl rfl rfl rfl) (da_cons (dv 3) (da_cons (de_ix (hu_of hr) (dv 1) de_int) (da_cons (de_ix (hu_of hr) (dv 1) de_int) da_nil)))) (da_cons (de_call ((ok_limit T).mono (by decide)) hr (takes_of rfl rfl rfl rfl) (da_cons (dv 4) (da_cons (de_ix (hu_of hr) (dv 1) de_int) (da_cons (de_ix (hu_of hr) (dv 1) de_int) da_nil)))) da_nil))))) dss_nil)
  (dss_cons (ds_if (dt_cmp (op_eqA (hu64 hr)) og_eq (dv 0) de_str (nomark _)) (dss_one (ds_ret (de_tup (da_cons (de_call ((ok_round_off T).mono (by decide)) hr (takes_of rfl rfl rfl rfl) (da_cons (dv 3) (da_cons (de_ix (hu_of hr) (dv 1) de_int) da_nil))) (da_cons (de_call ((ok_round_off T).mono (by decide)) hr (takes_of rfl rfl rfl rfl) (da_cons (dv 4) (da_cons (de_ix (hu_of hr) (dv 1) de_int) da_nil))) da_nil))))) dss_nil)
  (dss_cons (ds_unpT rfl (pgs_cons (pg_name (i := 5) sc_pointwise_span.nd rfl (.inl rfl)) (pgs_cons (pg_name (i := 6) sc_pointwise_span.nd rfl (.inl rfl)) pgs_nil)) (de_ix (hu_of hr) (dv 2) de_int) rfl)
  (dss_cons (ds_if (dt_cmp (op_eqA (hu64 hr)) og_eq (dv 0) de_str (nomark _)) (dss_one (ds_ret (de_tup (da_cons (de_add (dv 3) (dv 5)) (da_cons (de_add (dv 4) (dv 6)) da_nil))))) dss_nil)
  (dss_cons (ds_if (dt_cmp (op_eqA (hu64 hr)) og_eq (dv 0) de_str (nomark _)) (dss_one (ds_ret (de_tup (da_cons (de_sub (dv 3) (dv 6)) (da_cons (de_sub (dv 4) (dv 5)) da_nil))))) dss_nil)
  (dss_cons (ds_if (dt_cmp (op_eqA (hu64 hr)) og_eq (dv 0) de_str (nomark _)) (dss_one (ds_ret (de_call ((ok_corners T).mono (by decide)) hr (takes_of rfl rfl rfl rfl) (da_cons (de_ix (hu_of hr) (dv 2) de_int) (da_cons (de_ix (hu_of hr) (dv 2) de_int) da_nil))))) dss_nil)
  (dss_cons (ds_if (dt_cmp (op_eqA (hu64 hr)) og_eq (dv 0) de_str (nomark _)) (dss_one (ds_ret (de_tup (da_cons (de_maxA (hu64 hr) rfl T.b_max (da_cons (dv 3) (da_cons (dv 5) da_nil))) (da_cons (de_maxA (hu64 hr) rfl T.b_max (da_cons (dv 4) (da_cons (dv 6) da_nil))) da_nil))))) dss_nil)
  (dss_cons (ds_if (dt_cmp (op_eqA (hu64 hr)) og_eq (dv 0) de_str (nomark _)) (dss_one (ds_ret (de_tup (da_cons (de_minA (hu64 hr) rfl T.b_min (da_cons (dv 3) (da_cons (dv 5) da_nil))) (da_cons (de_minA (hu64 hr) rfl T.b_min (da_cons (dv 4) (da_cons (dv 6) da_nil))) da_nil))))) dss_nil)
  (dss_cons (ds_if (dt_cmp (op_eqA (hu64 hr)) og_eq (dv 0) de_str (nomark _)) (dss_one (ds_ret (de_tup (da_cons (de_minA (hu64 hr) rfl T.b_min (da_cons (dv 5) (da_cons (de_ix (hu_of hr) (de_ix (hu_of hr) (dv 2) de_int) de_int) da_nil))) (da_cons (de_maxA (hu64 hr) rfl T.b_max (da_cons (dv 6) (da_cons (de_ix (hu_of hr) (de_ix (hu_of hr) (dv 2) de_int) de_int) da_nil))) da_nil))))) dss_nil)
  (dss_one (ds_ret (de_tup (da_cons de_int (da_cons de_int da_nil))))))))))))))))
theorem ok_spread_together (T : Txt K w mg) : FD P w K mg base 2 "spread_together" 2 m_spread_together := fd_of T.d_spread_together fun a fd F => fn_ok (N := n_spread_together) F sc_spread_together fun cdv A outer s H E hr =>
  (dss_cons (ds_set (i := 2) sc_spread_together.nd rfl (.inl rfl) (de_listZ rfl T.b_list (da_cons (dv 0) da_nil)))
  (dss_cons (ds_forV (t := (.one 3)) (i := 1) rfl (.inl rfl) (passes_of rfl) rfl (pg_name (i := 3) sc_spread_together.nd rfl (.inl rfl)) (dss_cons (ds_set (i := 4) sc_spread_together.nd rfl (.inl rfl) (de_call ((ok_size_on T).mono (by decide)) hr (takes_of rfl rfl rfl rfl) (da_cons (dv 0) (da_cons (de_ix (hu_of hr) (dv 3) de_int) da_nil))))
  (dss_one (ds_if (dt_cmp (op_eqA (hu64 hr)) og_eq (dv 4) de_int (nomark _)) (dss_one (ds_app (i := 2) rfl (.inl rfl) (dv 3))) (dss_one (ds_if (dt_cmp (op_neA (hu64 hr)) og_ne (dv 4) (de_ix (hu_of hr) (dv 3) de_int) (nomark _)) (dss_one (ds_raise rfl (takes_of rfl rfl rfl rfl) T.e_AxisError)) dss_nil))))))
  (dss_one (ds_ret (de_tuple T.b_tuple (da_cons (dv 2) da_nil))))))
theorem ok_broadcast (T : Txt K w mg) : FD P w K mg base 4 "broadcast" 2 m_broadcast := fd_of T.d_broadcast fun a fd F => fn_ok (N := n_broadcast) F sc_broadcast fun cdv A outer s H E hr =>
  (dss_cons (ds_set (i := 2) sc_broadcast.nd rfl (.inl rfl) (de_call ((ok_spread_together T).mono (by decide)) hr (takes_of rfl rfl rfl rfl) (da_cons (dv 0) (da_cons (dv 1) da_nil))))
  (dss_cons (ds_expr (de_call ((ok_check_shape T).mono (by decide)) hr (takes_of rfl rfl rfl rfl) (da_cons (dv 2) da_nil)))
  (dss_one (ds_retV (i := 2) rfl (.inl rfl)))))
theorem ok_in_place_of (T : Txt K w mg) : FD P w K mg base 1 "in_place_of" 3 m_in_place_of := fd_of T.d_in_place_of fun a fd F => fn_ok (N := n_in_place_of) F sc_in_place_of fun cdv A outer s H E hr =>
  (dss_cons (ds_set (i := 3) sc_in_place_of.nd rfl (.inl rfl) (de_lst da_nil))
  (dss_cons (ds_forV (t := (.one 4)) (i := 0) rfl (.inl rfl) (passes_of rfl) rfl (pg_name (i := 4) sc_in_place_of.nd rfl (.inl rfl)) (dss_one (ds_if (dt_cmp (op_eqA (hu64 hr)) og_eq (de_ix (hu_of hr) (dv 4) de_int) (dv 1) (nomark _)) (dss_one (ds_set (i := 3) sc_in_place_of.nd rfl (.inl rfl) (de_add (dv 3) (de_listZ rfl T.b_list (da_cons (dv 2) da_nil))))) (dss_one (ds_app (i := 3) rfl (.inl rfl) (dv 4))))))
  (dss_one (ds_ret (de_tuple T.b_tuple (da_cons (dv 3) da_nil))))))
theorem ok_resized (T : Txt K w mg) : FD P w K mg base 1 "resized" 3 m_resized := fd_of T.d_resized fun a fd F => fn_ok (N := n_resized) F sc_resized fun cdv A outer s H E hr =>
  (dss_one (ds_ret (de_tuple T.b_tuple (da_cons (de_lc2 (own := [("axis", 3)]) rfl sc_resized.nd (di2_seq (dv 0)) (blkOk_by (N := n_resized) (sc := defScope s_resized) (by decide +kernel)) (fun _ _ _ _ _ => (pg_name (i := 3) sc_resized.nd rfl (.inl rfl))) (fun _ _ _ _ _ => dts_nil) (fun _ _ _ _ _ => (de_tup (da_cons (de_ix (hu_of hr) (dv 3) de_int) (da_cons (de_if (dt_cmp (op_eqA (hu64 hr)) og_eq (de_ix (hu_of hr) (dv 3) de_int) (dv 1) (nomark _)) (dv 2) (de_ix (hu_of hr) (dv 3) de_int)) da_nil))))) da_nil))))
theorem ok_without (T : Txt K w mg) : FD P w K mg base 1 "without" 2 m_without := fd_of T.d_without fun a fd F => fn_ok (N := n_without) F sc_without fun cdv A outer s H E hr =>
  (dss_one (ds_ret (de_tuple T.b_tuple (da_cons (de_lc2 (own := [("axis", 2)]) rfl sc_without.nd (di2_seq (dv 0)) (blkOk_by (N := n_without) (sc := defScope s_without) (by decide +kernel)) (fun _ _ _ _ _ => (pg_name (i := 2) sc_without.nd rfl (.inl rfl))) (fun _ _ _ _ _ => (dts_one (dt_cmp (op_neA (hu64 hr)) og_ne (de_ix (hu_of hr) (dv 2) de_int) (dv 1) (nomark _)))) (fun _ _ _ _ _ => (dv 2))) da_nil))))
theorem ok_raw_shape (T : Txt K w mg) : FD P w K mg base 3 "raw_shape" 3 m_raw_shape := fd_of T.d_raw_shape fun a fd F => fn_ok (N := n_raw_shape) F sc_raw_shape fun cdv A outer s H E hr =>
  (dss_cons (ds_set (i := 3) sc_raw_shape.nd rfl (.inr rfl) (de_ix (hu_of hr) (dv 2) de_int))
  (dss_cons (ds_set (i := 4) sc_raw_shape.nd rfl (.inl rfl) (de_if (dt_w (dw_and (dt_cmp (op_neA (hu64 hr)) og_ne (dv 0) de_str (nomark _)) (dw_and1 (dt_cmp (op_neA (hu64 hr)) og_ne (dv 0) de_str (nomark _))))) (de_call ((ok_size_on T).mono (by decide)) hr (takes_of rfl rfl rfl rfl) (da_cons (dv 3) (da_cons (de_ix (hu_of hr) (dv 1) de_int) da_nil))) de_int))
  (dss_cons (ds_if (dt_cmp (op_inA (hu_of hr)) og_in (dv 0) (de_tup (da_cons de_str (da_cons de_str da_nil))) (by rfl)) (dss_one (ds_ret (de_call ((ok_without T).mono (by decide)) hr (takes_of rfl rfl rfl rfl) (da_cons (dv 3) (da_cons (de_ix (hu_of hr) (dv 1) de_int) da_nil))))) dss_nil)
  (dss_cons (ds_if (dt_cmp (op_eqA (hu64 hr)) og_eq (dv 0) de_str (nomark _)) (dss_one (ds_ret (de_call ((ok_without T).mono (by decide)) hr (takes_of rfl rfl rfl rfl) (da_cons (de_call ((ok_spread_together T).mono (by decide)) hr (takes_of rfl rfl rfl rfl) (da_cons (dv 3) (da_cons (de_ix (hu_of hr) (dv 2) de_int) da_nil))) (da_cons (de_ix (hu_of hr) (dv 1) de_int) da_nil))))) dss_nil)
  (dss_cons (ds_if (dt_cmp (op_eqA (hu64 hr)) og_eq (dv 0) de_str (nomark _)) (dss_one (ds_ret (de_tuple T.b_tuple (da_cons (de_lc2 (own := [("letter", 5)]) rfl sc_raw_shape.nd (di2_seq (de_ix (hu_of hr) (dv 1) de_int)) (blkOk_by (N := n_raw_shape) (sc := defScope s_raw_shape) (by decide +kernel)) (fun _ _ _ _ _ => (pg_name (i := 5) sc_raw_shape.nd rfl (.inl rfl))) (fun _ _ _ _ _ => dts_nil) (fun _ _ _ _ _ => (de_tup (da_cons (dv 5) (da_cons (de_call ((ok_size_on T).mono (by decide)) hr tk0 (da_cons (dv 3) (da_cons (dv 5) da_nil))) da_nil))))) da_nil)))) dss_nil)
  (dss_cons (ds_if (dt_cmp (op_eqA (hu64 hr)) og_eq (dv 0) de_str (nomark _)) (dss_one (ds_ret (de_call ((ok_in_place_of T).mono (by decide)) hr (takes_of rfl rfl rfl rfl) (da_cons (dv 3) (da_cons (de_ix (hu_of hr) (dv 1) de_int) (da_cons (de_tup (da_cons (de_tup (da_cons (de_ix (hu_of hr) (dv 1) de_int) (da_cons (dv 4) da_nil))) da_nil)) da_nil)))))) dss_nil)
  (dss_cons (ds_if (dt_cmp (op_eqA (hu64 hr)) og_eq (dv 0) de_str (nomark _)) (dss_one (ds_ret (de_add (dv 3) (de_tup (da_cons (de_tup (da_cons (de_ix (hu_of hr) (dv 1) de_int) (da_cons (de_ix (hu_of hr) (dv 1) de_int) da_nil))) da_nil))))) dss_nil)
  (dss_cons (ds_if (dt_cmp (op_eqA (hu64 hr)) og_eq (dv 0) de_str (nomark _)) (dss_one (ds_ret (de_call ((ok_resized T).mono (by decide)) hr (takes_of rfl rfl rfl rfl) (da_cons (dv 3) (da_cons (de_ix (hu_of hr) (dv 1) de_int) (da_cons (de_ix (hu_of hr) (dv 1) de_int) da_nil)))))) dss_nil)
  (dss_cons (ds_if (dt_cmp (op_eqA (hu64 hr)) og_eq (dv 0) de_str (nomark _)) (dss_one (ds_ret (de_call ((ok_resized T).mono (by decide)) hr (takes_of rfl rfl rfl rfl) (da_cons (dv 3) (da_cons (de_ix (hu_of hr) (dv 1) de_int) (da_cons (de_add (de_add (de_ix (hu_of hr) (dv 1) de_int) (dv 4)) (de_ix (hu_of hr) (dv 1) de_int)) da_nil)))))) dss_nil)
  (dss_cons (ds_if (dt_cmp (op_eqA (hu64 hr)) og_eq (dv 0) de_str (nomark _)) (dss_one (ds_ret (de_call ((ok_resized T).mono (by decide)) hr (takes_of rfl rfl rfl rfl) (da_cons (dv 3) (da_cons (de_ix (hu_of hr) (dv 1) de_int) (da_cons (de_add (dv 4) (de_call ((ok_size_on T).mono (by decide)) hr (takes_of rfl rfl rfl rfl) (da_cons (de_ix (hu_of hr) (dv 2) de_int) (da_cons (de_ix (hu_of hr) (dv 1) de_int) da_nil)))) da_nil)))))) dss_nil)
  (dss_cons (ds_if (dt_cmp (op_eqA (hu64 hr)) og_eq (dv 0) de_str (nomark _)) (dss_one (ds_ret (de_call ((ok_in_place_of T).mono (by decide)) hr (takes_of rfl rfl rfl rfl) (da_cons (dv 3) (da_cons (de_ix (hu_of hr) (dv 1) de_int) (da_cons (de_tup (da_cons (de_tup (da_cons (de_ix (hu_of hr) (dv 1) de_int) (da_cons (de_add (de_div (de_sub (dv 4) (de_ix (hu_of hr) (dv 1) de_int)) (de_ix (hu_of hr) (dv 1) de_int)) de_int) da_nil))) (da_cons (de_tup (da_cons (de_ix (hu_of hr) (dv 1) de_int) (da_cons (de_ix (hu_of hr) (dv 1) de_int) da_nil))) da_nil))) da_nil)))))) dss_nil)
  (dss_cons (ds_if (dt_cmp (op_eqA (hu64 hr)) og_eq (dv 0) de_str (nomark _)) (dss_one (ds_ret (de_call ((ok_resized T).mono (by decide)) hr (takes_of rfl rfl rfl rfl) (da_cons (de_call ((ok_without T).mono (by decide)) hr (takes_of rfl rfl rfl rfl) (da_cons (dv 3) (da_cons (de_ix (hu_of hr) (dv 1) de_int) da_nil))) (da_cons (de_ix (hu_of hr) (dv 1) de_int) (da_cons (de_ix (hu_of hr) (dv 1) de_int) da_nil)))))) dss_nil)
  (dss_one (ds_ret (de_call ((ok_in_place_of T).mono (by decide)) hr (takes_of rfl rfl rfl rfl) (da_cons (dv 3) (da_cons (de_ix (hu_of hr) (dv 1) de_int) (da_cons (de_ix (hu_of hr) (dv 2) de_int) da_nil))))))))))))))))))
theorem ok_shape_of (T : Txt K w mg) : FD P w K mg base 5 "shape_of" 3 m_shape_of := fd_of T.d_shape_of fun a fd F => fn_ok (N := n_shape_of) F sc_shape_of fun cdv A outer s H E hr =>
  (dss_cons (ds_if (dt_cmp (op_inA (hu_of hr)) og_in (dv 0) (de_tup (da_cons de_str (da_cons de_str da_nil))) (by rfl)) (dss_one (ds_ret (de_ix (hu_of hr) (dv 1) de_int))) dss_nil)
  (dss_cons (ds_if (dt_cmp (op_inA (hu_of hr)) og_in (dv 0) (de_glob T.g_BROADCAST) (by rfl)) (dss_cons (ds_set (i := 3) sc_shape_of.nd rfl (.inl rfl) (de_ix (hu_of hr) (dv 2) de_int))
  (dss_cons (ds_for (t := (.one 4)) (passes_of rfl) rfl (di_seq (de_slice (dv 2) (do_some de_int) do_none)) (pg_name (i := 4) sc_shape_of.nd rfl (.inl rfl)) (dss_one (ds_set (i := 3) sc_shape_of.nd rfl (.inl rfl) (de_call ((ok_broadcast T).mono (by decide)) hr (takes_of rfl rfl rfl rfl) (da_cons (dv 3) (da_cons (dv 4) da_nil))))))
  (dss_one (ds_retV (i := 3) rfl (.inl rfl))))) dss_nil)
  (dss_cons (ds_if (dt_cmp (op_inA (hu_of hr)) og_in (dv 0) (de_tup (da_cons de_str (da_cons de_str (da_cons de_str da_nil)))) (by rfl)) (dss_one (ds_ret (de_ix (hu_of hr) (dv 2) de_int))) dss_nil)
  (dss_cons (ds_set (i := 3) sc_shape_of.nd rfl (.inl rfl) (de_call ((ok_raw_shape T).mono (by decide)) hr (takes_of rfl rfl rfl rfl) (da_cons (dv 0) (da_cons (dv 1) (da_cons (dv 2) da_nil)))))
  (dss_cons (ds_expr (de_call ((ok_check_shape T).mono (by decide)) hr (takes_of rfl rfl rfl rfl) (da_cons (dv 3) da_nil)))
  (dss_one (ds_retV (i := 3) rfl (.inl rfl))))))))
theorem ok_domain_of (T : Txt K w mg) : FD P w K mg base 6 "domain_of" 2 m_domain_of := fd_of T.d_domain_of fun a fd F => fn_ok (N := n_domain_of) F sc_domain_of fun cdv A outer s H E hr =>
  (dss_cons (ds_expr (de_call ((ok_check_form T).mono (by decide)) hr (takes_of rfl rfl rfl rfl) (da_cons (dv 0) (da_cons (dv 1) da_nil))))
  (dss_cons (ds_unpT rfl (pgs_cons (pg_name (i := 2) sc_domain_of.nd rfl (.inl rfl)) (pgs_cons (pg_name (i := 3) sc_domain_of.nd rfl (.inl rfl)) (pgs_cons (pg_name (i := 4) sc_domain_of.nd rfl (.inl rfl)) pgs_nil))) (dv 0) rfl)
  (dss_cons (ds_expr (de_call ((ok_check_fields T).mono (by decide)) hr (takes_of rfl rfl rfl rfl) (da_cons (dv 2) (da_cons (dv 4) da_nil))))
  (dss_cons (ds_if (dt_cmp (op_inA (hu_of hr)) og_in (dv 2) (de_tup (da_cons de_str (da_cons de_str da_nil))) (by rfl)) (dss_one (ds_expr (de_call ((ok_check_shape T).mono (by decide)) hr (takes_of rfl rfl rfl rfl) (da_cons (de_ix (hu_of hr) (dv 4) de_int) da_nil)))) dss_nil)
  (dss_cons (ds_setLc2 (own := [("arg", 10)]) (i := 5) rfl sc_domain_of.nd rfl rfl rfl (di2_seq (dv 3)) (blkOk_by (N := n_domain_of) (sc := defScope s_domain_of) (by decide +kernel)) (fun _ _ _ _ _ => (pg_name (i := 10) sc_domain_of.nd rfl (.inl rfl))) (fun _ _ _ _ _ => dts_nil) (fun _ _ _ _ _ => (de_ix (hu_of hr) (de_ix (hu_of hr) (dv 1) (dv 10)) de_int)))
  (dss_cons (ds_setLc2 (own := [("arg", 10)]) (i := 6) rfl sc_domain_of.nd rfl rfl rfl (di2_seq (dv 3)) (blkOk_by (N := n_domain_of) (sc := defScope s_domain_of) (by decide +kernel)) (fun _ _ _ _ _ => (pg_name (i := 10) sc_domain_of.nd rfl (.inl rfl))) (fun _ _ _ _ _ => dts_nil) (fun _ _ _ _ _ => (de_tup (da_cons (de_ix (hu_of hr) (de_ix (hu_of hr) (dv 1) (dv 10)) de_int) (da_cons (de_ix (hu_of hr) (de_ix (hu_of hr) (dv 1) (dv 10)) de_int) da_nil)))))
  (dss_cons (ds_expr (de_call ((ok_check_axes T).mono (by decide)) hr (takes_of rfl rfl rfl rfl) (da_cons (dv 2) (da_cons (dv 4) (da_cons (dv 5) da_nil)))))
  (dss_cons (ds_expr (de_call ((ok_check_extents T).mono (by decide)) hr (takes_of rfl rfl rfl rfl) (da_cons (dv 2) (da_cons (dv 4) (da_cons (dv 5) da_nil)))))
  (dss_cons (ds_set (i := 7) sc_domain_of.nd rfl (.inl rfl) (de_call ((ok_shape_of T).mono (by decide)) hr (takes_of rfl rfl rfl rfl) (da_cons (dv 2) (da_cons (dv 4) (da_cons (dv 5) da_nil)))))
  (dss_cons (ds_if (dt_w (dw_or (dt_cmp (op_inA (hu_of hr)) og_in (dv 2) (de_glob T.g_BROADCAST) (by rfl)) (dw_or1 (dt_cmp (op_inA (hu_of hr)) og_in (dv 2) (de_tup (da_cons de_str (da_cons de_str (da_cons de_str da_nil)))) (by rfl))))) (dss_one (ds_unpT rfl (pgs_cons (pg_name (i := 8) sc_domain_of.nd rfl (.inl rfl)) (pgs_cons (pg_name (i := 9) sc_domain_of.nd rfl (.inl rfl)) pgs_nil)) (de_call ((ok_pointwise_span T).mono (by decide)) hr (takes_of rfl rfl rfl rfl) (da_cons (dv 2) (da_cons (dv 4) (da_cons (dv 6) da_nil)))) rfl)) (dss_one (ds_unpT rfl (pgs_cons (pg_name (i := 8) sc_domain_of.nd rfl (.inl rfl)) (pgs_cons (pg_name (i := 9) sc_domain_of.nd rfl (.inl rfl)) pgs_nil)) (de_call ((ok_other_span T).mono (by decide)) hr (takes_of rfl rfl rfl rfl) (da_cons (dv 2) (da_cons (dv 4) (da_cons (dv 5) (da_cons (dv 6) da_nil))))) rfl)))
  (dss_cons (ds_if (dt_w (dw_or (dt_cmp op_lt og_intB (dv 8) (de_neg (de_glob T.g_WIDEST)) (nomark _)) (dw_or1 (dt_cmp op_gt og_intB (dv 9) (de_glob T.g_WIDEST) (nomark _))))) (dss_one (ds_raise rfl (takes_of rfl rfl rfl rfl) T.e_TooWide)) dss_nil)
  (dss_one (ds_ret (de_tup (da_cons (dv 7) (da_cons (dv 8) (da_cons (dv 9) da_nil)))))))))))))))))
theorem ok_node_work (T : Txt K w mg) : FD P w K mg base 2 "node_work" 3 m_node_work := fd_of T.d_node_work fun a fd F => fn_ok (N := n_node_work) F sc_node_work fun cdv A outer s H E hr =>
  (dss_cons (ds_unpT rfl (pgs_cons (pg_name (i := 3) sc_node_work.nd rfl (.inl rfl)) (pgs_cons (pg_name (i := 4) sc_node_work.nd rfl (.inl rfl)) (pgs_cons (pg_name (i := 5) sc_node_work.nd rfl (.inl rfl)) pgs_nil))) (dv 0) rfl)
  (dss_cons (ds_if (dt_cmp (op_inA (hu_of hr)) og_in (dv 3) (de_tup (da_cons de_str (da_cons de_str da_nil))) (by rfl)) (dss_one (ds_ret de_int)) dss_nil)
  (dss_cons (ds_if (dt_cmp (op_inA (hu_of hr)) og_in (dv 3) (de_tup (da_cons de_str (da_cons de_str (da_cons de_str da_nil)))) (by rfl)) (dss_one (ds_ret (de_call ((ok_count_of T).mono (by decide)) hr (takes_of rfl rfl rfl rfl) (da_cons (de_ix (hu_of hr) (de_ix (hu_of hr) (dv 1) (de_ix (hu_of hr) (dv 4) de_int)) de_int) da_nil)))) dss_nil)
  (dss_cons (ds_if (dt_cmp (op_eqA (hu64 hr)) og_eq (dv 3) de_str (nomark _)) (dss_one (ds_ret (de_mul (de_call ((ok_count_of T).mono (by decide)) hr (takes_of rfl rfl rfl rfl) (da_cons (dv 2) da_nil)) (de_call ((ok_size_on T).mono (by decide)) hr (takes_of rfl rfl rfl rfl) (da_cons (de_ix (hu_of hr) (de_ix (hu_of hr) (dv 1) (de_ix (hu_of hr) (dv 4) de_int)) de_int) (da_cons (de_ix (hu_of hr) (dv 5) de_int) da_nil)))))) dss_nil)
  (dss_one (ds_ret (de_call ((ok_count_of T).mono (by decide)) hr (takes_of rfl rfl rfl rfl) (da_cons (dv 2) da_nil))))))))
theorem ok_total_work (T : Txt K w mg) : FD P w K mg base 3 "total_work" 2 m_total_work := fd_of T.d_total_work fun a fd F => fn_ok (N := n_total_work) F sc_total_work fun cdv A outer s H E hr =>
  (dss_cons (ds_set (i := 2) sc_total_work.nd rfl (.inl rfl) de_int)
  (dss_cons (ds_for (t := (.one 3)) (passes_of rfl) rfl (di_range1 T.b_range (da_cons (de_len T.b_len (da_cons (dv 0) da_nil)) da_nil)) (pg_name (i := 3) sc_total_work.nd rfl (.inl rfl)) (dss_one (ds_set (i := 2) sc_total_work.nd rfl (.inl rfl) (de_add (dv 2) (de_call ((ok_node_work T).mono (by decide)) hr (takes_of rfl rfl rfl rfl) (da_cons (de_ix (hu_of hr) (dv 0) (dv 3)) (da_cons (dv 1) (da_cons (de_ix (hu_of hr) (de_ix (hu_of hr) (dv 1) (dv 3)) de_int) da_nil))))))))
  (dss_one (ds_retV (i := 2) rfl (.inl rfl)))))
theorem ok_check_graph (T : Txt K w mg) : FD P w K mg base 7 "check_graph" 1 m_check_graph := fd_of T.d_check_graph fun a fd F => fn_ok (N := n_check_graph) F sc_check_graph fun cdv A outer s H E hr =>
  (dss_cons (ds_unpT rfl (pgs_cons (pg_name (i := 1) sc_check_graph.nd rfl (.inl rfl)) (pgs_cons (pg_name (i := 2) sc_check_graph.nd rfl (.inl rfl)) pgs_nil)) (dv 0) rfl)
  (dss_cons (ds_if (dt_cmp op_gt og_intB (de_len T.b_len (da_cons (dv 1) da_nil)) (de_glob T.g_NODE_LIMIT) (nomark _)) (dss_one (ds_raise rfl (takes_of rfl rfl rfl rfl) T.e_TooLarge)) dss_nil)
  (dss_cons (ds_set (i := 3) sc_check_graph.nd rfl (.inl rfl) (de_lst da_nil))
  (dss_cons (ds_forV (t := (.one 4)) (i := 1) rfl (.inl rfl) (passes_of rfl) rfl (pg_name (i := 4) sc_check_graph.nd rfl (.inl rfl)) (dss_one (ds_app (i := 3) rfl (.inl rfl) (de_call ((ok_domain_of T).mono (by decide)) hr (takes_of rfl rfl rfl rfl) (da_cons (dv 4) (da_cons (de_tuple T.b_tuple (da_cons (dv 3) da_nil)) da_nil))))))
  (dss_cons (ds_if (dt_cmp (op_eqA (hu64 hr)) og_eq (de_len T.b_len (da_cons (dv 2) da_nil)) de_int (nomark _)) (dss_one (ds_raise rfl (takes_of rfl rfl rfl rfl) T.e_FormError)) dss_nil)
  (dss_cons (ds_forV (t := (.one 5)) (i := 2) rfl (.inl rfl) (passes_of rfl) rfl (pg_name (i := 5) sc_check_graph.nd rfl (.inl rfl)) (dss_one (ds_if (dt_w (dw_or (dt_cmp op_lt og_intB (dv 5) de_int (nomark _)) (dw_or1 (dt_cmp op_ge og_intB (dv 5) (de_len T.b_len (da_cons (dv 1) da_nil)) (nomark _))))) (dss_one (ds_raise rfl (takes_of rfl rfl rfl rfl) T.e_FormError)) dss_nil)))
  (dss_cons (ds_if (dt_cmp op_gt og_intB (de_call ((ok_total_work T).mono (by decide)) hr (takes_of rfl rfl rfl rfl) (da_cons (dv 1) (da_cons (dv 3) da_nil))) (de_glob T.g_WORK_LIMIT) (nomark _)) (dss_one (ds_raise rfl (takes_of rfl rfl rfl rfl) T.e_TooLarge)) dss_nil)
  (dss_one (ds_ret (de_tuple T.b_tuple (da_cons (dv 3) da_nil)))))))))))
theorem ok_letter_in (T : Txt K w mg) : FD P w K mg base 1 "letter_in" 1 m_letter_in := fd_of T.d_letter_in fun a fd F => fn_ok (N := n_letter_in) F sc_letter_in fun cdv A outer s H E hr =>
  (dss_cons (ds_if (dt_w (dw_or (dt_cmp (op_neA (hu64 hr)) og_ne (de_len T.b_len (da_cons (dv 0) da_nil)) de_int (nomark _)) (dw_or1 (dt_cmp (op_niA (hu_of hr)) og_ni (dv 0) (de_glob T.g_LETTERS) (by rfl))))) (dss_one (ds_raise rfl (takes_of rfl rfl rfl rfl) T.e_TextError)) dss_nil)
  (dss_one (ds_retV (i := 0) rfl (.inl rfl))))
theorem ok_letters_in (T : Txt K w mg) : FD P w K mg base 2 "letters_in" 1 m_letters_in := fd_of T.d_letters_in fun a fd F => fn_ok (N := n_letters_in) F sc_letters_in fun cdv A outer s H E hr =>
  (dss_cons (ds_if (dt_cmp (op_eqA (hu64 hr)) og_eq (dv 0) de_str (nomark _)) (dss_one (ds_ret de_str)) dss_nil)
  (dss_cons (ds_if (dt_cmp (op_eqA (hu64 hr)) og_eq (dv 0) de_str (nomark _)) (dss_one (ds_raise rfl (takes_of rfl rfl rfl rfl) T.e_TextError)) dss_nil)
  (dss_cons (ds_forV (t := (.one 1)) (i := 0) rfl (.inl rfl) (passes_of rfl) rfl (pg_name (i := 1) sc_letters_in.nd rfl (.inl rfl)) (dss_one (ds_expr (de_call ((ok_letter_in T).mono (by decide)) hr (takes_of rfl rfl rfl rfl) (da_cons (dv 1) da_nil)))))
  (dss_one (ds_retV (i := 0) rfl (.inl rfl))))))
theorem ok_number_in_notation (T : Txt K w mg) : FD P w K mg base 2 "number_in_notation" 1 m_number_in_notation := fd_ofA T.d_number_in_notation fun a fd F => fn_ok (N := n_number_in_notation) F sc_number_in_notation fun cdv A outer s H E hr =>
  (dss_cons (ds_set (i := 1) sc_number_in_notation.nd rfl (.inl rfl) (de_call ((ok_read_integer T).mono (by decide)) hr (takes_of rfl rfl rfl rfl) (da_cons (dv 0) (da_cons (de_glob T.g_FIGURE_LIMIT_notation) da_nil))))
  (dss_cons (ds_if (dt_cmp op_isN og_isN (dv 1) de_non (nomark _)) (dss_one (ds_raise rfl (takes_of rfl rfl rfl rfl) T.e_TextError)) dss_nil)
  (dss_one (ds_retV (i := 1) rfl (.inl rfl)))))
theorem ok_read_natural (T : Txt K w mg) : FD P w K mg base 2 "read_natural" 2 m_read_natural := fd_of T.d_read_natural fun a fd F => fn_ok (N := n_read_natural) F sc_read_natural fun cdv A outer s H E hr =>
  (dss_cons (ds_if (dt_cmp (op_eqA (hu64 hr)) og_eq (de_slice (dv 0) do_none (do_some de_int)) de_str (nomark _)) (dss_one (ds_ret de_non)) dss_nil)
  (dss_one (ds_ret (de_call ((ok_read_integer T).mono (by decide)) hr (takes_of rfl rfl rfl rfl) (da_cons (dv 0) (da_cons (dv 1) da_nil))))))
theorem ok_shape_in (T : Txt K w mg) : FD P w K mg base 3 "shape_in" 1 m_shape_in := fd_of T.d_shape_in fun a fd F => fn_ok (N := n_shape_in) F sc_shape_in fun cdv A outer s H E hr =>
  (dss_cons (ds_if (dt_cmp (op_eqA (hu64 hr)) og_eq (dv 0) de_str (nomark _)) (dss_one (ds_ret (de_tup da_nil))) dss_nil)
  (dss_cons (ds_set (i := 1) sc_shape_in.nd rfl (.inl rfl) (de_lst da_nil))
  (dss_cons (ds_set (i := 2) sc_shape_in.nd rfl (.inl rfl) de_int)
  (dss_cons (ds_while (fuel := (fun _ => 60)) (passes_of rfl) (dt_cmp op_lt og_intB (dv 2) (de_len T.b_len (da_cons (dv 0) da_nil)) (nomark _)) (dss_cons (ds_set (i := 3) sc_shape_in.nd rfl (.inl rfl) (de_call ((ok_letter_in T).mono (by decide)) hr (takes_of rfl rfl rfl rfl) (da_cons (de_ix (hu_of hr) (dv 0) (dv 2)) da_nil)))
  (dss_cons (ds_set (i := 4) sc_shape_in.nd rfl (.inl rfl) (de_add (dv 2) de_int))
  (dss_cons (ds_while (fuel := (fun _ => 60)) (passes_of rfl) (dt_w (dw_and (dt_cmp op_lt og_intB (dv 4) (de_len T.b_len (da_cons (dv 0) da_nil)) (nomark _)) (dw_and1 (dt_cmp (op_niA (hu_of hr)) og_ni (de_ix (hu_of hr) (dv 0) (dv 4)) (de_glob T.g_LETTERS) (by rfl))))) (dss_one (ds_set (i := 4) sc_shape_in.nd rfl (.inl rfl) (de_add (dv 4) de_int))))
  (dss_cons (ds_set (i := 5) sc_shape_in.nd rfl (.inl rfl) (de_call ((ok_read_natural T).mono (by decide)) hr (takes_of rfl rfl rfl rfl) (da_cons (de_slice (dv 0) (do_some (de_add (dv 2) de_int)) (do_some (dv 4))) (da_cons (de_glob T.g_FIGURE_LIMIT_notation) da_nil))))
  (dss_cons (ds_if (dt_cmp op_isN og_isN (dv 5) de_non (nomark _)) (dss_one (ds_raise rfl (takes_of rfl rfl rfl rfl) T.e_TextError)) dss_nil)
  (dss_cons (ds_app (i := 1) rfl (.inl rfl) (de_tup (da_cons (dv 3) (da_cons (dv 5) da_nil))))
  (dss_one (ds_set (i := 2) sc_shape_in.nd rfl (.inl rfl) (dv 4))))))))))
  (dss_cons (ds_if (dt_cmp (op_eqA (hu64 hr)) og_eq (de_len T.b_len (da_cons (dv 1) da_nil)) de_int (nomark _)) (dss_one (ds_raise rfl (takes_of rfl rfl rfl rfl) T.e_TextError)) dss_nil)
  (dss_one (ds_ret (de_tuple T.b_tuple (da_cons (dv 1) da_nil)))))))))
theorem ok_fields_in (T : Txt K w mg) : FD P w K mg base 4 "fields_in" 2 m_fields_in := fd_of T.d_fields_in fun a fd F => fn_ok (N := n_fields_in) F sc_fields_in fun cdv A outer s H E hr =>
  (dss_cons (ds_if (dt_cmp (op_eqA (hu64 hr)) og_eq (dv 0) de_str (nomark _)) (dss_cons (ds_if (dt_cmp (op_eqA (hu64 hr)) og_eq (de_len T.b_len (da_cons (dv 1) da_nil)) de_int (nomark _)) (dss_one (ds_raise rfl (takes_of rfl rfl rfl rfl) T.e_TextError)) dss_nil)
  (dss_one (ds_ret (de_tup (da_cons (de_call ((ok_shape_in T).mono (by decide)) hr (takes_of rfl rfl rfl rfl) (da_cons (de_ix (hu_of hr) (dv 1) de_int) da_nil)) (da_cons (de_tuple T.b_tuple (da_cons (de_lcE (own := [("word", 4)]) rfl rfl rfl (takes_of rfl rfl rfl rfl) sc_fields_in.nd (di2_seq (de_slice (dv 1) (do_some de_int) do_none)) (blkOk_by (N := n_fields_in) (sc := defScope s_fields_in) (by decide +kernel)) (fun _ _ _ _ _ _ => (pg_name (i := 4) sc_fields_in.nd rfl (.inl rfl))) (fun _ _ _ _ _ _ => dts_nil) (fun _ _ _ _ _ _ _ tk => (de_call ((ok_number_in_notation T).mono (by decide)) hr tk (da_cons (dv 4) da_nil)))) da_nil)) da_nil)))))) dss_nil)
  (dss_cons (ds_if (dt_cmp (op_neA (hu64 hr)) og_ne (de_len T.b_len (da_cons (dv 1) da_nil)) (de_itT T.k_FIELDS (dv 0)) (nomark _)) (dss_one (ds_raise rfl (takes_of rfl rfl rfl rfl) T.e_TextError)) dss_nil)
  (dss_cons (ds_if (dt_cmp (op_eqA (hu64 hr)) og_eq (dv 0) de_str (nomark _)) (dss_one (ds_ret (de_tup (da_cons (de_call ((ok_shape_in T).mono (by decide)) hr (takes_of rfl rfl rfl rfl) (da_cons (de_ix (hu_of hr) (dv 1) de_int) da_nil)) (da_cons (de_call ((ok_number_in_notation T).mono (by decide)) hr (takes_of rfl rfl rfl rfl) (da_cons (de_ix (hu_of hr) (dv 1) de_int) da_nil)) (da_cons (de_call ((ok_number_in_notation T).mono (by decide)) hr (takes_of rfl rfl rfl rfl) (da_cons (de_ix (hu_of hr) (dv 1) de_int) da_nil)) da_nil)))))) dss_nil)
  (dss_cons (ds_if (dt_cmp (op_eqA (hu64 hr)) og_eq (dv 0) de_str (nomark _)) (dss_one (ds_ret (de_tup (da_cons (de_call ((ok_letters_in T).mono (by decide)) hr (takes_of rfl rfl rfl rfl) (da_cons (de_ix (hu_of hr) (dv 1) de_int) da_nil)) da_nil)))) dss_nil)
  (dss_cons (ds_set (i := 2) sc_fields_in.nd rfl (.inl rfl) (de_lst da_nil))
  (dss_cons (ds_for (t := (.one 3)) (passes_of rfl) rfl (di_range1 T.b_range (da_cons (de_len T.b_len (da_cons (dv 1) da_nil)) da_nil)) (pg_name (i := 3) sc_fields_in.nd rfl (.inl rfl)) (dss_one (ds_if (dt_cmp op_lt og_intB (dv 3) (de_getT T.k_AXIS_FIELDS (dv 0) de_int ⟨by rfl, by rfl, by rfl, by rfl⟩) (nomark _)) (dss_one (ds_app (i := 2) rfl (.inl rfl) (de_call ((ok_letter_in T).mono (by decide)) hr (takes_of rfl rfl rfl rfl) (da_cons (de_ix (hu_of hr) (dv 1) (dv 3)) da_nil)))) (dss_one (ds_app (i := 2) rfl (.inl rfl) (de_call ((ok_number_in_notation T).mono (by decide)) hr (takes_of rfl rfl rfl rfl) (da_cons (de_ix (hu_of hr) (dv 1) (dv 3)) da_nil)))))))
  (dss_one (ds_ret (de_tuple T.b_tuple (da_cons (dv 2) da_nil))))))))))
theorem ok_node_in (T : Txt K w mg) : FD P w K mg base 5 "node_in" 1 m_node_in := fd_of T.d_node_in fun a fd F => fn_ok (N := n_node_in) F sc_node_in fun cdv A outer s H E hr =>
  (dss_cons (ds_set (i := 1) sc_node_in.nd rfl (.inl rfl) (de_split (dv 0) de_str))
  (dss_cons (ds_set (i := 2) sc_node_in.nd rfl (.inl rfl) (de_ix (hu_of hr) (dv 1) de_int))
  (dss_cons (ds_if (dt_niT T.k_ARGS (dv 2)) (dss_one (ds_raise rfl (takes_of rfl rfl rfl rfl) T.e_TextError)) dss_nil)
  (dss_cons (ds_set (i := 3) sc_node_in.nd rfl (.inl rfl) (de_itT T.k_ARGS (dv 2)))
  (dss_cons (ds_if (dt_cmp op_lt og_intB (de_len T.b_len (da_cons (dv 1) da_nil)) (de_add de_int (dv 3)) (nomark _)) (dss_one (ds_raise rfl (takes_of rfl rfl rfl rfl) T.e_TextError)) dss_nil)
  (dss_cons (ds_set (i := 4) sc_node_in.nd rfl (.inl rfl) (de_tuple T.b_tuple (da_cons (de_lcE (own := [("word", 5)]) rfl rfl rfl (takes_of rfl rfl rfl rfl) sc_node_in.nd (di2_seq (de_slice (dv 1) (do_some de_int) (do_some (de_add de_int (dv 3))))) (blkOk_by (N := n_node_in) (sc := defScope s_node_in) (by decide +kernel)) (fun _ _ _ _ _ _ => (pg_name (i := 5) sc_node_in.nd rfl (.inl rfl))) (fun _ _ _ _ _ _ => dts_nil) (fun _ _ _ _ _ _ _ tk => (de_call ((ok_number_in_notation T).mono (by decide)) hr tk (da_cons (dv 5) da_nil)))) da_nil)))
  (dss_one (ds_ret (de_tup (da_cons (dv 2) (da_cons (dv 4) (da_cons (de_call ((ok_fields_in T).mono (by decide)) hr (takes_of rfl rfl rfl rfl) (da_cons (dv 2) (da_cons (de_slice (dv 1) (do_some (de_add de_int (dv 3))) do_none) da_nil))) da_nil))))))))))))
theorem ok_read_graph (T : Txt K w mg) : FD P w K mg base 8 "read_graph" 1 m_read_graph := fd_of T.d_read_graph fun a fd F => fn_ok (N := n_read_graph) F sc_read_graph fun cdv A outer s H E hr =>
  (dss_cons (ds_set (i := 1) sc_read_graph.nd rfl (.inl rfl) (de_split (dv 0) de_str))
  (dss_cons (ds_if (dt_w (dw_or (dt_cmp op_lt og_intB (de_len T.b_len (da_cons (dv 1) da_nil)) de_int (nomark _)) (dw_or1 (dt_cmp (op_neA (hu64 hr)) og_ne (de_ix (hu_of hr) (dv 1) (de_neg de_int)) de_str (nomark _))))) (dss_one (ds_raise rfl (takes_of rfl rfl rfl rfl) T.e_TextError)) dss_nil)
  (dss_cons (ds_set (i := 2) sc_read_graph.nd rfl (.inl rfl) (de_split (de_ix (hu_of hr) (dv 1) (de_neg de_int)) de_str))
  (dss_cons (ds_if (dt_cmp (op_neA (hu64 hr)) og_ne (de_ix (hu_of hr) (dv 2) de_int) de_str (nomark _)) (dss_one (ds_raise rfl (takes_of rfl rfl rfl rfl) T.e_TextError)) dss_nil)
  (dss_cons (ds_set (i := 3) sc_read_graph.nd rfl (.inl rfl) (de_tuple T.b_tuple (da_cons (de_lcE (own := [("line", 5)]) rfl rfl rfl (takes_of rfl rfl rfl rfl) sc_read_graph.nd (di2_seq (de_slice (dv 1) do_none (do_some (de_neg de_int)))) (blkOk_by (N := n_read_graph) (sc := defScope s_read_graph) (by decide +kernel)) (fun _ _ _ _ _ _ => (pg_name (i := 5) sc_read_graph.nd rfl (.inl rfl))) (fun _ _ _ _ _ _ => dts_nil) (fun _ _ _ _ _ _ _ tk => (de_call ((ok_node_in T).mono (by decide)) hr tk (da_cons (dv 5) da_nil)))) da_nil)))
  (dss_cons (ds_set (i := 4) sc_read_graph.nd rfl (.inl rfl) (de_tuple T.b_tuple (da_cons (de_lcE (own := [("word", 6)]) rfl rfl rfl (takes_of rfl rfl rfl rfl) sc_read_graph.nd (di2_seq (de_slice (dv 2) (do_some de_int) do_none)) (blkOk_by (N := n_read_graph) (sc := defScope s_read_graph) (by decide +kernel)) (fun _ _ _ _ _ _ => (pg_name (i := 6) sc_read_graph.nd rfl (.inl rfl))) (fun _ _ _ _ _ _ => dts_nil) (fun _ _ _ _ _ _ _ tk => (de_call ((ok_number_in_notation T).mono (by decide)) hr tk (da_cons (dv 6) da_nil)))) da_nil)))
  (dss_cons (ds_expr (de_call ((ok_check_graph T).mono (by decide)) hr (takes_of rfl rfl rfl rfl) (da_cons (de_tup (da_cons (dv 3) (da_cons (dv 4) da_nil))) da_nil)))
  (dss_one (ds_ret (de_tup (da_cons (dv 3) (da_cons (dv 4) da_nil))))))))))))
theorem ok__law_told (T : Txt K w mg) : FD P w K mg base 9 "_law_told" 3 m__law_told := fd_of T.d__law_told fun a fd F => fn_ok (N := n__law_told) F sc__law_told fun cdv A outer s H E hr =>
  (dss_cons (ds_tryC (i := 4) T.c_TensorError rfl rfl rfl sc__law_told.nd (takes_of rfl rfl rfl rfl) (fun _ _ _ tk hp => (dss_one (ds_if (dt_cmp (op_eqA (hu64 hr)) og_eq (dv 0) de_int (nomark _)) (dss_one (ds_set (i := 3) sc__law_told.nd rfl (.inl rfl) (de_call ((ok_check_machine T).mono (by decide)) hr tk (da_cons (dv 1) da_nil)))) (dss_one (ds_if (dt_cmp (op_eqA (hu64 hr)) og_eq (dv 0) de_int (nomark _)) (dss_one (ds_set (i := 3) sc__law_told.nd rfl (.inl rfl) (de_call ((ok_check_code T).mono (by decide)) hr tk (da_cons (dv 1) (da_cons (dv 2) da_nil))))) (dss_one (ds_if (dt_cmp (op_eqA (hu64 hr)) og_eq (dv 0) de_int (nomark _)) (dss_one (ds_set (i := 3) sc__law_told.nd rfl (.inl rfl) (de_call ((ok_read_code T).mono (by decide)) hr tk (da_cons (dv 1) (da_cons (dv 2) da_nil))))) (dss_one (ds_set (i := 3) sc__law_told.nd rfl (.inl rfl) (de_call ((ok_read_graph T).mono (by decide)) hr tk (da_cons (dv 2) da_nil))))))))))) (fun cl C a oe pn hcl hz hf => (dss_one (ds_ret (de_add (de_add (de_add (de_mulV de_str (de_intT T.b_int (da_cons (de_isE T.i_MachineError hcl hz hf T.b_isinstance (by rfl) (.inl rfl)) da_nil))) (de_mulV de_str (de_intT T.b_int (da_cons (de_isE T.i_FormError hcl hz hf T.b_isinstance (by rfl) (.inl rfl)) da_nil)))) (de_mulV de_str (de_intT T.b_int (da_cons (de_isE T.i_RangeError hcl hz hf T.b_isinstance (by rfl) (.inl rfl)) da_nil)))) (de_mulV de_str (de_intT T.b_int (da_cons (de_isE T.i_TextError hcl hz hf T.b_isinstance (by rfl) (.inl rfl)) da_nil))))))))
  (dss_one (ds_ret (de_if (dt_cmp op_isN og_isN (dv 3) de_non (nomark _)) de_str (dv 3)))))
theorem ok__law_codes (T : Txt K w mg) : FD P w K mg base 10 "_law_codes" 0 m__law_codes := fd_of T.d__law_codes fun a fd F => fn_ok (N := n__law_codes) F sc__law_codes fun cdv A outer s H E hr =>
  (dss_cons (ds_set (i := 0) sc__law_codes.nd rfl (.inr rfl) (de_tup (da_cons de_int (da_cons de_int (da_cons de_int (da_cons de_int (da_cons de_int da_nil)))))))
  (dss_cons (ds_set (i := 1) sc__law_codes.nd rfl (.inl rfl) (de_shl de_int de_int))
  (dss_cons (ds_set (i := 2) sc__law_codes.nd rfl (.inl rfl) (de_lst (da_cons (de_tup (da_cons (de_tup (da_cons de_str (da_cons de_int (da_cons de_int da_nil)))) (da_cons de_str da_nil))) (da_cons (de_tup (da_cons (de_tup (da_cons de_str (da_cons de_int (da_cons (de_sub (dv 1) de_int) da_nil)))) (da_cons de_str da_nil))) (da_cons (de_tup (da_cons (de_tup (da_cons de_str (da_cons de_int (da_cons de_int da_nil)))) (da_cons de_str da_nil))) (da_cons (de_tup (da_cons (de_tup (da_cons de_str (da_cons (de_neg de_int) (da_cons de_int da_nil)))) (da_cons de_str da_nil))) (da_cons (de_tup (da_cons (de_tup (da_cons de_str (da_cons de_int (da_cons (dv 1) da_nil)))) (da_cons de_str da_nil))) (da_cons (de_tup (da_cons (de_tup (da_cons de_str (da_cons de_int (da_cons (de_neg (dv 1)) da_nil)))) (da_cons de_str da_nil))) (da_cons (de_tup (da_cons (de_tup (da_cons de_str (da_cons de_int (da_cons (de_sub (de_neg (dv 1)) de_int) da_nil)))) (da_cons de_str da_nil))) (da_cons (de_tup (da_cons (de_tup (da_cons de_str (da_cons de_int (da_cons de_int (da_cons de_int da_nil))))) (da_cons de_str da_nil))) (da_cons (de_tup (da_cons (de_tup (da_cons de_str (da_cons de_int (da_cons de_int (da_cons de_int da_nil))))) (da_cons de_str da_nil))) (da_cons (de_tup (da_cons (de_tup (da_cons de_str (da_cons de_int (da_cons de_int (da_cons de_int da_nil))))) (da_cons de_str da_nil))) (da_cons (de_tup (da_cons (de_tup (da_cons de_str (da_cons de_int (da_cons de_int (da_cons de_int da_nil))))) (da_cons de_str da_nil))) (da_cons (de_tup (da_cons (de_tup (da_cons de_str (da_cons de_int (da_cons de_int (da_cons (de_neg de_int) da_nil))))) (da_cons de_str da_nil))) (da_cons (de_tup (da_cons (de_tup (da_cons de_str (da_cons de_int (da_cons de_int (da_cons (de_neg de_int) da_nil))))) (da_cons de_str da_nil))) (da_cons (de_tup (da_cons (de_tup (da_cons de_str (da_cons de_int (da_cons de_int (da_cons de_int da_nil))))) (da_cons de_str da_nil))) (da_cons (de_tup (da_cons (de_tup (da_cons de_str (da_cons de_int (da_cons de_int (da_cons de_int da_nil))))) (da_cons de_str da_nil))) (da_cons (de_tup (da_cons (de_tup (da_cons de_str (da_cons de_int (da_cons de_int (da_cons de_int da_nil))))) (da_cons de_str da_nil))) (da_cons (de_tup (da_cons (de_tup (da_cons de_str (da_cons de_int (da_cons de_int (da_cons de_int (da_cons de_int (da_cons (de_neg de_int) (da_cons de_int da_nil)))))))) (da_cons de_str da_nil))) (da_cons (de_tup (da_cons (de_tup (da_cons de_str (da_cons de_int (da_cons de_int (da_cons de_int (da_cons de_int (da_cons de_int (da_cons de_int da_nil)))))))) (da_cons de_str da_nil))) (da_cons (de_tup (da_cons (de_tup (da_cons de_str (da_cons de_int (da_cons de_int (da_cons de_int (da_cons de_int (da_cons (de_neg de_int) (da_cons de_int da_nil)))))))) (da_cons de_str da_nil))) (da_cons (de_tup (da_cons (de_tup (da_cons de_str (da_cons de_int (da_cons de_int (da_cons de_int (da_cons de_int (da_cons de_int (da_cons de_int da_nil)))))))) (da_cons de_str da_nil))) (da_cons (de_tup (da_cons (de_tup (da_cons de_str (da_cons de_int (da_cons de_int (da_cons de_int (da_cons de_int (da_cons de_int (da_cons de_int da_nil)))))))) (da_cons de_str da_nil))) (da_cons (de_tup (da_cons (de_tup (da_cons de_str (da_cons de_int (da_cons de_int (da_cons de_int (da_cons de_int (da_cons de_int (da_cons de_int da_nil)))))))) (da_cons de_str da_nil))) (da_cons (de_tup (da_cons (de_tup (da_cons de_str (da_cons de_int (da_cons de_int (da_cons de_int (da_cons de_int (da_cons de_int (da_cons de_int da_nil)))))))) (da_cons de_str da_nil))) (da_cons (de_tup (da_cons (de_tup (da_cons de_str (da_cons de_int (da_cons de_int (da_cons de_int (da_cons de_int (da_cons de_int (da_cons de_int da_nil)))))))) (da_cons de_str da_nil))) (da_cons (de_tup (da_cons (de_tup (da_cons de_str (da_cons de_str (da_cons de_int (da_cons de_int (da_cons de_int (da_cons de_int da_nil))))))) (da_cons de_str da_nil))) (da_cons (de_tup (da_cons (de_tup (da_cons de_str (da_cons de_str (da_cons de_int (da_cons de_int (da_cons de_int (da_cons de_int da_nil))))))) (da_cons de_str da_nil))) (da_cons (de_tup (da_cons (de_tup (da_cons de_str (da_cons de_str (da_cons de_int (da_cons de_int (da_cons de_int (da_cons de_int da_nil))))))) (da_cons de_str da_nil))) (da_cons (de_tup (da_cons (de_tup (da_cons de_str (da_cons de_str (da_cons de_int (da_cons de_int (da_cons de_int (da_cons de_int da_nil))))))) (da_cons de_str da_nil))) (da_cons (de_tup (da_cons (de_tup (da_cons de_str (da_cons de_str (da_cons de_int (da_cons de_int (da_cons de_int (da_cons de_int da_nil))))))) (da_cons de_str da_nil))) (da_cons (de_tup (da_cons (de_tup (da_cons de_str (da_cons de_str (da_cons de_int (da_cons de_int (da_cons de_int (da_cons de_int da_nil))))))) (da_cons de_str da_nil))) (da_cons (de_tup (da_cons (de_tup (da_cons de_str (da_cons de_str (da_cons de_int (da_cons de_int (da_cons de_int (da_cons de_int da_nil))))))) (da_cons de_str da_nil))) (da_cons (de_tup (da_cons (de_tup (da_cons de_str (da_cons de_str (da_cons de_int (da_cons de_int (da_cons de_int (da_cons de_int da_nil))))))) (da_cons de_str da_nil))) (da_cons (de_tup (da_cons (de_tup (da_cons de_str (da_cons de_str (da_cons de_int (da_cons (de_tup (da_cons de_int (da_cons de_int da_nil))) (da_cons (de_tup da_nil) da_nil)))))) (da_cons de_str da_nil))) (da_cons (de_tup (da_cons (de_tup (da_cons de_str (da_cons de_str (da_cons de_int (da_cons (de_tup (da_cons de_int da_nil)) (da_cons (de_tup da_nil) da_nil)))))) (da_cons de_str da_nil))) (da_cons (de_tup (da_cons (de_tup (da_cons de_str (da_cons de_str (da_cons de_int (da_cons (de_tup (da_cons de_int (da_cons de_int (da_cons de_int da_nil)))) (da_cons (de_tup da_nil) da_nil)))))) (da_cons de_str da_nil))) (da_cons (de_tup (da_cons (de_tup (da_cons de_str (da_cons de_str (da_cons de_int (da_cons (de_tup (da_cons de_int (da_cons de_int da_nil))) (da_cons (de_tup (da_cons de_int da_nil)) da_nil)))))) (da_cons de_str da_nil))) (da_cons (de_tup (da_cons (de_tup (da_cons de_str (da_cons de_str (da_cons de_int (da_cons (de_tup (da_cons de_int da_nil)) (da_cons (de_tup da_nil) da_nil)))))) (da_cons de_str da_nil))) (da_cons (de_tup (da_cons (de_tup (da_cons de_str (da_cons de_str (da_cons de_int (da_cons (de_tup (da_cons de_int da_nil)) (da_cons (de_tup da_nil) da_nil)))))) (da_cons de_str da_nil))) (da_cons (de_tup (da_cons (de_tup (da_cons de_str (da_cons de_str (da_cons de_int (da_cons (de_tup (da_cons de_int da_nil)) (da_cons (de_tup da_nil) da_nil)))))) (da_cons de_str da_nil))) (da_cons (de_tup (da_cons (de_tup (da_cons de_str (da_cons de_str (da_cons de_int (da_cons (de_tup (da_cons de_int da_nil)) (da_cons (de_tup da_nil) da_nil)))))) (da_cons de_str da_nil))) (da_cons (de_tup (da_cons (de_tup (da_cons de_str (da_cons de_str (da_cons de_int (da_cons (de_tup (da_cons de_int da_nil)) (da_cons (de_tup (da_cons (de_neg de_int) (da_cons de_int da_nil))) da_nil)))))) (da_cons de_str da_nil))) (da_cons (de_tup (da_cons (de_tup (da_cons de_str (da_cons de_str (da_cons de_int (da_cons (de_tup (da_cons de_int da_nil)) (da_cons (de_tup (da_cons de_int (da_cons de_int da_nil))) da_nil)))))) (da_cons de_str da_nil))) (da_cons (de_tup (da_cons (de_tup (da_cons de_str (da_cons de_str (da_cons de_int (da_cons (de_tup (da_cons de_int da_nil)) (da_cons (de_tup (da_cons de_int (da_cons de_int da_nil))) da_nil)))))) (da_cons de_str da_nil))) (da_cons (de_tup (da_cons (de_tup (da_cons de_str (da_cons de_str (da_cons de_int (da_cons (de_tup (da_cons de_int da_nil)) (da_cons (de_tup (da_cons (de_neg (dv 1)) (da_cons (de_sub (dv 1) de_int) da_nil))) da_nil)))))) (da_cons de_str da_nil))) (da_cons (de_tup (da_cons (de_tup (da_cons de_str (da_cons de_str (da_cons de_int (da_cons (de_tup (da_cons de_int da_nil)) (da_cons (de_tup (da_cons de_int (da_cons (dv 1) da_nil))) da_nil)))))) (da_cons de_str da_nil))) (da_cons (de_tup (da_cons (de_tup (da_cons de_str (da_cons de_str (da_cons de_int (da_cons (de_tup (da_cons de_int da_nil)) (da_cons (de_tup (da_cons (de_sub (de_neg (dv 1)) de_int) (da_cons de_int da_nil))) da_nil)))))) (da_cons de_str da_nil))) (da_cons (de_tup (da_cons (de_tup (da_cons de_str (da_cons de_str (da_cons de_int (da_cons (de_tup (da_cons de_int da_nil)) (da_cons (de_tup (da_cons de_int da_nil)) da_nil)))))) (da_cons de_str da_nil))) (da_cons (de_tup (da_cons (de_tup (da_cons de_str (da_cons de_str (da_cons de_int (da_cons (de_tup (da_cons de_int da_nil)) (da_cons (de_tup (da_cons de_int da_nil)) da_nil)))))) (da_cons de_str da_nil))) (da_cons (de_tup (da_cons (de_tup (da_cons de_str (da_cons de_str (da_cons de_int (da_cons (de_tup (da_cons de_int da_nil)) (da_cons (de_tup (da_cons de_int da_nil)) da_nil)))))) (da_cons de_str da_nil))) (da_cons (de_tup (da_cons (de_tup (da_cons de_str (da_cons de_str (da_cons de_int (da_cons (de_tup (da_cons de_int da_nil)) (da_cons (de_tup (da_cons de_int da_nil)) da_nil)))))) (da_cons de_str da_nil))) (da_cons (de_tup (da_cons (de_tup (da_cons de_str (da_cons de_str (da_cons de_int (da_cons (de_tup (da_cons de_int (da_cons de_int (da_cons de_int da_nil)))) (da_cons (de_tup da_nil) da_nil)))))) (da_cons de_str da_nil))) (da_cons (de_tup (da_cons (de_tup (da_cons de_str (da_cons de_str (da_cons de_int (da_cons (de_tup (da_cons de_int (da_cons de_int da_nil))) (da_cons (de_tup da_nil) da_nil)))))) (da_cons de_str da_nil))) (da_cons (de_tup (da_cons (de_tup (da_cons de_str (da_cons de_int da_nil))) (da_cons de_str da_nil))) (da_cons (de_tup (da_cons (de_tup (da_cons de_str (da_cons de_int da_nil))) (da_cons de_str da_nil))) (da_cons (de_tup (da_cons (de_tup (da_cons de_str (da_cons de_int da_nil))) (da_cons de_str da_nil))) (da_cons (de_tup (da_cons (de_tup (da_cons de_str (da_cons (de_neg de_int) da_nil))) (da_cons de_str da_nil))) (da_cons (de_tup (da_cons (de_tup (da_cons de_str (da_cons de_int (da_cons de_int (da_cons de_int (da_cons de_int (da_cons (de_neg de_int) (da_cons de_int da_nil)))))))) (da_cons de_str da_nil))) (da_cons (de_tup (da_cons (de_tup (da_cons de_str (da_cons de_int (da_cons de_int (da_cons de_int (da_cons de_int (da_cons de_int (da_cons de_int da_nil)))))))) (da_cons de_str da_nil))) (da_cons (de_tup (da_cons (de_tup (da_cons de_str (da_cons de_int (da_cons de_int (da_cons de_int (da_cons de_int (da_cons de_int (da_cons de_int da_nil)))))))) (da_cons de_str da_nil))) (da_cons (de_tup (da_cons (de_tup (da_cons de_str (da_cons de_int (da_cons de_int (da_cons de_int (da_cons de_int (da_cons de_int (da_cons de_int da_nil)))))))) (da_cons de_str da_nil))) (da_cons (de_tup (da_cons (de_tup (da_cons de_str (da_cons de_int (da_cons de_int (da_cons de_int (da_cons de_int (da_cons de_int (da_cons de_int da_nil)))))))) (da_cons de_str da_nil))) (da_cons (de_tup (da_cons (de_tup (da_cons de_str (da_cons de_int (da_cons de_int (da_cons de_int (da_cons de_int (da_cons de_int (da_cons de_int da_nil)))))))) (da_cons de_str da_nil))) (da_cons (de_tup (da_cons (de_tup (da_cons de_str (da_cons de_int (da_cons de_int (da_cons de_int (da_cons de_int (da_cons de_int (da_cons de_int da_nil)))))))) (da_cons de_str da_nil))) (da_cons (de_tup (da_cons (de_tup (da_cons de_str (da_cons de_int (da_cons de_int (da_cons de_int (da_cons de_int (da_cons de_int (da_cons de_int da_nil)))))))) (da_cons de_str da_nil))) (da_cons (de_tup (da_cons (de_tup (da_cons de_str (da_cons de_int (da_cons de_int (da_cons de_int (da_cons de_int (da_cons de_int (da_cons de_int da_nil)))))))) (da_cons de_str da_nil))) (da_cons (de_tup (da_cons (de_tup (da_cons de_str (da_cons de_int (da_cons de_int (da_cons de_int (da_cons de_int (da_cons de_int (da_cons de_int da_nil)))))))) (da_cons de_str da_nil))) (da_cons (de_tup (da_cons (de_tup (da_cons de_str (da_cons de_int (da_cons de_int da_nil)))) (da_cons de_str da_nil))) (da_cons (de_tup (da_cons (de_tup (da_cons de_str (da_cons de_int (da_cons de_int da_nil)))) (da_cons de_str da_nil))) (da_cons (de_tup (da_cons (de_tup (da_cons de_str (da_cons de_int (da_cons de_int da_nil)))) (da_cons de_str da_nil))) (da_cons (de_tup (da_cons (de_tup (da_cons de_str (da_cons de_int (da_cons (de_neg de_int) da_nil)))) (da_cons de_str da_nil))) (da_cons (de_tup (da_cons (de_tup (da_cons de_str da_nil)) (da_cons de_str da_nil))) (da_cons (de_tup (da_cons (de_tup (da_cons de_str (da_cons de_int (da_cons de_int (da_cons de_int (da_cons de_int da_nil)))))) (da_cons de_str da_nil))) (da_cons (de_tup (da_cons (de_tup (da_cons de_str da_nil)) (da_cons de_str da_nil))) (da_cons (de_tup (da_cons (de_tup (da_cons de_str (da_cons de_int da_nil))) (da_cons de_str da_nil))) (da_cons (de_tup (da_cons (de_tup (da_cons de_str (da_cons de_int (da_cons de_int (da_cons de_int da_nil))))) (da_cons de_str da_nil))) (da_cons (de_tup (da_cons (de_tup (da_cons de_str da_nil)) (da_cons de_str da_nil))) (da_cons (de_tup (da_cons (de_tup (da_cons de_str (da_cons de_int da_nil))) (da_cons de_str da_nil))) (da_cons (de_tup (da_cons (de_tup da_nil) (da_cons de_str da_nil))) da_nil))))))))))))))))))))))))))))))))))))))))))))))))))))))))))))))))))))))))))))))))
  (dss_cons (ds_forV (t := (.tup [3, 4])) (i := 2) rfl (.inl rfl) (passes_of rfl) rfl (pg_tup rfl (pgs_cons (pg_name (i := 3) sc__law_codes.nd rfl (.inl rfl)) (pgs_cons (pg_name (i := 4) sc__law_codes.nd rfl (.inl rfl)) pgs_nil))) (dss_one (ds_if (dt_cmp (op_neA (hu64 hr)) og_ne (de_call ((ok__law_told T).mono (by decide)) hr (takes_of rfl rfl rfl rfl) (da_cons de_int (da_cons (dv 0) (da_cons (de_tup (da_cons (dv 3) da_nil)) da_nil)))) (dv 4) (nomark _)) (dss_one (ds_ret de_bl)) dss_nil)))
  (dss_cons (ds_set (i := 5) sc__law_codes.nd rfl (.inl rfl) (de_mul de_int (dv 1)))
  (dss_cons (ds_set (i := 6) sc__law_codes.nd rfl (.inl rfl) (de_lst (da_cons (de_tup (da_cons (de_tup (da_cons de_int (da_cons de_int (da_cons de_int (da_cons de_int da_nil))))) (da_cons de_str da_nil))) (da_cons (de_tup (da_cons (de_tup (da_cons de_int (da_cons de_int (da_cons de_int (da_cons de_int da_nil))))) (da_cons de_str da_nil))) (da_cons (de_tup (da_cons (de_tup (da_cons de_int (da_cons de_int (da_cons de_int (da_cons de_int da_nil))))) (da_cons de_str da_nil))) (da_cons (de_tup (da_cons (de_tup (da_cons de_int (da_cons de_int (da_cons de_int (da_cons de_int da_nil))))) (da_cons de_str da_nil))) (da_cons (de_tup (da_cons (de_tup (da_cons de_int (da_cons de_int (da_cons de_int (da_cons de_int da_nil))))) (da_cons de_str da_nil))) (da_cons (de_tup (da_cons (de_tup (da_cons de_int (da_cons (de_sub (dv 1) de_int) (da_cons de_int (da_cons de_int da_nil))))) (da_cons de_str da_nil))) (da_cons (de_tup (da_cons (de_tup (da_cons de_int (da_cons (de_sub (dv 1) de_int) (da_cons de_int (da_cons de_int da_nil))))) (da_cons de_str da_nil))) (da_cons (de_tup (da_cons (de_tup (da_cons de_int (da_cons (dv 1) (da_cons de_int (da_cons de_int da_nil))))) (da_cons de_str da_nil))) (da_cons (de_tup (da_cons (de_tup (da_cons de_int (da_cons (de_neg (dv 1)) (da_cons de_int (da_cons de_int da_nil))))) (da_cons de_str da_nil))) (da_cons (de_tup (da_cons (de_tup (da_cons de_int (da_cons (de_neg (dv 1)) (da_cons (de_neg de_int) (da_cons de_int da_nil))))) (da_cons de_str da_nil))) (da_cons (de_tup (da_cons (de_tup (da_cons de_int (da_cons de_int (da_cons (dv 5) (da_cons de_int da_nil))))) (da_cons de_str da_nil))) (da_cons (de_tup (da_cons (de_tup (da_cons de_int (da_cons de_int (da_cons (de_add (dv 5) de_int) (da_cons de_int da_nil))))) (da_cons de_str da_nil))) (da_cons (de_tup (da_cons (de_tup (da_cons de_int (da_cons de_int (da_cons (de_neg (dv 5)) (da_cons de_int da_nil))))) (da_cons de_str da_nil))) (da_cons (de_tup (da_cons (de_tup (da_cons de_int (da_cons de_int (da_cons (de_sub (de_neg (dv 5)) de_int) (da_cons de_int da_nil))))) (da_cons de_str da_nil))) da_nil))))))))))))))))
  (dss_cons (ds_forV (t := (.tup [7, 4])) (i := 6) rfl (.inl rfl) (passes_of rfl) rfl (pg_tup rfl (pgs_cons (pg_name (i := 7) sc__law_codes.nd rfl (.inl rfl)) (pgs_cons (pg_name (i := 4) sc__law_codes.nd rfl (.inl rfl)) pgs_nil))) (dss_one (ds_if (dt_cmp (op_neA (hu64 hr)) og_ne (de_call ((ok__law_told T).mono (by decide)) hr (takes_of rfl rfl rfl rfl) (da_cons de_int (da_cons (dv 0) (da_cons (de_tup (da_cons (de_add (de_tup (da_cons de_str da_nil)) (dv 7)) (da_cons (de_tup (da_cons de_str da_nil)) da_nil))) da_nil)))) (dv 4) (nomark _)) (dss_one (ds_ret de_bl)) dss_nil)))
  (dss_cons (ds_set (i := 8) sc__law_codes.nd rfl (.inl rfl) (de_tup (da_cons de_str (da_cons de_int (da_cons de_int da_nil)))))
  (dss_cons (ds_set (i := 9) sc__law_codes.nd rfl (.inl rfl) (de_tup (da_cons de_str (da_cons de_int (da_cons de_int (da_cons de_int (da_cons de_int da_nil)))))))
  (dss_cons (ds_set (i := 10) sc__law_codes.nd rfl (.inl rfl) (de_lst (da_cons (de_tup (da_cons (de_tup (da_cons (de_tup (da_cons de_str (da_cons de_int (da_cons de_int da_nil)))) (da_cons (dv 8) (da_cons (dv 8) da_nil)))) (da_cons de_str da_nil))) (da_cons (de_tup (da_cons (de_tup (da_cons (de_tup (da_cons de_str (da_cons de_int (da_cons de_int da_nil)))) (da_cons (dv 8) (da_cons (dv 8) da_nil)))) (da_cons de_str da_nil))) (da_cons (de_tup (da_cons (de_tup (da_cons (de_tup (da_cons de_str (da_cons de_int (da_cons de_int da_nil)))) (da_cons (dv 9) (da_cons (dv 8) (da_cons (de_tup (da_cons de_str da_nil)) da_nil))))) (da_cons de_str da_nil))) (da_cons (de_tup (da_cons (de_tup (da_cons (de_tup (da_cons de_str (da_cons de_int (da_cons de_int da_nil)))) (da_cons (dv 9) (da_cons (dv 8) (da_cons (de_tup (da_cons de_str da_nil)) da_nil))))) (da_cons de_str da_nil))) (da_cons (de_tup (da_cons (de_tup (da_cons (dv 9) (da_cons (de_tup (da_cons de_str (da_cons de_int (da_cons de_int da_nil)))) (da_cons (dv 8) (da_cons (de_tup (da_cons de_str da_nil)) da_nil))))) (da_cons de_str da_nil))) (da_cons (de_tup (da_cons (de_tup (da_cons (dv 9) (da_cons (de_tup (da_cons de_str (da_cons de_int (da_cons de_int da_nil)))) (da_cons (dv 8) (da_cons (de_tup (da_cons de_str da_nil)) da_nil))))) (da_cons de_str da_nil))) (da_cons (de_tup (da_cons (de_tup (da_cons (dv 9) (da_cons (de_tup (da_cons de_str da_nil)) (da_cons (de_tup (da_cons de_str da_nil)) da_nil)))) (da_cons de_str da_nil))) (da_cons (de_tup (da_cons (de_tup (da_cons (dv 9) (da_cons (dv 9) (da_cons (de_tup (da_cons de_str da_nil)) da_nil)))) (da_cons de_str da_nil))) (da_cons (de_tup (da_cons (de_tup (da_cons (dv 9) (da_cons (dv 9) (da_cons (de_tup (da_cons de_str da_nil)) (da_cons (de_tup (da_cons de_str da_nil)) da_nil))))) (da_cons de_str da_nil))) (da_cons (de_tup (da_cons (de_tup (da_cons (de_tup (da_cons de_str da_nil)) (da_cons (dv 9) da_nil))) (da_cons de_str da_nil))) da_nil))))))))))))
  (dss_one (ds_ret (de_all rfl T.b_all (da_cons (de_lc2 (own := [("code", 11), ("due", 4)]) rfl sc__law_codes.nd (di2_seq (dv 10)) (blkOk_by (N := n__law_codes) (sc := defScope s__law_codes) (by decide +kernel)) (fun _ _ _ _ _ => (pg_tup rfl (pgs_cons (pg_name (i := 11) sc__law_codes.nd rfl (.inl rfl)) (pgs_cons (pg_name (i := 4) sc__law_codes.nd rfl (.inl rfl)) pgs_nil)))) (fun _ _ _ _ _ => dts_nil) (fun _ _ _ _ _ => (de_cmp (op_eqA (hu64 hr)) og_eq (de_call ((ok__law_told T).mono (by decide)) hr tk0 (da_cons de_int (da_cons (dv 0) (da_cons (dv 11) da_nil)))) (dv 4) (nomark _)))) da_nil))))))))))))))
theorem ok__law_graphs (T : Txt K w mg) : FD P w K mg base 10 "_law_graphs" 0 m__law_graphs := fd_of T.d__law_graphs fun a fd F => fn_ok (N := n__law_graphs) F sc__law_graphs fun cdv A outer s H E hr =>
  (dss_cons (ds_set (i := 0) sc__law_graphs.nd rfl (.inr rfl) (de_lst (da_cons de_str (da_cons de_str (da_cons de_str (da_cons de_str da_nil))))))
  (dss_cons (ds_set (i := 1) sc__law_graphs.nd rfl (.inl rfl) (de_tup (da_cons (de_tup (da_cons de_str (da_cons (de_tup da_nil) (da_cons (de_tup (da_cons (de_tup (da_cons (de_tup (da_cons de_str (da_cons de_int da_nil))) (da_cons (de_tup (da_cons de_str (da_cons de_int da_nil))) da_nil))) (da_cons (de_neg de_int) (da_cons de_int da_nil)))) da_nil)))) (da_cons (de_tup (da_cons de_str (da_cons (de_tup da_nil) (da_cons (de_tup (da_cons (de_tup (da_cons (de_tup (da_cons de_str (da_cons de_int da_nil))) da_nil)) (da_cons (de_tup (da_cons de_int (da_cons de_int (da_cons de_int (da_cons (de_neg de_int) da_nil))))) da_nil))) da_nil)))) (da_cons (de_tup (da_cons de_str (da_cons (de_tup (da_cons de_int (da_cons de_int da_nil))) (da_cons (de_tup (da_cons de_str da_nil)) da_nil)))) da_nil)))))
  (dss_cons (ds_if (dt_cmp (op_neA (hu64 hr)) og_ne (de_call ((ok__law_told T).mono (by decide)) hr (takes_of rfl rfl rfl rfl) (da_cons de_int (da_cons de_int (da_cons (de_join de_str (de_lc2 (own := [("line", 3)]) rfl sc__law_graphs.nd (di2_seq (dv 0)) (blkOk_by (N := n__law_graphs) (sc := defScope s__law_graphs) (by decide +kernel)) (fun _ _ _ _ _ => (pg_name (i := 3) sc__law_graphs.nd rfl (.inl rfl))) (fun _ _ _ _ _ => dts_nil) (fun _ _ _ _ _ => (de_add (dv 3) de_str)))) da_nil)))) (de_tup (da_cons (dv 1) (da_cons (de_tup (da_cons de_int da_nil)) da_nil))) (nomark _)) (dss_one (ds_ret de_bl)) dss_nil)
  (dss_cons (ds_if (dt_cmp (op_neA (hu64 hr)) og_ne (de_call ((ok__law_told T).mono (by decide)) hr (takes_of rfl rfl rfl rfl) (da_cons de_int (da_cons de_int (da_cons (de_add (de_join de_str (de_lc2 (own := [("line", 3)]) rfl sc__law_graphs.nd (di2_seq (de_slice (dv 0) do_none (do_some de_int))) (blkOk_by (N := n__law_graphs) (sc := defScope s__law_graphs) (by decide +kernel)) (fun _ _ _ _ _ => (pg_name (i := 3) sc__law_graphs.nd rfl (.inl rfl))) (fun _ _ _ _ _ => dts_nil) (fun _ _ _ _ _ => (de_add (dv 3) de_str)))) de_str) da_nil)))) de_str (nomark _)) (dss_one (ds_ret de_bl)) dss_nil)
  (dss_cons (ds_for (t := (.tup [2, 3])) (passes_of rfl) rfl (di_seq (de_lst (da_cons (de_tup (da_cons de_int (da_cons de_str da_nil))) (da_cons (de_tup (da_cons de_int (da_cons de_str da_nil))) (da_cons (de_tup (da_cons de_int (da_cons de_str da_nil))) (da_cons (de_tup (da_cons de_int (da_cons de_str da_nil))) (da_cons (de_tup (da_cons de_int (da_cons de_str da_nil))) (da_cons (de_tup (da_cons de_int (da_cons de_str da_nil))) (da_cons (de_tup (da_cons de_int (da_cons de_str da_nil))) (da_cons (de_tup (da_cons de_int (da_cons de_str da_nil))) (da_cons (de_tup (da_cons de_int (da_cons de_str da_nil))) (da_cons (de_tup (da_cons de_int (da_cons de_str da_nil))) (da_cons (de_tup (da_cons de_int (da_cons de_str da_nil))) (da_cons (de_tup (da_cons de_int (da_cons de_str da_nil))) (da_cons (de_tup (da_cons de_int (da_cons de_str da_nil))) (da_cons (de_tup (da_cons de_int (da_cons de_str da_nil))) (da_cons (de_tup (da_cons de_int (da_cons de_str da_nil))) (da_cons (de_tup (da_cons de_int (da_cons de_str da_nil))) (da_cons (de_tup (da_cons de_int (da_cons de_str da_nil))) (da_cons (de_tup (da_cons de_int (da_cons de_str da_nil))) (da_cons (de_tup (da_cons de_int (da_cons de_str da_nil))) (da_cons (de_tup (da_cons de_int (da_cons de_str da_nil))) (da_cons (de_tup (da_cons de_int (da_cons de_str da_nil))) (da_cons (de_tup (da_cons de_int (da_cons de_str da_nil))) (da_cons (de_tup (da_cons de_int (da_cons de_str da_nil))) (da_cons (de_tup (da_cons de_int (da_cons de_str da_nil))) (da_cons (de_tup (da_cons de_int (da_cons de_str da_nil))) (da_cons (de_tup (da_cons de_int (da_cons de_str da_nil))) (da_cons (de_tup (da_cons de_int (da_cons de_str da_nil))) da_nil))))))))))))))))))))))))))))) (pg_tup rfl (pgs_cons (pg_name (i := 2) sc__law_graphs.nd rfl (.inl rfl)) (pgs_cons (pg_name (i := 3) sc__law_graphs.nd rfl (.inl rfl)) pgs_nil))) (dss_one (ds_if (dt_cmp (op_neA (hu64 hr)) og_ne (de_call ((ok__law_told T).mono (by decide)) hr (takes_of rfl rfl rfl rfl) (da_cons de_int (da_cons de_int (da_cons (de_join de_str (de_lc2 (own := [("own", 6)]) rfl sc__law_graphs.nd (di2_seq (de_add (de_add (de_slice (dv 0) do_none (do_some (dv 2))) (de_lst (da_cons (dv 3) da_nil))) (de_slice (dv 0) (do_some (de_add (dv 2) de_int)) do_none))) (blkOk_by (N := n__law_graphs) (sc := defScope s__law_graphs) (by decide +kernel)) (fun _ _ _ _ _ => (pg_name (i := 6) sc__law_graphs.nd rfl (.inl rfl))) (fun _ _ _ _ _ => dts_nil) (fun _ _ _ _ _ => (de_add (dv 6) de_str)))) da_nil)))) de_str (nomark _)) (dss_one (ds_ret de_bl)) dss_nil)))
  (dss_cons (ds_for (t := (.one 4)) (passes_of rfl) rfl (di_seq (de_tup (da_cons de_str (da_cons de_str (da_cons de_str (da_cons de_str (da_cons de_str (da_cons de_str da_nil)))))))) (pg_name (i := 4) sc__law_graphs.nd rfl (.inl rfl)) (dss_one (ds_if (dt_cmp (op_neA (hu64 hr)) og_ne (de_call ((ok__law_told T).mono (by decide)) hr (takes_of rfl rfl rfl rfl) (da_cons de_int (da_cons de_int (da_cons (dv 4) da_nil)))) de_str (nomark _)) (dss_one (ds_ret de_bl)) dss_nil)))
  (dss_cons (ds_set (i := 5) sc__law_graphs.nd rfl (.inl rfl) (de_lst (da_cons (de_tup (da_cons de_int (da_cons de_str da_nil))) (da_cons (de_tup (da_cons de_int (da_cons de_str da_nil))) (da_cons (de_tup (da_cons de_int (da_cons de_str da_nil))) (da_cons (de_tup (da_cons de_int (da_cons de_str da_nil))) (da_cons (de_tup (da_cons de_int (da_cons de_str da_nil))) (da_cons (de_tup (da_cons de_int (da_cons de_str da_nil))) (da_cons (de_tup (da_cons de_int (da_cons de_str da_nil))) (da_cons (de_tup (da_cons de_int (da_cons de_str da_nil))) da_nil))))))))))
  (dss_one (ds_ret (de_all rfl T.b_all (da_cons (de_lc2 (own := [("at", 2), ("line", 3)]) rfl sc__law_graphs.nd (di2_seq (dv 5)) (blkOk_by (N := n__law_graphs) (sc := defScope s__law_graphs) (by decide +kernel)) (fun _ _ _ _ _ => (pg_tup rfl (pgs_cons (pg_name (i := 2) sc__law_graphs.nd rfl (.inl rfl)) (pgs_cons (pg_name (i := 3) sc__law_graphs.nd rfl (.inl rfl)) pgs_nil)))) (fun _ _ _ _ _ => dts_nil) (fun _ _ _ _ _ => (de_cmp (op_eqA (hu64 hr)) og_eq (de_call ((ok__law_told T).mono (by decide)) hr tk0 (da_cons de_int (da_cons de_int (da_cons (de_join de_str (de_lc2 (own := [("own", 6)]) rfl sc__law_graphs.nd (di2_seq (de_add (de_add (de_slice (dv 0) do_none (do_some (dv 2))) (de_lst (da_cons (dv 3) da_nil))) (de_slice (dv 0) (do_some (de_add (dv 2) de_int)) do_none))) (blkOk_by (by rfl)) (fun _ _ _ _ _ => (pg_name (i := 6) sc__law_graphs.nd rfl (.inl rfl))) (fun _ _ _ _ _ => dts_nil) (fun _ _ _ _ _ => (de_add (dv 6) de_str)))) da_nil)))) de_str (nomark _)))) da_nil)))))))))))
theorem ok__law_lines (T : Txt K w mg) : FD P w K mg base 10 "_law_lines" 0 m__law_lines := fd_of T.d__law_lines fun a fd F => fn_ok (N := n__law_lines) F sc__law_lines fun cdv A outer s H E hr =>
  (dss_cons (ds_set (i := 0) sc__law_lines.nd rfl (.inl rfl) (de_tup (da_cons de_int (da_cons de_int (da_cons de_int (da_cons de_int (da_cons de_int da_nil)))))))
  (dss_cons (ds_set (i := 1) sc__law_lines.nd rfl (.inl rfl) (de_lst (da_cons (de_tup (da_cons de_str (da_cons (de_tup da_nil) da_nil))) (da_cons (de_tup (da_cons de_str (da_cons (de_tup (da_cons (de_tup (da_cons de_str (da_cons de_int (da_cons (de_neg de_int) da_nil)))) da_nil)) da_nil))) (da_cons (de_tup (da_cons de_str (da_cons (de_tup (da_cons (de_tup (da_cons de_str (da_cons de_str (da_cons de_int (da_cons (de_tup (da_cons de_int (da_cons de_int da_nil))) (da_cons (de_tup da_nil) da_nil)))))) da_nil)) da_nil))) (da_cons (de_tup (da_cons de_str (da_cons (de_tup (da_cons (de_tup (da_cons de_str (da_cons de_str (da_cons de_int (da_cons (de_tup (da_cons de_int da_nil)) (da_cons (de_tup (da_cons (de_neg de_int) (da_cons de_int da_nil))) da_nil)))))) da_nil)) da_nil))) (da_cons (de_tup (da_cons de_str (da_cons (de_tup (da_cons (de_tup (da_cons de_str (da_cons de_str (da_cons de_int (da_cons de_int (da_cons de_int (da_cons de_int da_nil))))))) (da_cons (de_tup (da_cons de_str (da_cons de_int da_nil))) da_nil))) da_nil))) (da_cons (de_tup (da_cons de_str (da_cons (de_tup (da_cons (de_tup (da_cons de_str (da_cons de_int (da_cons de_int (da_cons de_int (da_cons de_int da_nil)))))) (da_cons (de_tup (da_cons de_str da_nil)) da_nil))) da_nil))) da_nil))))))))
  (dss_cons (ds_forV (t := (.tup [2, 3])) (i := 1) rfl (.inl rfl) (passes_of rfl) rfl (pg_tup rfl (pgs_cons (pg_name (i := 2) sc__law_lines.nd rfl (.inl rfl)) (pgs_cons (pg_name (i := 3) sc__law_lines.nd rfl (.inl rfl)) pgs_nil))) (dss_one (ds_if (dt_cmp (op_neA (hu64 hr)) og_ne (de_call ((ok__law_told T).mono (by decide)) hr (takes_of rfl rfl rfl rfl) (da_cons de_int (da_cons (dv 0) (da_cons (dv 2) da_nil)))) (dv 3) (nomark _)) (dss_one (ds_ret de_bl)) dss_nil)))
  (dss_cons (ds_for (t := (.one 4)) (passes_of rfl) rfl (di_seq (de_tup (da_cons de_str (da_cons de_str (da_cons de_str (da_cons de_str (da_cons de_str (da_cons de_str (da_cons de_str (da_cons de_str (da_cons de_str (da_cons de_str (da_cons de_str (da_cons de_str (da_cons de_str (da_cons de_str (da_cons de_str (da_cons de_str (da_cons de_str (da_cons de_str (da_cons de_str (da_cons de_str (da_cons de_str da_nil))))))))))))))))))))))) (pg_name (i := 4) sc__law_lines.nd rfl (.inl rfl)) (dss_one (ds_if (dt_cmp (op_neA (hu64 hr)) og_ne (de_call ((ok__law_told T).mono (by decide)) hr (takes_of rfl rfl rfl rfl) (da_cons de_int (da_cons (dv 0) (da_cons (de_add (dv 4) de_str) da_nil)))) de_str (nomark _)) (dss_one (ds_ret de_bl)) dss_nil)))
  (dss_cons (ds_for (t := (.one 2)) (passes_of rfl) rfl (di_seq (de_tup (da_cons de_str (da_cons de_str (da_cons de_str (da_cons de_str da_nil)))))) (pg_name (i := 2) sc__law_lines.nd rfl (.inl rfl)) (dss_one (ds_if (dt_cmp (op_neA (hu64 hr)) og_ne (de_call ((ok__law_told T).mono (by decide)) hr (takes_of rfl rfl rfl rfl) (da_cons de_int (da_cons (dv 0) (da_cons (dv 2) da_nil)))) de_str (nomark _)) (dss_one (ds_ret de_bl)) dss_nil)))
  (dss_one (ds_ret (de_and (de_cmp (op_eqA (hu64 hr)) og_eq (de_call ((ok__law_told T).mono (by decide)) hr (takes_of rfl rfl rfl rfl) (da_cons de_int (da_cons (dv 0) (da_cons de_str da_nil)))) de_str (nomark _)) (de_and (de_cmp (op_eqA (hu64 hr)) og_eq (de_call ((ok__law_told T).mono (by decide)) hr (takes_of rfl rfl rfl rfl) (da_cons de_int (da_cons (dv 0) (da_cons de_str da_nil)))) de_str (nomark _)) (de_one (de_cmp (op_eqA (hu64 hr)) og_eq (de_call ((ok__law_told T).mono (by decide)) hr (takes_of rfl rfl rfl rfl) (da_cons de_int (da_cons (dv 0) (da_cons de_str da_nil)))) de_str (nomark _))))))))))))
theorem ok__law_machines (T : Txt K w mg) : FD P w K mg base 10 "_law_machines" 0 m__law_machines := fd_of T.d__law_machines fun a fd F => fn_ok (N := n__law_machines) F sc__law_machines fun cdv A outer s H E hr =>
  (dss_cons (ds_set (i := 0) sc__law_machines.nd rfl (.inl rfl) (de_lst (da_cons de_int (da_cons de_int (da_cons de_int (da_cons de_int (da_cons de_int da_nil)))))))
  (dss_cons (ds_set (i := 1) sc__law_machines.nd rfl (.inl rfl) (de_lst (da_cons de_int (da_cons de_int (da_cons de_int (da_cons de_int (da_cons de_int da_nil)))))))
  (dss_cons (ds_if (dt_w (dw_or (dt_cmp (op_neA (hu64 hr)) og_ne (de_call ((ok__law_told T).mono (by decide)) hr (takes_of rfl rfl rfl rfl) (da_cons de_int (da_cons (de_tuple T.b_tuple (da_cons (dv 0) da_nil)) (da_cons de_int da_nil)))) de_str (nomark _)) (dw_or1 (dt_cmp (op_neA (hu64 hr)) og_ne (de_call ((ok__law_told T).mono (by decide)) hr (takes_of rfl rfl rfl rfl) (da_cons de_int (da_cons (de_tuple T.b_tuple (da_cons (dv 1) da_nil)) (da_cons de_int da_nil)))) de_str (nomark _))))) (dss_one (ds_ret de_bl)) dss_nil)
  (dss_cons (ds_for (t := (.one 2)) (passes_of rfl) rfl (di_range1 T.b_range (da_cons de_int da_nil)) (pg_name (i := 2) sc__law_machines.nd rfl (.inl rfl)) (dss_one (ds_for (t := (.one 3)) (passes_of rfl) rfl (di_seq (de_tup (da_cons (de_sub (de_ix (hu_of hr) (dv 0) (dv 2)) de_int) (da_cons (de_add (de_ix (hu_of hr) (dv 1) (dv 2)) de_int) (da_cons de_int (da_cons (de_neg de_int) da_nil)))))) (pg_name (i := 3) sc__law_machines.nd rfl (.inl rfl)) (dss_one (ds_if (dt_cmp (op_neA (hu64 hr)) og_ne (de_call ((ok__law_told T).mono (by decide)) hr (takes_of rfl rfl rfl rfl) (da_cons de_int (da_cons (de_tuple T.b_tuple (da_cons (de_add (de_add (de_slice (dv 0) do_none (do_some (dv 2))) (de_lst (da_cons (dv 3) da_nil))) (de_slice (dv 0) (do_some (de_add (dv 2) de_int)) do_none)) da_nil)) (da_cons de_int da_nil)))) de_str (nomark _)) (dss_one (ds_ret de_bl)) dss_nil)))))
  (dss_one (ds_ret de_bl))))))
theorem ok_law (T : Txt K w mg) : FD P w K mg base 11 "law" 1 m_law := fd_of T.d_law fun a fd F => fn_ok (N := n_law) F sc_law fun cdv A outer s H E hr =>
  (dss_cons (ds_set (i := 1) sc_law.nd rfl (.inl rfl) de_int)
  (dss_cons (ds_for (t := (.one 2)) (passes_of rfl) rfl (di_scr (dv 0)) (pg_name (i := 2) sc_law.nd rfl (.inl rfl)) (dss_one (ds_set (i := 1) sc_law.nd rfl (.inl rfl) (de_mod (de_intT T.b_int (da_cons (de_add (dv 1) (de_abs T.b_abs (da_cons (dv 2) da_nil))) da_nil)) de_int))))
  (dss_one (ds_ret (de_callSel4 (ok__law_machines T) (ok__law_codes T) (ok__law_lines T) (ok__law_graphs T) hr (takes_of rfl rfl rfl rfl) (dv 1))))))
end
/-! ### what the top has written -/
theorem all_mk {P : Program} {w : World} {K : PySem.W.Frag} {h : Heap} {mg : Str → Option Value} {fa : Addr} (X : K.In h) (G : h.Ns mainGlobals mg) (hfa : mg "law" = some (.ref fa))
    {f_check_machine f_check_skip f_depths_of f_fields_in_range f_fits_width f_loop_in_range f_own_in_range f_in_range f_steps_in f_well_formed f_check_code f_read_integer f_number_in_listing f_group_in f_kind_in f_do_in f_instruction_in f_read_code f_letters_of f_same_but f_check_axes f_size_on f_check_extents f_within f_check_fields f_count_of f_check_form f_check_letters f_check_shape f_corners f_other_span f_limit f_round_off f_pointwise_span f_spread_together f_broadcast f_in_place_of f_resized f_without f_raw_shape f_shape_of f_domain_of f_node_work f_total_work f_check_graph f_letter_in f_letters_in f_number_in_notation f_read_natural f_shape_in f_fields_in f_node_in f_read_graph f__law_told f__law_codes f__law_graphs f__law_lines f__law_machines f_law C_AxisError C_FormError C_KindError C_MachineError C_RangeError C_RankError C_TensorError C_TextError C_TooLarge C_TooWide : Addr}
    {od_check_machine an_check_machine : Option Addr} {sl_check_machine : Array (Option Value)} {oc_check_machine kV_check_machine dc_check_machine pm_check_machine cd_check_machine ct_check_machine : Value}
    {od_check_skip an_check_skip : Option Addr} {sl_check_skip : Array (Option Value)} {oc_check_skip kV_check_skip dc_check_skip pm_check_skip cd_check_skip ct_check_skip : Value}
    {od_depths_of an_depths_of : Option Addr} {sl_depths_of : Array (Option Value)} {oc_depths_of kV_depths_of dc_depths_of pm_depths_of cd_depths_of ct_depths_of : Value}
    {od_fields_in_range an_fields_in_range : Option Addr} {sl_fields_in_range : Array (Option Value)} {oc_fields_in_range kV_fields_in_range dc_fields_in_range pm_fields_in_range cd_fields_in_range ct_fields_in_range : Value}
    {od_fits_width an_fits_width : Option Addr} {sl_fits_width : Array (Option Value)} {oc_fits_width kV_fits_width dc_fits_width pm_fits_width cd_fits_width ct_fits_width : Value}
    {od_loop_in_range an_loop_in_range : Option Addr} {sl_loop_in_range : Array (Option Value)} {oc_loop_in_range kV_loop_in_range dc_loop_in_range pm_loop_in_range cd_loop_in_range ct_loop_in_range : Value}
    {od_own_in_range an_own_in_range : Option Addr} {sl_own_in_range : Array (Option Value)} {oc_own_in_range kV_own_in_range dc_own_in_range pm_own_in_range cd_own_in_range ct_own_in_range : Value}
    {od_in_range an_in_range : Option Addr} {sl_in_range : Array (Option Value)} {oc_in_range kV_in_range dc_in_range pm_in_range cd_in_range ct_in_range : Value}
    {od_steps_in an_steps_in : Option Addr} {sl_steps_in : Array (Option Value)} {oc_steps_in kV_steps_in dc_steps_in pm_steps_in cd_steps_in ct_steps_in : Value}
    {od_well_formed an_well_formed : Option Addr} {sl_well_formed : Array (Option Value)} {oc_well_formed kV_well_formed dc_well_formed pm_well_formed cd_well_formed ct_well_formed : Value}
    {od_check_code an_check_code : Option Addr} {sl_check_code : Array (Option Value)} {oc_check_code kV_check_code dc_check_code pm_check_code cd_check_code ct_check_code : Value}
    {od_read_integer an_read_integer : Option Addr} {sl_read_integer : Array (Option Value)} {oc_read_integer kV_read_integer dc_read_integer pm_read_integer cd_read_integer ct_read_integer : Value}
    {od_number_in_listing an_number_in_listing : Option Addr} {sl_number_in_listing : Array (Option Value)} {oc_number_in_listing kV_number_in_listing dc_number_in_listing pm_number_in_listing cd_number_in_listing ct_number_in_listing : Value}
    {od_group_in an_group_in : Option Addr} {sl_group_in : Array (Option Value)} {oc_group_in kV_group_in dc_group_in pm_group_in cd_group_in ct_group_in : Value}
    {od_kind_in an_kind_in : Option Addr} {sl_kind_in : Array (Option Value)} {oc_kind_in kV_kind_in dc_kind_in pm_kind_in cd_kind_in ct_kind_in : Value}
    {od_do_in an_do_in : Option Addr} {sl_do_in : Array (Option Value)} {oc_do_in kV_do_in dc_do_in pm_do_in cd_do_in ct_do_in : Value}
    {od_instruction_in an_instruction_in : Option Addr} {sl_instruction_in : Array (Option Value)} {oc_instruction_in kV_instruction_in dc_instruction_in pm_instruction_in cd_instruction_in ct_instruction_in : Value}
    {od_read_code an_read_code : Option Addr} {sl_read_code : Array (Option Value)} {oc_read_code kV_read_code dc_read_code pm_read_code cd_read_code ct_read_code : Value}
    {od_letters_of an_letters_of : Option Addr} {sl_letters_of : Array (Option Value)} {oc_letters_of kV_letters_of dc_letters_of pm_letters_of cd_letters_of ct_letters_of : Value}
    {od_same_but an_same_but : Option Addr} {sl_same_but : Array (Option Value)} {oc_same_but kV_same_but dc_same_but pm_same_but cd_same_but ct_same_but : Value}
    {od_check_axes an_check_axes : Option Addr} {sl_check_axes : Array (Option Value)} {oc_check_axes kV_check_axes dc_check_axes pm_check_axes cd_check_axes ct_check_axes : Value}
    {od_size_on an_size_on : Option Addr} {sl_size_on : Array (Option Value)} {oc_size_on kV_size_on dc_size_on pm_size_on cd_size_on ct_size_on : Value}
    {od_check_extents an_check_extents : Option Addr} {sl_check_extents : Array (Option Value)} {oc_check_extents kV_check_extents dc_check_extents pm_check_extents cd_check_extents ct_check_extents : Value}
    {od_within an_within : Option Addr} {sl_within : Array (Option Value)} {oc_within kV_within dc_within pm_within cd_within ct_within : Value}
    {od_check_fields an_check_fields : Option Addr} {sl_check_fields : Array (Option Value)} {oc_check_fields kV_check_fields dc_check_fields pm_check_fields cd_check_fields ct_check_fields : Value}
    {od_count_of an_count_of : Option Addr} {sl_count_of : Array (Option Value)} {oc_count_of kV_count_of dc_count_of pm_count_of cd_count_of ct_count_of : Value}
    {od_check_form an_check_form : Option Addr} {sl_check_form : Array (Option Value)} {oc_check_form kV_check_form dc_check_form pm_check_form cd_check_form ct_check_form : Value}
    {od_check_letters an_check_letters : Option Addr} {sl_check_letters : Array (Option Value)} {oc_check_letters kV_check_letters dc_check_letters pm_check_letters cd_check_letters ct_check_letters : Value}
    {od_check_shape an_check_shape : Option Addr} {sl_check_shape : Array (Option Value)} {oc_check_shape kV_check_shape dc_check_shape pm_check_shape cd_check_shape ct_check_shape : Value}
    {od_corners an_corners : Option Addr} {sl_corners : Array (Option Value)} {oc_corners kV_corners dc_corners pm_corners cd_corners ct_corners : Value}
    {od_other_span an_other_span : Option Addr} {sl_other_span : Array (Option Value)} {oc_other_span kV_other_span dc_other_span pm_other_span cd_other_span ct_other_span : Value}
    {od_limit an_limit : Option Addr} {sl_limit : Array (Option Value)} {oc_limit kV_limit dc_limit pm_limit cd_limit ct_limit : Value}
    {od_round_off an_round_off : Option Addr} {sl_round_off : Array (Option Value)} {oc_round_off kV_round_off dc_round_off pm_round_off cd_round_off ct_round_off : Value}
    {od_pointwise_span an_pointwise_span : Option Addr} {sl_pointwise_span : Array (Option Value)} {oc_pointwise_span kV_pointwise_span dc_pointwise_span pm_pointwise_span cd_pointwise_span ct_pointwise_span : Value}
    {od_spread_together an_spread_together : Option Addr} {sl_spread_together : Array (Option Value)} {oc_spread_together kV_spread_together dc_spread_together pm_spread_together cd_spread_together ct_spread_together : Value}
    {od_broadcast an_broadcast : Option Addr} {sl_broadcast : Array (Option Value)} {oc_broadcast kV_broadcast dc_broadcast pm_broadcast cd_broadcast ct_broadcast : Value}
    {od_in_place_of an_in_place_of : Option Addr} {sl_in_place_of : Array (Option Value)} {oc_in_place_of kV_in_place_of dc_in_place_of pm_in_place_of cd_in_place_of ct_in_place_of : Value}
    {od_resized an_resized : Option Addr} {sl_resized : Array (Option Value)} {oc_resized kV_resized dc_resized pm_resized cd_resized ct_resized : Value}
    {od_without an_without : Option Addr} {sl_without : Array (Option Value)} {oc_without kV_without dc_without pm_without cd_without ct_without : Value}
    {od_raw_shape an_raw_shape : Option Addr} {sl_raw_shape : Array (Option Value)} {oc_raw_shape kV_raw_shape dc_raw_shape pm_raw_shape cd_raw_shape ct_raw_shape : Value}
    {od_shape_of an_shape_of : Option Addr} {sl_shape_of : Array (Option Value)} {oc_shape_of kV_shape_of dc_shape_of pm_shape_of cd_shape_of ct_shape_of : Value}
    {od_domain_of an_domain_of : Option Addr} {sl_domain_of : Array (Option Value)} {oc_domain_of kV_domain_of dc_domain_of pm_domain_of cd_domain_of ct_domain_of : Value}
    {od_node_work an_node_work : Option Addr} {sl_node_work : Array (Option Value)} {oc_node_work kV_node_work dc_node_work pm_node_work cd_node_work ct_node_work : Value}
    {od_total_work an_total_work : Option Addr} {sl_total_work : Array (Option Value)} {oc_total_work kV_total_work dc_total_work pm_total_work cd_total_work ct_total_work : Value}
    {od_check_graph an_check_graph : Option Addr} {sl_check_graph : Array (Option Value)} {oc_check_graph kV_check_graph dc_check_graph pm_check_graph cd_check_graph ct_check_graph : Value}
    {od_letter_in an_letter_in : Option Addr} {sl_letter_in : Array (Option Value)} {oc_letter_in kV_letter_in dc_letter_in pm_letter_in cd_letter_in ct_letter_in : Value}
    {od_letters_in an_letters_in : Option Addr} {sl_letters_in : Array (Option Value)} {oc_letters_in kV_letters_in dc_letters_in pm_letters_in cd_letters_in ct_letters_in : Value}
    {od_number_in_notation an_number_in_notation : Option Addr} {sl_number_in_notation : Array (Option Value)} {oc_number_in_notation kV_number_in_notation dc_number_in_notation pm_number_in_notation cd_number_in_notation ct_number_in_notation : Value}
    {od_read_natural an_read_natural : Option Addr} {sl_read_natural : Array (Option Value)} {oc_read_natural kV_read_natural dc_read_natural pm_read_natural cd_read_natural ct_read_natural : Value}
    {od_shape_in an_shape_in : Option Addr} {sl_shape_in : Array (Option Value)} {oc_shape_in kV_shape_in dc_shape_in pm_shape_in cd_shape_in ct_shape_in : Value}
    {od_fields_in an_fields_in : Option Addr} {sl_fields_in : Array (Option Value)} {oc_fields_in kV_fields_in dc_fields_in pm_fields_in cd_fields_in ct_fields_in : Value}
    {od_node_in an_node_in : Option Addr} {sl_node_in : Array (Option Value)} {oc_node_in kV_node_in dc_node_in pm_node_in cd_node_in ct_node_in : Value}
    {od_read_graph an_read_graph : Option Addr} {sl_read_graph : Array (Option Value)} {oc_read_graph kV_read_graph dc_read_graph pm_read_graph cd_read_graph ct_read_graph : Value}
    {od__law_told an__law_told : Option Addr} {sl__law_told : Array (Option Value)} {oc__law_told kV__law_told dc__law_told pm__law_told cd__law_told ct__law_told : Value}
    {od__law_codes an__law_codes : Option Addr} {sl__law_codes : Array (Option Value)} {oc__law_codes kV__law_codes dc__law_codes pm__law_codes cd__law_codes ct__law_codes : Value}
    {od__law_graphs an__law_graphs : Option Addr} {sl__law_graphs : Array (Option Value)} {oc__law_graphs kV__law_graphs dc__law_graphs pm__law_graphs cd__law_graphs ct__law_graphs : Value}
    {od__law_lines an__law_lines : Option Addr} {sl__law_lines : Array (Option Value)} {oc__law_lines kV__law_lines dc__law_lines pm__law_lines cd__law_lines ct__law_lines : Value}
    {od__law_machines an__law_machines : Option Addr} {sl__law_machines : Array (Option Value)} {oc__law_machines kV__law_machines dc__law_machines pm__law_machines cd__law_machines ct__law_machines : Value}
    {od_law an_law : Option Addr} {sl_law : Array (Option Value)} {oc_law kV_law dc_law pm_law cd_law ct_law : Value}
    {t2 : Tok}
    {t3 : Tok}
    {t4 : Tok}
    {t5 : Tok}
    {t6 : Tok}
    {t7 : Tok}
    {t8 : Tok}
    {t9 : Tok}
    {ka1 : Addr} {ko1 : Option Addr} {kn1 : Nat} {kl1 : Array (Option Value)}
    {t10 : Tok}
    {t11 : Tok}
    {t12 : Tok}
    {t13 : Tok}
    {t14 : Tok}
    {t15 : Tok}
    {t16 : Tok}
    {t19 : Tok}
    {t20 : Tok}
    {ka18 : Addr} {ko18 : Option Addr} {kn18 : Nat} {kl18 : Array (Option Value)}
    {t22 : Tok}
    {t23 : Tok}
    {ka21 : Addr} {ko21 : Option Addr} {kn21 : Nat} {kl21 : Array (Option Value)}
    {t25 : Tok}
    {t26 : Tok}
    {ka24 : Addr} {ko24 : Option Addr} {kn24 : Nat} {kl24 : Array (Option Value)}
    {t28 : Tok}
    {t29 : Tok}
    {ka27 : Addr} {ko27 : Option Addr} {kn27 : Nat} {kl27 : Array (Option Value)}
    {t31 : Tok}
    {t32 : Tok}
    {ka30 : Addr} {ko30 : Option Addr} {kn30 : Nat} {kl30 : Array (Option Value)}
    {ka17 : Addr} {ko17 : Option Addr} {kn17 : Nat} {kl17 : Array (Option Value)}
    {t33 : Tok}
    {t34 : Tok}
    {t36 : Tok}
    {t37 : Tok}
    {t38 : Tok}
    {t39 : Tok}
    {t40 : Tok}
    {t41 : Tok}
    {t42 : Tok}
    {t43 : Tok}
    {t44 : Tok}
    {t45 : Tok}
    {t46 : Tok}
    {ka35 : Addr} {ko35 : Option Addr} {kn35 : Nat} {kl35 : Array (Option Value)}
    {t47 : Tok}
    {t48 : Tok}
    {t49 : Tok}
    {t51 : Tok}
    {t52 : Tok}
    {t53 : Tok}
    {t54 : Tok}
    {t55 : Tok}
    {t56 : Tok}
    {t57 : Tok}
    {t58 : Tok}
    {t59 : Tok}
    {t60 : Tok}
    {ka50 : Addr} {ko50 : Option Addr} {kn50 : Nat} {kl50 : Array (Option Value)}
    {t61 : Tok}
    {t62 : Tok}
    {t63 : Tok}
    {t64 : Tok}
    {t65 : Tok}
    {t66 : Tok}
    {t67 : Tok}
    {t68 : Tok}
    {t69 : Tok}
    {t70 : Tok}
    {t71 : Tok}
    {t72 : Tok}
    {t73 : Tok}
    {t74 : Tok}
    {t75 : Tok}
    {t76 : Tok}
    {t77 : Tok}
    {t78 : Tok}
    {t79 : Tok}
    {t80 : Tok}
    {t81 : Tok}
    {t82 : Tok}
    {t83 : Tok}
    {t84 : Tok}
    {t85 : Tok}
    {t86 : Tok}
    {kd_ARGS : Addr} {kn_ARGS : Nat}
    {h_ARGS_0 : _} {tk_ARGS_0 : Tok}
    {h_ARGS_1 : _} {tk_ARGS_1 : Tok}
    {h_ARGS_2 : _} {tk_ARGS_2 : Tok}
    {h_ARGS_3 : _} {tk_ARGS_3 : Tok}
    {h_ARGS_4 : _} {tk_ARGS_4 : Tok}
    {h_ARGS_5 : _} {tk_ARGS_5 : Tok}
    {h_ARGS_6 : _} {tk_ARGS_6 : Tok}
    {h_ARGS_7 : _} {tk_ARGS_7 : Tok}
    {h_ARGS_8 : _} {tk_ARGS_8 : Tok}
    {h_ARGS_9 : _} {tk_ARGS_9 : Tok}
    {h_ARGS_10 : _} {tk_ARGS_10 : Tok}
    {h_ARGS_11 : _} {tk_ARGS_11 : Tok}
    {h_ARGS_12 : _} {tk_ARGS_12 : Tok}
    {h_ARGS_13 : _} {tk_ARGS_13 : Tok}
    {h_ARGS_14 : _} {tk_ARGS_14 : Tok}
    {h_ARGS_15 : _} {tk_ARGS_15 : Tok}
    {h_ARGS_16 : _} {tk_ARGS_16 : Tok}
    {h_ARGS_17 : _} {tk_ARGS_17 : Tok}
    {h_ARGS_18 : _} {tk_ARGS_18 : Tok}
    {h_ARGS_19 : _} {tk_ARGS_19 : Tok}
    {h_ARGS_20 : _} {tk_ARGS_20 : Tok}
    {h_ARGS_21 : _} {tk_ARGS_21 : Tok}
    {h_ARGS_22 : _} {tk_ARGS_22 : Tok}
    {h_ARGS_23 : _} {tk_ARGS_23 : Tok}
    {h_ARGS_24 : _} {tk_ARGS_24 : Tok}
    {t87 : Tok}
    {t88 : Tok}
    {t89 : Tok}
    {t90 : Tok}
    {t91 : Tok}
    {t92 : Tok}
    {t93 : Tok}
    {t94 : Tok}
    {t95 : Tok}
    {t96 : Tok}
    {t97 : Tok}
    {kd_AXIS_FIELDS : Addr} {kn_AXIS_FIELDS : Nat}
    {h_AXIS_FIELDS_0 : _} {tk_AXIS_FIELDS_0 : Tok}
    {h_AXIS_FIELDS_1 : _} {tk_AXIS_FIELDS_1 : Tok}
    {h_AXIS_FIELDS_2 : _} {tk_AXIS_FIELDS_2 : Tok}
    {h_AXIS_FIELDS_3 : _} {tk_AXIS_FIELDS_3 : Tok}
    {h_AXIS_FIELDS_4 : _} {tk_AXIS_FIELDS_4 : Tok}
    {h_AXIS_FIELDS_5 : _} {tk_AXIS_FIELDS_5 : Tok}
    {h_AXIS_FIELDS_6 : _} {tk_AXIS_FIELDS_6 : Tok}
    {h_AXIS_FIELDS_7 : _} {tk_AXIS_FIELDS_7 : Tok}
    {h_AXIS_FIELDS_8 : _} {tk_AXIS_FIELDS_8 : Tok}
    {h_AXIS_FIELDS_9 : _} {tk_AXIS_FIELDS_9 : Tok}
    {h_AXIS_FIELDS_10 : _} {tk_AXIS_FIELDS_10 : Tok}
    {t98 : Tok}
    {t99 : Tok}
    {t100 : Tok}
    {t101 : Tok}
    {t102 : Tok}
    {t103 : Tok}
    {t104 : Tok}
    {t105 : Tok}
    {t106 : Tok}
    {t107 : Tok}
    {t108 : Tok}
    {t109 : Tok}
    {t110 : Tok}
    {t111 : Tok}
    {t112 : Tok}
    {t113 : Tok}
    {t114 : Tok}
    {t115 : Tok}
    {t116 : Tok}
    {t117 : Tok}
    {t118 : Tok}
    {t119 : Tok}
    {t120 : Tok}
    {t121 : Tok}
    {t122 : Tok}
    {kd_FIELDS : Addr} {kn_FIELDS : Nat}
    {h_FIELDS_0 : _} {tk_FIELDS_0 : Tok}
    {h_FIELDS_1 : _} {tk_FIELDS_1 : Tok}
    {h_FIELDS_2 : _} {tk_FIELDS_2 : Tok}
    {h_FIELDS_3 : _} {tk_FIELDS_3 : Tok}
    {h_FIELDS_4 : _} {tk_FIELDS_4 : Tok}
    {h_FIELDS_5 : _} {tk_FIELDS_5 : Tok}
    {h_FIELDS_6 : _} {tk_FIELDS_6 : Tok}
    {h_FIELDS_7 : _} {tk_FIELDS_7 : Tok}
    {h_FIELDS_8 : _} {tk_FIELDS_8 : Tok}
    {h_FIELDS_9 : _} {tk_FIELDS_9 : Tok}
    {h_FIELDS_10 : _} {tk_FIELDS_10 : Tok}
    {h_FIELDS_11 : _} {tk_FIELDS_11 : Tok}
    {h_FIELDS_12 : _} {tk_FIELDS_12 : Tok}
    {h_FIELDS_13 : _} {tk_FIELDS_13 : Tok}
    {h_FIELDS_14 : _} {tk_FIELDS_14 : Tok}
    {h_FIELDS_15 : _} {tk_FIELDS_15 : Tok}
    {h_FIELDS_16 : _} {tk_FIELDS_16 : Tok}
    {h_FIELDS_17 : _} {tk_FIELDS_17 : Tok}
    {h_FIELDS_18 : _} {tk_FIELDS_18 : Tok}
    {h_FIELDS_19 : _} {tk_FIELDS_19 : Tok}
    {h_FIELDS_20 : _} {tk_FIELDS_20 : Tok}
    {h_FIELDS_21 : _} {tk_FIELDS_21 : Tok}
    {h_FIELDS_22 : _} {tk_FIELDS_22 : Tok}
    {h_FIELDS_23 : _} {tk_FIELDS_23 : Tok}
    {h_FIELDS_24 : _} {tk_FIELDS_24 : Tok}
    {t123 : Tok}
    {t124 : Tok}
    {t125 : Tok}
    {t126 : Tok}
    {t127 : Tok}
    {t128 : Tok}
    {t129 : Tok}
    {t130 : Tok}
    {t131 : Tok}
    {t132 : Tok}
    {t133 : Tok}
    {t134 : Tok}
    {kd_LENGTHS : Addr} {kn_LENGTHS : Nat}
    {h_LENGTHS_0 : _} {tk_LENGTHS_0 : Tok}
    {h_LENGTHS_1 : _} {tk_LENGTHS_1 : Tok}
    {h_LENGTHS_2 : _} {tk_LENGTHS_2 : Tok}
    {h_LENGTHS_3 : _} {tk_LENGTHS_3 : Tok}
    {h_LENGTHS_4 : _} {tk_LENGTHS_4 : Tok}
    {h_LENGTHS_5 : _} {tk_LENGTHS_5 : Tok}
    {h_LENGTHS_6 : _} {tk_LENGTHS_6 : Tok}
    {h_LENGTHS_7 : _} {tk_LENGTHS_7 : Tok}
    {h_LENGTHS_8 : _} {tk_LENGTHS_8 : Tok}
    {h_LENGTHS_9 : _} {tk_LENGTHS_9 : Tok}
    {h_LENGTHS_10 : _} {tk_LENGTHS_10 : Tok}
    {h_LENGTHS_11 : _} {tk_LENGTHS_11 : Tok}
    {ka135 : Addr} {ko135 : Option Addr} {kn135 : Nat} {kl135 : Array (Option Value)}
    {ka136 : Addr} {ko136 : Option Addr} {kn136 : Nat} {kl136 : Array (Option Value)}
    {t138 : Tok}
    {ka137 : Addr} {ko137 : Option Addr} {kn137 : Nat} {kl137 : Array (Option Value)}
    {t140 : Tok}
    {ka139 : Addr} {ko139 : Option Addr} {kn139 : Nat} {kl139 : Array (Option Value)}
    {t142 : Tok}
    {t143 : Tok}
    {ka141 : Addr} {ko141 : Option Addr} {kn141 : Nat} {kl141 : Array (Option Value)}
    {ka144 : Addr} {ko144 : Option Addr} {kn144 : Nat} {kl144 : Array (Option Value)}
    {ka145 : Addr} {ko145 : Option Addr} {kn145 : Nat} {kl145 : Array (Option Value)}
    {ka146 : Addr} {ko146 : Option Addr} {kn146 : Nat} {kl146 : Array (Option Value)}
    {ka147 : Addr} {ko147 : Option Addr} {kn147 : Nat} {kl147 : Array (Option Value)}
    {t149 : Tok}
    {t150 : Tok}
    {ka148 : Addr} {ko148 : Option Addr} {kn148 : Nat} {kl148 : Array (Option Value)}
    {t152 : Tok}
    {t153 : Tok}
    {ka151 : Addr} {ko151 : Option Addr} {kn151 : Nat} {kl151 : Array (Option Value)}
    {ka154 : Addr} {ko154 : Option Addr} {kn154 : Nat} {kl154 : Array (Option Value)}
    {kd_OFFSETS : Addr} {kn_OFFSETS : Nat}
    {h_OFFSETS_0 : _} {tk_OFFSETS_0 : Tok}
    {h_OFFSETS_1 : _} {tk_OFFSETS_1 : Tok}
    {h_OFFSETS_2 : _} {tk_OFFSETS_2 : Tok}
    {h_OFFSETS_3 : _} {tk_OFFSETS_3 : Tok}
    {h_OFFSETS_4 : _} {tk_OFFSETS_4 : Tok}
    {h_OFFSETS_5 : _} {tk_OFFSETS_5 : Tok}
    {h_OFFSETS_6 : _} {tk_OFFSETS_6 : Tok}
    {h_OFFSETS_7 : _} {tk_OFFSETS_7 : Tok}
    {h_OFFSETS_8 : _} {tk_OFFSETS_8 : Tok}
    {h_OFFSETS_9 : _} {tk_OFFSETS_9 : Tok}
    {h_OFFSETS_10 : _} {tk_OFFSETS_10 : Tok}
    {h_OFFSETS_11 : _} {tk_OFFSETS_11 : Tok}
    {t156 : Tok}
    {ka155 : Addr} {ko155 : Option Addr} {kn155 : Nat} {kl155 : Array (Option Value)}
    {t158 : Tok}
    {ka157 : Addr} {ko157 : Option Addr} {kn157 : Nat} {kl157 : Array (Option Value)}
    {t160 : Tok}
    {t161 : Tok}
    {ka159 : Addr} {ko159 : Option Addr} {kn159 : Nat} {kl159 : Array (Option Value)}
    {t163 : Tok}
    {t164 : Tok}
    {ka162 : Addr} {ko162 : Option Addr} {kn162 : Nat} {kl162 : Array (Option Value)}
    {t166 : Tok}
    {t167 : Tok}
    {t168 : Tok}
    {ka165 : Addr} {ko165 : Option Addr} {kn165 : Nat} {kl165 : Array (Option Value)}
    {t170 : Tok}
    {t171 : Tok}
    {t172 : Tok}
    {ka169 : Addr} {ko169 : Option Addr} {kn169 : Nat} {kl169 : Array (Option Value)}
    {t174 : Tok}
    {ka173 : Addr} {ko173 : Option Addr} {kn173 : Nat} {kl173 : Array (Option Value)}
    {ka175 : Addr} {ko175 : Option Addr} {kn175 : Nat} {kl175 : Array (Option Value)}
    {t177 : Tok}
    {ka176 : Addr} {ko176 : Option Addr} {kn176 : Nat} {kl176 : Array (Option Value)}
    {t179 : Tok}
    {t180 : Tok}
    {ka178 : Addr} {ko178 : Option Addr} {kn178 : Nat} {kl178 : Array (Option Value)}
    {t182 : Tok}
    {t183 : Tok}
    {ka181 : Addr} {ko181 : Option Addr} {kn181 : Nat} {kl181 : Array (Option Value)}
    {ka184 : Addr} {ko184 : Option Addr} {kn184 : Nat} {kl184 : Array (Option Value)}
    {kd_SLOTS : Addr} {kn_SLOTS : Nat}
    {h_SLOTS_0 : _} {tk_SLOTS_0 : Tok}
    {h_SLOTS_1 : _} {tk_SLOTS_1 : Tok}
    {h_SLOTS_2 : _} {tk_SLOTS_2 : Tok}
    {h_SLOTS_3 : _} {tk_SLOTS_3 : Tok}
    {h_SLOTS_4 : _} {tk_SLOTS_4 : Tok}
    {h_SLOTS_5 : _} {tk_SLOTS_5 : Tok}
    {h_SLOTS_6 : _} {tk_SLOTS_6 : Tok}
    {h_SLOTS_7 : _} {tk_SLOTS_7 : Tok}
    {h_SLOTS_8 : _} {tk_SLOTS_8 : Tok}
    {h_SLOTS_9 : _} {tk_SLOTS_9 : Tok}
    {h_SLOTS_10 : _} {tk_SLOTS_10 : Tok}
    {h_SLOTS_11 : _} {tk_SLOTS_11 : Tok}
    (a_check_machine : PySem.W.nsIn K mainGlobals "check_machine" = some (some (.ref f_check_machine)))
    (l_check_machine : K.lookup f_check_machine = some ⟨oc_check_machine, od_check_machine, .func (PySem.W.fnOf "check_machine" "check_machine" (defArgs s_check_machine) (defBody s_check_machine) (defScope s_check_machine) .none kV_check_machine dc_check_machine pm_check_machine an_check_machine cd_check_machine ct_check_machine), sl_check_machine⟩)
    (c_check_machine : PySem.W.codeIn K cd_check_machine "check_machine" = true)
    (k_check_machine : PySem.W.keepIn K (.ref f_check_machine) = true)
    (a_check_skip : PySem.W.nsIn K mainGlobals "check_skip" = some (some (.ref f_check_skip)))
    (l_check_skip : K.lookup f_check_skip = some ⟨oc_check_skip, od_check_skip, .func (PySem.W.fnOf "check_skip" "check_skip" (defArgs s_check_skip) (defBody s_check_skip) (defScope s_check_skip) .none kV_check_skip dc_check_skip pm_check_skip an_check_skip cd_check_skip ct_check_skip), sl_check_skip⟩)
    (c_check_skip : PySem.W.codeIn K cd_check_skip "check_skip" = true)
    (k_check_skip : PySem.W.keepIn K (.ref f_check_skip) = true)
    (a_depths_of : PySem.W.nsIn K mainGlobals "depths_of" = some (some (.ref f_depths_of)))
    (l_depths_of : K.lookup f_depths_of = some ⟨oc_depths_of, od_depths_of, .func (PySem.W.fnOf "depths_of" "depths_of" (defArgs s_depths_of) (defBody s_depths_of) (defScope s_depths_of) .none kV_depths_of dc_depths_of pm_depths_of an_depths_of cd_depths_of ct_depths_of), sl_depths_of⟩)
    (c_depths_of : PySem.W.codeIn K cd_depths_of "depths_of" = true)
    (k_depths_of : PySem.W.keepIn K (.ref f_depths_of) = true)
    (a_fields_in_range : PySem.W.nsIn K mainGlobals "fields_in_range" = some (some (.ref f_fields_in_range)))
    (l_fields_in_range : K.lookup f_fields_in_range = some ⟨oc_fields_in_range, od_fields_in_range, .func (PySem.W.fnOf "fields_in_range" "fields_in_range" (defArgs s_fields_in_range) (defBody s_fields_in_range) (defScope s_fields_in_range) .none kV_fields_in_range dc_fields_in_range pm_fields_in_range an_fields_in_range cd_fields_in_range ct_fields_in_range), sl_fields_in_range⟩)
    (c_fields_in_range : PySem.W.codeIn K cd_fields_in_range "fields_in_range" = true)
    (k_fields_in_range : PySem.W.keepIn K (.ref f_fields_in_range) = true)
    (a_fits_width : PySem.W.nsIn K mainGlobals "fits_width" = some (some (.ref f_fits_width)))
    (l_fits_width : K.lookup f_fits_width = some ⟨oc_fits_width, od_fits_width, .func (PySem.W.fnOf "fits_width" "fits_width" (defArgs s_fits_width) (defBody s_fits_width) (defScope s_fits_width) .none kV_fits_width dc_fits_width pm_fits_width an_fits_width cd_fits_width ct_fits_width), sl_fits_width⟩)
    (c_fits_width : PySem.W.codeIn K cd_fits_width "fits_width" = true)
    (k_fits_width : PySem.W.keepIn K (.ref f_fits_width) = true)
    (a_loop_in_range : PySem.W.nsIn K mainGlobals "loop_in_range" = some (some (.ref f_loop_in_range)))
    (l_loop_in_range : K.lookup f_loop_in_range = some ⟨oc_loop_in_range, od_loop_in_range, .func (PySem.W.fnOf "loop_in_range" "loop_in_range" (defArgs s_loop_in_range) (defBody s_loop_in_range) (defScope s_loop_in_range) .none kV_loop_in_range dc_loop_in_range pm_loop_in_range an_loop_in_range cd_loop_in_range ct_loop_in_range), sl_loop_in_range⟩)
    (c_loop_in_range : PySem.W.codeIn K cd_loop_in_range "loop_in_range" = true)
    (k_loop_in_range : PySem.W.keepIn K (.ref f_loop_in_range) = true)
    (a_own_in_range : PySem.W.nsIn K mainGlobals "own_in_range" = some (some (.ref f_own_in_range)))
    (l_own_in_range : K.lookup f_own_in_range = some ⟨oc_own_in_range, od_own_in_range, .func (PySem.W.fnOf "own_in_range" "own_in_range" (defArgs s_own_in_range) (defBody s_own_in_range) (defScope s_own_in_range) .none kV_own_in_range dc_own_in_range pm_own_in_range an_own_in_range cd_own_in_range ct_own_in_range), sl_own_in_range⟩)
    (c_own_in_range : PySem.W.codeIn K cd_own_in_range "own_in_range" = true)
    (k_own_in_range : PySem.W.keepIn K (.ref f_own_in_range) = true)
    (a_in_range : PySem.W.nsIn K mainGlobals "in_range" = some (some (.ref f_in_range)))
    (l_in_range : K.lookup f_in_range = some ⟨oc_in_range, od_in_range, .func (PySem.W.fnOf "in_range" "in_range" (defArgs s_in_range) (defBody s_in_range) (defScope s_in_range) .none kV_in_range dc_in_range pm_in_range an_in_range cd_in_range ct_in_range), sl_in_range⟩)
    (c_in_range : PySem.W.codeIn K cd_in_range "in_range" = true)
    (k_in_range : PySem.W.keepIn K (.ref f_in_range) = true)
    (a_steps_in : PySem.W.nsIn K mainGlobals "steps_in" = some (some (.ref f_steps_in)))
    (l_steps_in : K.lookup f_steps_in = some ⟨oc_steps_in, od_steps_in, .func (PySem.W.fnOf "steps_in" "steps_in" (defArgs s_steps_in) (defBody s_steps_in) (defScope s_steps_in) .none kV_steps_in dc_steps_in pm_steps_in an_steps_in cd_steps_in ct_steps_in), sl_steps_in⟩)
    (c_steps_in : PySem.W.codeIn K cd_steps_in "steps_in" = true)
    (k_steps_in : PySem.W.keepIn K (.ref f_steps_in) = true)
    (a_well_formed : PySem.W.nsIn K mainGlobals "well_formed" = some (some (.ref f_well_formed)))
    (l_well_formed : K.lookup f_well_formed = some ⟨oc_well_formed, od_well_formed, .func (PySem.W.fnOf "well_formed" "well_formed" (defArgs s_well_formed) (defBody s_well_formed) (defScope s_well_formed) .none kV_well_formed dc_well_formed pm_well_formed an_well_formed cd_well_formed ct_well_formed), sl_well_formed⟩)
    (c_well_formed : PySem.W.codeIn K cd_well_formed "well_formed" = true)
    (k_well_formed : PySem.W.keepIn K (.ref f_well_formed) = true)
    (a_check_code : PySem.W.nsIn K mainGlobals "check_code" = some (some (.ref f_check_code)))
    (l_check_code : K.lookup f_check_code = some ⟨oc_check_code, od_check_code, .func (PySem.W.fnOf "check_code" "check_code" (defArgs s_check_code) (defBody s_check_code) (defScope s_check_code) .none kV_check_code dc_check_code pm_check_code an_check_code cd_check_code ct_check_code), sl_check_code⟩)
    (c_check_code : PySem.W.codeIn K cd_check_code "check_code" = true)
    (k_check_code : PySem.W.keepIn K (.ref f_check_code) = true)
    (a_read_integer : PySem.W.nsIn K mainGlobals "read_integer" = some (some (.ref f_read_integer)))
    (l_read_integer : K.lookup f_read_integer = some ⟨oc_read_integer, od_read_integer, .func (PySem.W.fnOf "read_integer" "read_integer" (defArgs s_read_integer) (defBody s_read_integer) (defScope s_read_integer) .none kV_read_integer dc_read_integer pm_read_integer an_read_integer cd_read_integer ct_read_integer), sl_read_integer⟩)
    (c_read_integer : PySem.W.codeIn K cd_read_integer "read_integer" = true)
    (k_read_integer : PySem.W.keepIn K (.ref f_read_integer) = true)
    (a_number_in_listing : PySem.W.nsIn K mainGlobals "number_in_listing" = some (some (.ref f_number_in_listing)))
    (l_number_in_listing : K.lookup f_number_in_listing = some ⟨oc_number_in_listing, od_number_in_listing, .func (PySem.W.fnOf "number_in" "number_in" (defArgs s_number_in_listing) (defBody s_number_in_listing) (defScope s_number_in_listing) .none kV_number_in_listing dc_number_in_listing pm_number_in_listing an_number_in_listing cd_number_in_listing ct_number_in_listing), sl_number_in_listing⟩)
    (c_number_in_listing : PySem.W.codeIn K cd_number_in_listing "number_in" = true)
    (k_number_in_listing : PySem.W.keepIn K (.ref f_number_in_listing) = true)
    (a_group_in : PySem.W.nsIn K mainGlobals "group_in" = some (some (.ref f_group_in)))
    (l_group_in : K.lookup f_group_in = some ⟨oc_group_in, od_group_in, .func (PySem.W.fnOf "group_in" "group_in" (defArgs s_group_in) (defBody s_group_in) (defScope s_group_in) .none kV_group_in dc_group_in pm_group_in an_group_in cd_group_in ct_group_in), sl_group_in⟩)
    (c_group_in : PySem.W.codeIn K cd_group_in "group_in" = true)
    (k_group_in : PySem.W.keepIn K (.ref f_group_in) = true)
    (a_kind_in : PySem.W.nsIn K mainGlobals "kind_in" = some (some (.ref f_kind_in)))
    (l_kind_in : K.lookup f_kind_in = some ⟨oc_kind_in, od_kind_in, .func (PySem.W.fnOf "kind_in" "kind_in" (defArgs s_kind_in) (defBody s_kind_in) (defScope s_kind_in) .none kV_kind_in dc_kind_in pm_kind_in an_kind_in cd_kind_in ct_kind_in), sl_kind_in⟩)
    (c_kind_in : PySem.W.codeIn K cd_kind_in "kind_in" = true)
    (k_kind_in : PySem.W.keepIn K (.ref f_kind_in) = true)
    (a_do_in : PySem.W.nsIn K mainGlobals "do_in" = some (some (.ref f_do_in)))
    (l_do_in : K.lookup f_do_in = some ⟨oc_do_in, od_do_in, .func (PySem.W.fnOf "do_in" "do_in" (defArgs s_do_in) (defBody s_do_in) (defScope s_do_in) .none kV_do_in dc_do_in pm_do_in an_do_in cd_do_in ct_do_in), sl_do_in⟩)
    (c_do_in : PySem.W.codeIn K cd_do_in "do_in" = true)
    (k_do_in : PySem.W.keepIn K (.ref f_do_in) = true)
    (a_instruction_in : PySem.W.nsIn K mainGlobals "instruction_in" = some (some (.ref f_instruction_in)))
    (l_instruction_in : K.lookup f_instruction_in = some ⟨oc_instruction_in, od_instruction_in, .func (PySem.W.fnOf "instruction_in" "instruction_in" (defArgs s_instruction_in) (defBody s_instruction_in) (defScope s_instruction_in) .none kV_instruction_in dc_instruction_in pm_instruction_in an_instruction_in cd_instruction_in ct_instruction_in), sl_instruction_in⟩)
    (c_instruction_in : PySem.W.codeIn K cd_instruction_in "instruction_in" = true)
    (k_instruction_in : PySem.W.keepIn K (.ref f_instruction_in) = true)
    (a_read_code : PySem.W.nsIn K mainGlobals "read_code" = some (some (.ref f_read_code)))
    (l_read_code : K.lookup f_read_code = some ⟨oc_read_code, od_read_code, .func (PySem.W.fnOf "read_code" "read_code" (defArgs s_read_code) (defBody s_read_code) (defScope s_read_code) .none kV_read_code dc_read_code pm_read_code an_read_code cd_read_code ct_read_code), sl_read_code⟩)
    (c_read_code : PySem.W.codeIn K cd_read_code "read_code" = true)
    (k_read_code : PySem.W.keepIn K (.ref f_read_code) = true)
    (a_letters_of : PySem.W.nsIn K mainGlobals "letters_of" = some (some (.ref f_letters_of)))
    (l_letters_of : K.lookup f_letters_of = some ⟨oc_letters_of, od_letters_of, .func (PySem.W.fnOf "letters_of" "letters_of" (defArgs s_letters_of) (defBody s_letters_of) (defScope s_letters_of) .none kV_letters_of dc_letters_of pm_letters_of an_letters_of cd_letters_of ct_letters_of), sl_letters_of⟩)
    (c_letters_of : PySem.W.codeIn K cd_letters_of "letters_of" = true)
    (k_letters_of : PySem.W.keepIn K (.ref f_letters_of) = true)
    (a_same_but : PySem.W.nsIn K mainGlobals "same_but" = some (some (.ref f_same_but)))
    (l_same_but : K.lookup f_same_but = some ⟨oc_same_but, od_same_but, .func (PySem.W.fnOf "same_but" "same_but" (defArgs s_same_but) (defBody s_same_but) (defScope s_same_but) .none kV_same_but dc_same_but pm_same_but an_same_but cd_same_but ct_same_but), sl_same_but⟩)
    (c_same_but : PySem.W.codeIn K cd_same_but "same_but" = true)
    (k_same_but : PySem.W.keepIn K (.ref f_same_but) = true)
    (a_check_axes : PySem.W.nsIn K mainGlobals "check_axes" = some (some (.ref f_check_axes)))
    (l_check_axes : K.lookup f_check_axes = some ⟨oc_check_axes, od_check_axes, .func (PySem.W.fnOf "check_axes" "check_axes" (defArgs s_check_axes) (defBody s_check_axes) (defScope s_check_axes) .none kV_check_axes dc_check_axes pm_check_axes an_check_axes cd_check_axes ct_check_axes), sl_check_axes⟩)
    (c_check_axes : PySem.W.codeIn K cd_check_axes "check_axes" = true)
    (k_check_axes : PySem.W.keepIn K (.ref f_check_axes) = true)
    (a_size_on : PySem.W.nsIn K mainGlobals "size_on" = some (some (.ref f_size_on)))
    (l_size_on : K.lookup f_size_on = some ⟨oc_size_on, od_size_on, .func (PySem.W.fnOf "size_on" "size_on" (defArgs s_size_on) (defBody s_size_on) (defScope s_size_on) .none kV_size_on dc_size_on pm_size_on an_size_on cd_size_on ct_size_on), sl_size_on⟩)
    (c_size_on : PySem.W.codeIn K cd_size_on "size_on" = true)
    (k_size_on : PySem.W.keepIn K (.ref f_size_on) = true)
    (a_check_extents : PySem.W.nsIn K mainGlobals "check_extents" = some (some (.ref f_check_extents)))
    (l_check_extents : K.lookup f_check_extents = some ⟨oc_check_extents, od_check_extents, .func (PySem.W.fnOf "check_extents" "check_extents" (defArgs s_check_extents) (defBody s_check_extents) (defScope s_check_extents) .none kV_check_extents dc_check_extents pm_check_extents an_check_extents cd_check_extents ct_check_extents), sl_check_extents⟩)
    (c_check_extents : PySem.W.codeIn K cd_check_extents "check_extents" = true)
    (k_check_extents : PySem.W.keepIn K (.ref f_check_extents) = true)
    (a_within : PySem.W.nsIn K mainGlobals "within" = some (some (.ref f_within)))
    (l_within : K.lookup f_within = some ⟨oc_within, od_within, .func (PySem.W.fnOf "within" "within" (defArgs s_within) (defBody s_within) (defScope s_within) .none kV_within dc_within pm_within an_within cd_within ct_within), sl_within⟩)
    (c_within : PySem.W.codeIn K cd_within "within" = true)
    (k_within : PySem.W.keepIn K (.ref f_within) = true)
    (a_check_fields : PySem.W.nsIn K mainGlobals "check_fields" = some (some (.ref f_check_fields)))
    (l_check_fields : K.lookup f_check_fields = some ⟨oc_check_fields, od_check_fields, .func (PySem.W.fnOf "check_fields" "check_fields" (defArgs s_check_fields) (defBody s_check_fields) (defScope s_check_fields) .none kV_check_fields dc_check_fields pm_check_fields an_check_fields cd_check_fields ct_check_fields), sl_check_fields⟩)
    (c_check_fields : PySem.W.codeIn K cd_check_fields "check_fields" = true)
    (k_check_fields : PySem.W.keepIn K (.ref f_check_fields) = true)
    (a_count_of : PySem.W.nsIn K mainGlobals "count_of" = some (some (.ref f_count_of)))
    (l_count_of : K.lookup f_count_of = some ⟨oc_count_of, od_count_of, .func (PySem.W.fnOf "count_of" "count_of" (defArgs s_count_of) (defBody s_count_of) (defScope s_count_of) .none kV_count_of dc_count_of pm_count_of an_count_of cd_count_of ct_count_of), sl_count_of⟩)
    (c_count_of : PySem.W.codeIn K cd_count_of "count_of" = true)
    (k_count_of : PySem.W.keepIn K (.ref f_count_of) = true)
    (a_check_form : PySem.W.nsIn K mainGlobals "check_form" = some (some (.ref f_check_form)))
    (l_check_form : K.lookup f_check_form = some ⟨oc_check_form, od_check_form, .func (PySem.W.fnOf "check_form" "check_form" (defArgs s_check_form) (defBody s_check_form) (defScope s_check_form) .none kV_check_form dc_check_form pm_check_form an_check_form cd_check_form ct_check_form), sl_check_form⟩)
    (c_check_form : PySem.W.codeIn K cd_check_form "check_form" = true)
    (k_check_form : PySem.W.keepIn K (.ref f_check_form) = true)
    (a_check_letters : PySem.W.nsIn K mainGlobals "check_letters" = some (some (.ref f_check_letters)))
    (l_check_letters : K.lookup f_check_letters = some ⟨oc_check_letters, od_check_letters, .func (PySem.W.fnOf "check_letters" "check_letters" (defArgs s_check_letters) (defBody s_check_letters) (defScope s_check_letters) .none kV_check_letters dc_check_letters pm_check_letters an_check_letters cd_check_letters ct_check_letters), sl_check_letters⟩)
    (c_check_letters : PySem.W.codeIn K cd_check_letters "check_letters" = true)
    (k_check_letters : PySem.W.keepIn K (.ref f_check_letters) = true)
    (a_check_shape : PySem.W.nsIn K mainGlobals "check_shape" = some (some (.ref f_check_shape)))
    (l_check_shape : K.lookup f_check_shape = some ⟨oc_check_shape, od_check_shape, .func (PySem.W.fnOf "check_shape" "check_shape" (defArgs s_check_shape) (defBody s_check_shape) (defScope s_check_shape) .none kV_check_shape dc_check_shape pm_check_shape an_check_shape cd_check_shape ct_check_shape), sl_check_shape⟩)
    (c_check_shape : PySem.W.codeIn K cd_check_shape "check_shape" = true)
    (k_check_shape : PySem.W.keepIn K (.ref f_check_shape) = true)
    (a_corners : PySem.W.nsIn K mainGlobals "corners" = some (some (.ref f_corners)))
    (l_corners : K.lookup f_corners = some ⟨oc_corners, od_corners, .func (PySem.W.fnOf "corners" "corners" (defArgs s_corners) (defBody s_corners) (defScope s_corners) .none kV_corners dc_corners pm_corners an_corners cd_corners ct_corners), sl_corners⟩)
    (c_corners : PySem.W.codeIn K cd_corners "corners" = true)
    (k_corners : PySem.W.keepIn K (.ref f_corners) = true)
    (a_other_span : PySem.W.nsIn K mainGlobals "other_span" = some (some (.ref f_other_span)))
    (l_other_span : K.lookup f_other_span = some ⟨oc_other_span, od_other_span, .func (PySem.W.fnOf "other_span" "other_span" (defArgs s_other_span) (defBody s_other_span) (defScope s_other_span) .none kV_other_span dc_other_span pm_other_span an_other_span cd_other_span ct_other_span), sl_other_span⟩)
    (c_other_span : PySem.W.codeIn K cd_other_span "other_span" = true)
    (k_other_span : PySem.W.keepIn K (.ref f_other_span) = true)
    (a_limit : PySem.W.nsIn K mainGlobals "limit" = some (some (.ref f_limit)))
    (l_limit : K.lookup f_limit = some ⟨oc_limit, od_limit, .func (PySem.W.fnOf "limit" "limit" (defArgs s_limit) (defBody s_limit) (defScope s_limit) .none kV_limit dc_limit pm_limit an_limit cd_limit ct_limit), sl_limit⟩)
    (c_limit : PySem.W.codeIn K cd_limit "limit" = true)
    (k_limit : PySem.W.keepIn K (.ref f_limit) = true)
    (a_round_off : PySem.W.nsIn K mainGlobals "round_off" = some (some (.ref f_round_off)))
    (l_round_off : K.lookup f_round_off = some ⟨oc_round_off, od_round_off, .func (PySem.W.fnOf "round_off" "round_off" (defArgs s_round_off) (defBody s_round_off) (defScope s_round_off) .none kV_round_off dc_round_off pm_round_off an_round_off cd_round_off ct_round_off), sl_round_off⟩)
    (c_round_off : PySem.W.codeIn K cd_round_off "round_off" = true)
    (k_round_off : PySem.W.keepIn K (.ref f_round_off) = true)
    (a_pointwise_span : PySem.W.nsIn K mainGlobals "pointwise_span" = some (some (.ref f_pointwise_span)))
    (l_pointwise_span : K.lookup f_pointwise_span = some ⟨oc_pointwise_span, od_pointwise_span, .func (PySem.W.fnOf "pointwise_span" "pointwise_span" (defArgs s_pointwise_span) (defBody s_pointwise_span) (defScope s_pointwise_span) .none kV_pointwise_span dc_pointwise_span pm_pointwise_span an_pointwise_span cd_pointwise_span ct_pointwise_span), sl_pointwise_span⟩)
    (c_pointwise_span : PySem.W.codeIn K cd_pointwise_span "pointwise_span" = true)
    (k_pointwise_span : PySem.W.keepIn K (.ref f_pointwise_span) = true)
    (a_spread_together : PySem.W.nsIn K mainGlobals "spread_together" = some (some (.ref f_spread_together)))
    (l_spread_together : K.lookup f_spread_together = some ⟨oc_spread_together, od_spread_together, .func (PySem.W.fnOf "spread_together" "spread_together" (defArgs s_spread_together) (defBody s_spread_together) (defScope s_spread_together) .none kV_spread_together dc_spread_together pm_spread_together an_spread_together cd_spread_together ct_spread_together), sl_spread_together⟩)
    (c_spread_together : PySem.W.codeIn K cd_spread_together "spread_together" = true)
    (k_spread_together : PySem.W.keepIn K (.ref f_spread_together) = true)
    (a_broadcast : PySem.W.nsIn K mainGlobals "broadcast" = some (some (.ref f_broadcast)))
    (l_broadcast : K.lookup f_broadcast = some ⟨oc_broadcast, od_broadcast, .func (PySem.W.fnOf "broadcast" "broadcast" (defArgs s_broadcast) (defBody s_broadcast) (defScope s_broadcast) .none kV_broadcast dc_broadcast pm_broadcast an_broadcast cd_broadcast ct_broadcast), sl_broadcast⟩)
    (c_broadcast : PySem.W.codeIn K cd_broadcast "broadcast" = true)
    (k_broadcast : PySem.W.keepIn K (.ref f_broadcast) = true)
    (a_in_place_of : PySem.W.nsIn K mainGlobals "in_place_of" = some (some (.ref f_in_place_of)))
    (l_in_place_of : K.lookup f_in_place_of = some ⟨oc_in_place_of, od_in_place_of, .func (PySem.W.fnOf "in_place_of" "in_place_of" (defArgs s_in_place_of) (defBody s_in_place_of) (defScope s_in_place_of) .none kV_in_place_of dc_in_place_of pm_in_place_of an_in_place_of cd_in_place_of ct_in_place_of), sl_in_place_of⟩)
    (c_in_place_of : PySem.W.codeIn K cd_in_place_of "in_place_of" = true)
    (k_in_place_of : PySem.W.keepIn K (.ref f_in_place_of) = true)
    (a_resized : PySem.W.nsIn K mainGlobals "resized" = some (some (.ref f_resized)))
    (l_resized : K.lookup f_resized = some ⟨oc_resized, od_resized, .func (PySem.W.fnOf "resized" "resized" (defArgs s_resized) (defBody s_resized) (defScope s_resized) .none kV_resized dc_resized pm_resized an_resized cd_resized ct_resized), sl_resized⟩)
    (c_resized : PySem.W.codeIn K cd_resized "resized" = true)
    (k_resized : PySem.W.keepIn K (.ref f_resized) = true)
    (a_without : PySem.W.nsIn K mainGlobals "without" = some (some (.ref f_without)))
    (l_without : K.lookup f_without = some ⟨oc_without, od_without, .func (PySem.W.fnOf "without" "without" (defArgs s_without) (defBody s_without) (defScope s_without) .none kV_without dc_without pm_without an_without cd_without ct_without), sl_without⟩)
    (c_without : PySem.W.codeIn K cd_without "without" = true)
    (k_without : PySem.W.keepIn K (.ref f_without) = true)
    (a_raw_shape : PySem.W.nsIn K mainGlobals "raw_shape" = some (some (.ref f_raw_shape)))
    (l_raw_shape : K.lookup f_raw_shape = some ⟨oc_raw_shape, od_raw_shape, .func (PySem.W.fnOf "raw_shape" "raw_shape" (defArgs s_raw_shape) (defBody s_raw_shape) (defScope s_raw_shape) .none kV_raw_shape dc_raw_shape pm_raw_shape an_raw_shape cd_raw_shape ct_raw_shape), sl_raw_shape⟩)
    (c_raw_shape : PySem.W.codeIn K cd_raw_shape "raw_shape" = true)
    (k_raw_shape : PySem.W.keepIn K (.ref f_raw_shape) = true)
    (a_shape_of : PySem.W.nsIn K mainGlobals "shape_of" = some (some (.ref f_shape_of)))
    (l_shape_of : K.lookup f_shape_of = some ⟨oc_shape_of, od_shape_of, .func (PySem.W.fnOf "shape_of" "shape_of" (defArgs s_shape_of) (defBody s_shape_of) (defScope s_shape_of) .none kV_shape_of dc_shape_of pm_shape_of an_shape_of cd_shape_of ct_shape_of), sl_shape_of⟩)
    (c_shape_of : PySem.W.codeIn K cd_shape_of "shape_of" = true)
    (k_shape_of : PySem.W.keepIn K (.ref f_shape_of) = true)
    (a_domain_of : PySem.W.nsIn K mainGlobals "domain_of" = some (some (.ref f_domain_of)))
    (l_domain_of : K.lookup f_domain_of = some ⟨oc_domain_of, od_domain_of, .func (PySem.W.fnOf "domain_of" "domain_of" (defArgs s_domain_of) (defBody s_domain_of) (defScope s_domain_of) .none kV_domain_of dc_domain_of pm_domain_of an_domain_of cd_domain_of ct_domain_of), sl_domain_of⟩)
    (c_domain_of : PySem.W.codeIn K cd_domain_of "domain_of" = true)
    (k_domain_of : PySem.W.keepIn K (.ref f_domain_of) = true)
    (a_node_work : PySem.W.nsIn K mainGlobals "node_work" = some (some (.ref f_node_work)))
    (l_node_work : K.lookup f_node_work = some ⟨oc_node_work, od_node_work, .func (PySem.W.fnOf "node_work" "node_work" (defArgs s_node_work) (defBody s_node_work) (defScope s_node_work) .none kV_node_work dc_node_work pm_node_work an_node_work cd_node_work ct_node_work), sl_node_work⟩)
    (c_node_work : PySem.W.codeIn K cd_node_work "node_work" = true)
    (k_node_work : PySem.W.keepIn K (.ref f_node_work) = true)
    (a_total_work : PySem.W.nsIn K mainGlobals "total_work" = some (some (.ref f_total_work)))
    (l_total_work : K.lookup f_total_work = some ⟨oc_total_work, od_total_work, .func (PySem.W.fnOf "total_work" "total_work" (defArgs s_total_work) (defBody s_total_work) (defScope s_total_work) .none kV_total_work dc_total_work pm_total_work an_total_work cd_total_work ct_total_work), sl_total_work⟩)
    (c_total_work : PySem.W.codeIn K cd_total_work "total_work" = true)
    (k_total_work : PySem.W.keepIn K (.ref f_total_work) = true)
    (a_check_graph : PySem.W.nsIn K mainGlobals "check_graph" = some (some (.ref f_check_graph)))
    (l_check_graph : K.lookup f_check_graph = some ⟨oc_check_graph, od_check_graph, .func (PySem.W.fnOf "check_graph" "check_graph" (defArgs s_check_graph) (defBody s_check_graph) (defScope s_check_graph) .none kV_check_graph dc_check_graph pm_check_graph an_check_graph cd_check_graph ct_check_graph), sl_check_graph⟩)
    (c_check_graph : PySem.W.codeIn K cd_check_graph "check_graph" = true)
    (k_check_graph : PySem.W.keepIn K (.ref f_check_graph) = true)
    (a_letter_in : PySem.W.nsIn K mainGlobals "letter_in" = some (some (.ref f_letter_in)))
    (l_letter_in : K.lookup f_letter_in = some ⟨oc_letter_in, od_letter_in, .func (PySem.W.fnOf "letter_in" "letter_in" (defArgs s_letter_in) (defBody s_letter_in) (defScope s_letter_in) .none kV_letter_in dc_letter_in pm_letter_in an_letter_in cd_letter_in ct_letter_in), sl_letter_in⟩)
    (c_letter_in : PySem.W.codeIn K cd_letter_in "letter_in" = true)
    (k_letter_in : PySem.W.keepIn K (.ref f_letter_in) = true)
    (a_letters_in : PySem.W.nsIn K mainGlobals "letters_in" = some (some (.ref f_letters_in)))
    (l_letters_in : K.lookup f_letters_in = some ⟨oc_letters_in, od_letters_in, .func (PySem.W.fnOf "letters_in" "letters_in" (defArgs s_letters_in) (defBody s_letters_in) (defScope s_letters_in) .none kV_letters_in dc_letters_in pm_letters_in an_letters_in cd_letters_in ct_letters_in), sl_letters_in⟩)
    (c_letters_in : PySem.W.codeIn K cd_letters_in "letters_in" = true)
    (k_letters_in : PySem.W.keepIn K (.ref f_letters_in) = true)
    (a_number_in_notation : PySem.W.nsIn K mainGlobals "number_in_notation" = some (some (.ref f_number_in_notation)))
    (l_number_in_notation : K.lookup f_number_in_notation = some ⟨oc_number_in_notation, od_number_in_notation, .func (PySem.W.fnOf "number_in" "number_in" (defArgs s_number_in_notation) (defBody s_number_in_notation) (defScope s_number_in_notation) .none kV_number_in_notation dc_number_in_notation pm_number_in_notation an_number_in_notation cd_number_in_notation ct_number_in_notation), sl_number_in_notation⟩)
    (c_number_in_notation : PySem.W.codeIn K cd_number_in_notation "number_in" = true)
    (k_number_in_notation : PySem.W.keepIn K (.ref f_number_in_notation) = true)
    (a_read_natural : PySem.W.nsIn K mainGlobals "read_natural" = some (some (.ref f_read_natural)))
    (l_read_natural : K.lookup f_read_natural = some ⟨oc_read_natural, od_read_natural, .func (PySem.W.fnOf "read_natural" "read_natural" (defArgs s_read_natural) (defBody s_read_natural) (defScope s_read_natural) .none kV_read_natural dc_read_natural pm_read_natural an_read_natural cd_read_natural ct_read_natural), sl_read_natural⟩)
    (c_read_natural : PySem.W.codeIn K cd_read_natural "read_natural" = true)
    (k_read_natural : PySem.W.keepIn K (.ref f_read_natural) = true)
    (a_shape_in : PySem.W.nsIn K mainGlobals "shape_in" = some (some (.ref f_shape_in)))
    (l_shape_in : K.lookup f_shape_in = some ⟨oc_shape_in, od_shape_in, .func (PySem.W.fnOf "shape_in" "shape_in" (defArgs s_shape_in) (defBody s_shape_in) (defScope s_shape_in) .none kV_shape_in dc_shape_in pm_shape_in an_shape_in cd_shape_in ct_shape_in), sl_shape_in⟩)
    (c_shape_in : PySem.W.codeIn K cd_shape_in "shape_in" = true)
    (k_shape_in : PySem.W.keepIn K (.ref f_shape_in) = true)
    (a_fields_in : PySem.W.nsIn K mainGlobals "fields_in" = some (some (.ref f_fields_in)))
    (l_fields_in : K.lookup f_fields_in = some ⟨oc_fields_in, od_fields_in, .func (PySem.W.fnOf "fields_in" "fields_in" (defArgs s_fields_in) (defBody s_fields_in) (defScope s_fields_in) .none kV_fields_in dc_fields_in pm_fields_in an_fields_in cd_fields_in ct_fields_in), sl_fields_in⟩)
    (c_fields_in : PySem.W.codeIn K cd_fields_in "fields_in" = true)
    (k_fields_in : PySem.W.keepIn K (.ref f_fields_in) = true)
    (a_node_in : PySem.W.nsIn K mainGlobals "node_in" = some (some (.ref f_node_in)))
    (l_node_in : K.lookup f_node_in = some ⟨oc_node_in, od_node_in, .func (PySem.W.fnOf "node_in" "node_in" (defArgs s_node_in) (defBody s_node_in) (defScope s_node_in) .none kV_node_in dc_node_in pm_node_in an_node_in cd_node_in ct_node_in), sl_node_in⟩)
    (c_node_in : PySem.W.codeIn K cd_node_in "node_in" = true)
    (k_node_in : PySem.W.keepIn K (.ref f_node_in) = true)
    (a_read_graph : PySem.W.nsIn K mainGlobals "read_graph" = some (some (.ref f_read_graph)))
    (l_read_graph : K.lookup f_read_graph = some ⟨oc_read_graph, od_read_graph, .func (PySem.W.fnOf "read_graph" "read_graph" (defArgs s_read_graph) (defBody s_read_graph) (defScope s_read_graph) .none kV_read_graph dc_read_graph pm_read_graph an_read_graph cd_read_graph ct_read_graph), sl_read_graph⟩)
    (c_read_graph : PySem.W.codeIn K cd_read_graph "read_graph" = true)
    (k_read_graph : PySem.W.keepIn K (.ref f_read_graph) = true)
    (a__law_told : PySem.W.nsIn K mainGlobals "_law_told" = some (some (.ref f__law_told)))
    (l__law_told : K.lookup f__law_told = some ⟨oc__law_told, od__law_told, .func (PySem.W.fnOf "_law_told" "_law_told" (defArgs s__law_told) (defBody s__law_told) (defScope s__law_told) .none kV__law_told dc__law_told pm__law_told an__law_told cd__law_told ct__law_told), sl__law_told⟩)
    (c__law_told : PySem.W.codeIn K cd__law_told "_law_told" = true)
    (k__law_told : PySem.W.keepIn K (.ref f__law_told) = true)
    (a__law_codes : PySem.W.nsIn K mainGlobals "_law_codes" = some (some (.ref f__law_codes)))
    (l__law_codes : K.lookup f__law_codes = some ⟨oc__law_codes, od__law_codes, .func (PySem.W.fnOf "_law_codes" "_law_codes" (defArgs s__law_codes) (defBody s__law_codes) (defScope s__law_codes) .none kV__law_codes dc__law_codes pm__law_codes an__law_codes cd__law_codes ct__law_codes), sl__law_codes⟩)
    (c__law_codes : PySem.W.codeIn K cd__law_codes "_law_codes" = true)
    (k__law_codes : PySem.W.keepIn K (.ref f__law_codes) = true)
    (a__law_graphs : PySem.W.nsIn K mainGlobals "_law_graphs" = some (some (.ref f__law_graphs)))
    (l__law_graphs : K.lookup f__law_graphs = some ⟨oc__law_graphs, od__law_graphs, .func (PySem.W.fnOf "_law_graphs" "_law_graphs" (defArgs s__law_graphs) (defBody s__law_graphs) (defScope s__law_graphs) .none kV__law_graphs dc__law_graphs pm__law_graphs an__law_graphs cd__law_graphs ct__law_graphs), sl__law_graphs⟩)
    (c__law_graphs : PySem.W.codeIn K cd__law_graphs "_law_graphs" = true)
    (k__law_graphs : PySem.W.keepIn K (.ref f__law_graphs) = true)
    (a__law_lines : PySem.W.nsIn K mainGlobals "_law_lines" = some (some (.ref f__law_lines)))
    (l__law_lines : K.lookup f__law_lines = some ⟨oc__law_lines, od__law_lines, .func (PySem.W.fnOf "_law_lines" "_law_lines" (defArgs s__law_lines) (defBody s__law_lines) (defScope s__law_lines) .none kV__law_lines dc__law_lines pm__law_lines an__law_lines cd__law_lines ct__law_lines), sl__law_lines⟩)
    (c__law_lines : PySem.W.codeIn K cd__law_lines "_law_lines" = true)
    (k__law_lines : PySem.W.keepIn K (.ref f__law_lines) = true)
    (a__law_machines : PySem.W.nsIn K mainGlobals "_law_machines" = some (some (.ref f__law_machines)))
    (l__law_machines : K.lookup f__law_machines = some ⟨oc__law_machines, od__law_machines, .func (PySem.W.fnOf "_law_machines" "_law_machines" (defArgs s__law_machines) (defBody s__law_machines) (defScope s__law_machines) .none kV__law_machines dc__law_machines pm__law_machines an__law_machines cd__law_machines ct__law_machines), sl__law_machines⟩)
    (c__law_machines : PySem.W.codeIn K cd__law_machines "_law_machines" = true)
    (k__law_machines : PySem.W.keepIn K (.ref f__law_machines) = true)
    (a_law : PySem.W.nsIn K mainGlobals "law" = some (some (.ref f_law)))
    (l_law : K.lookup f_law = some ⟨oc_law, od_law, .func (PySem.W.fnOf "law" "law" (defArgs s_law) (defBody s_law) (defScope s_law) .none kV_law dc_law pm_law an_law cd_law ct_law), sl_law⟩)
    (c_law : PySem.W.codeIn K cd_law "law" = true)
    (k_law : PySem.W.keepIn K (.ref f_law) = true)
    (z_abs : PySem.W.nsIn K mainGlobals "abs" = some none)
    (z_all : PySem.W.nsIn K mainGlobals "all" = some none)
    (z_any : PySem.W.nsIn K mainGlobals "any" = some none)
    (z_int : PySem.W.nsIn K mainGlobals "int" = some none)
    (z_isinstance : PySem.W.nsIn K mainGlobals "isinstance" = some none)
    (z_len : PySem.W.nsIn K mainGlobals "len" = some none)
    (z_list : PySem.W.nsIn K mainGlobals "list" = some none)
    (z_max : PySem.W.nsIn K mainGlobals "max" = some none)
    (z_min : PySem.W.nsIn K mainGlobals "min" = some none)
    (z_range : PySem.W.nsIn K mainGlobals "range" = some none)
    (z_sorted : PySem.W.nsIn K mainGlobals "sorted" = some none)
    (z_tuple : PySem.W.nsIn K mainGlobals "tuple" = some none)
    (ca_AxisError : PySem.W.nsIn K mainGlobals "AxisError" = some (some (.ref C_AxisError)))
    (ce_AxisError : PySem.W.excIn K C_AxisError [.type "ValueError", .type "Exception", .type "BaseException", .type "object"] "ValueError.__new__" = true)
    (ck_AxisError : PySem.W.keepIn K (.ref C_AxisError) = true)
    (cs_AxisError : PySem.W.subIn K (.ref C_AxisError) (.type "BaseException") = some true)
    (ct_AxisError : PySem.W.typeIn K (.ref C_AxisError) = some (.type "type"))
    (cg_AxisError : PySem.W.findIn K (.ref C_AxisError) "__getattribute__" = some (some (.builtin "BaseException.__getattribute__")))
    (ch_AxisError : PySem.W.findIn K (.ref C_AxisError) "__getattr__" = some none)
    (cd_AxisError : PySem.W.hasDictIn K C_AxisError = true)
    (cc_AxisError : PySem.W.findIn K (.ref C_AxisError) "__class__" = some (some (.builtin "object.__class__")))
    (cm_AxisError : PySem.W.mroIn K C_AxisError (.type "object") = some true)
    (ca_FormError : PySem.W.nsIn K mainGlobals "FormError" = some (some (.ref C_FormError)))
    (ce_FormError : PySem.W.excIn K C_FormError [.type "ValueError", .type "Exception", .type "BaseException", .type "object"] "ValueError.__new__" = true)
    (ck_FormError : PySem.W.keepIn K (.ref C_FormError) = true)
    (cs_FormError : PySem.W.subIn K (.ref C_FormError) (.type "BaseException") = some true)
    (ct_FormError : PySem.W.typeIn K (.ref C_FormError) = some (.type "type"))
    (cg_FormError : PySem.W.findIn K (.ref C_FormError) "__getattribute__" = some (some (.builtin "BaseException.__getattribute__")))
    (ch_FormError : PySem.W.findIn K (.ref C_FormError) "__getattr__" = some none)
    (cd_FormError : PySem.W.hasDictIn K C_FormError = true)
    (cc_FormError : PySem.W.findIn K (.ref C_FormError) "__class__" = some (some (.builtin "object.__class__")))
    (cm_FormError : PySem.W.mroIn K C_FormError (.type "object") = some true)
    (ca_KindError : PySem.W.nsIn K mainGlobals "KindError" = some (some (.ref C_KindError)))
    (ce_KindError : PySem.W.excIn K C_KindError [.type "ValueError", .type "Exception", .type "BaseException", .type "object"] "ValueError.__new__" = true)
    (ck_KindError : PySem.W.keepIn K (.ref C_KindError) = true)
    (cs_KindError : PySem.W.subIn K (.ref C_KindError) (.type "BaseException") = some true)
    (ct_KindError : PySem.W.typeIn K (.ref C_KindError) = some (.type "type"))
    (cg_KindError : PySem.W.findIn K (.ref C_KindError) "__getattribute__" = some (some (.builtin "BaseException.__getattribute__")))
    (ch_KindError : PySem.W.findIn K (.ref C_KindError) "__getattr__" = some none)
    (cd_KindError : PySem.W.hasDictIn K C_KindError = true)
    (cc_KindError : PySem.W.findIn K (.ref C_KindError) "__class__" = some (some (.builtin "object.__class__")))
    (cm_KindError : PySem.W.mroIn K C_KindError (.type "object") = some true)
    (ca_MachineError : PySem.W.nsIn K mainGlobals "MachineError" = some (some (.ref C_MachineError)))
    (ce_MachineError : PySem.W.excIn K C_MachineError [.type "ValueError", .type "Exception", .type "BaseException", .type "object"] "ValueError.__new__" = true)
    (ck_MachineError : PySem.W.keepIn K (.ref C_MachineError) = true)
    (cs_MachineError : PySem.W.subIn K (.ref C_MachineError) (.type "BaseException") = some true)
    (ct_MachineError : PySem.W.typeIn K (.ref C_MachineError) = some (.type "type"))
    (cg_MachineError : PySem.W.findIn K (.ref C_MachineError) "__getattribute__" = some (some (.builtin "BaseException.__getattribute__")))
    (ch_MachineError : PySem.W.findIn K (.ref C_MachineError) "__getattr__" = some none)
    (cd_MachineError : PySem.W.hasDictIn K C_MachineError = true)
    (cc_MachineError : PySem.W.findIn K (.ref C_MachineError) "__class__" = some (some (.builtin "object.__class__")))
    (cm_MachineError : PySem.W.mroIn K C_MachineError (.type "object") = some true)
    (ca_RangeError : PySem.W.nsIn K mainGlobals "RangeError" = some (some (.ref C_RangeError)))
    (ce_RangeError : PySem.W.excIn K C_RangeError [.type "ValueError", .type "Exception", .type "BaseException", .type "object"] "ValueError.__new__" = true)
    (ck_RangeError : PySem.W.keepIn K (.ref C_RangeError) = true)
    (cs_RangeError : PySem.W.subIn K (.ref C_RangeError) (.type "BaseException") = some true)
    (ct_RangeError : PySem.W.typeIn K (.ref C_RangeError) = some (.type "type"))
    (cg_RangeError : PySem.W.findIn K (.ref C_RangeError) "__getattribute__" = some (some (.builtin "BaseException.__getattribute__")))
    (ch_RangeError : PySem.W.findIn K (.ref C_RangeError) "__getattr__" = some none)
    (cd_RangeError : PySem.W.hasDictIn K C_RangeError = true)
    (cc_RangeError : PySem.W.findIn K (.ref C_RangeError) "__class__" = some (some (.builtin "object.__class__")))
    (cm_RangeError : PySem.W.mroIn K C_RangeError (.type "object") = some true)
    (ca_RankError : PySem.W.nsIn K mainGlobals "RankError" = some (some (.ref C_RankError)))
    (ce_RankError : PySem.W.excIn K C_RankError [.type "ValueError", .type "Exception", .type "BaseException", .type "object"] "ValueError.__new__" = true)
    (ck_RankError : PySem.W.keepIn K (.ref C_RankError) = true)
    (cs_RankError : PySem.W.subIn K (.ref C_RankError) (.type "BaseException") = some true)
    (ct_RankError : PySem.W.typeIn K (.ref C_RankError) = some (.type "type"))
    (cg_RankError : PySem.W.findIn K (.ref C_RankError) "__getattribute__" = some (some (.builtin "BaseException.__getattribute__")))
    (ch_RankError : PySem.W.findIn K (.ref C_RankError) "__getattr__" = some none)
    (cd_RankError : PySem.W.hasDictIn K C_RankError = true)
    (cc_RankError : PySem.W.findIn K (.ref C_RankError) "__class__" = some (some (.builtin "object.__class__")))
    (cm_RankError : PySem.W.mroIn K C_RankError (.type "object") = some true)
    (ca_TensorError : PySem.W.nsIn K mainGlobals "TensorError" = some (some (.ref C_TensorError)))
    (ce_TensorError : PySem.W.excIn K C_TensorError [.type "ValueError", .type "Exception", .type "BaseException", .type "object"] "ValueError.__new__" = true)
    (ck_TensorError : PySem.W.keepIn K (.ref C_TensorError) = true)
    (cs_TensorError : PySem.W.subIn K (.ref C_TensorError) (.type "BaseException") = some true)
    (ct_TensorError : PySem.W.typeIn K (.ref C_TensorError) = some (.type "type"))
    (cg_TensorError : PySem.W.findIn K (.ref C_TensorError) "__getattribute__" = some (some (.builtin "BaseException.__getattribute__")))
    (ch_TensorError : PySem.W.findIn K (.ref C_TensorError) "__getattr__" = some none)
    (cd_TensorError : PySem.W.hasDictIn K C_TensorError = true)
    (cc_TensorError : PySem.W.findIn K (.ref C_TensorError) "__class__" = some (some (.builtin "object.__class__")))
    (cm_TensorError : PySem.W.mroIn K C_TensorError (.type "object") = some true)
    (ca_TextError : PySem.W.nsIn K mainGlobals "TextError" = some (some (.ref C_TextError)))
    (ce_TextError : PySem.W.excIn K C_TextError [.type "ValueError", .type "Exception", .type "BaseException", .type "object"] "ValueError.__new__" = true)
    (ck_TextError : PySem.W.keepIn K (.ref C_TextError) = true)
    (cs_TextError : PySem.W.subIn K (.ref C_TextError) (.type "BaseException") = some true)
    (ct_TextError : PySem.W.typeIn K (.ref C_TextError) = some (.type "type"))
    (cg_TextError : PySem.W.findIn K (.ref C_TextError) "__getattribute__" = some (some (.builtin "BaseException.__getattribute__")))
    (ch_TextError : PySem.W.findIn K (.ref C_TextError) "__getattr__" = some none)
    (cd_TextError : PySem.W.hasDictIn K C_TextError = true)
    (cc_TextError : PySem.W.findIn K (.ref C_TextError) "__class__" = some (some (.builtin "object.__class__")))
    (cm_TextError : PySem.W.mroIn K C_TextError (.type "object") = some true)
    (ca_TooLarge : PySem.W.nsIn K mainGlobals "TooLarge" = some (some (.ref C_TooLarge)))
    (ce_TooLarge : PySem.W.excIn K C_TooLarge [.type "ValueError", .type "Exception", .type "BaseException", .type "object"] "ValueError.__new__" = true)
    (ck_TooLarge : PySem.W.keepIn K (.ref C_TooLarge) = true)
    (cs_TooLarge : PySem.W.subIn K (.ref C_TooLarge) (.type "BaseException") = some true)
    (ct_TooLarge : PySem.W.typeIn K (.ref C_TooLarge) = some (.type "type"))
    (cg_TooLarge : PySem.W.findIn K (.ref C_TooLarge) "__getattribute__" = some (some (.builtin "BaseException.__getattribute__")))
    (ch_TooLarge : PySem.W.findIn K (.ref C_TooLarge) "__getattr__" = some none)
    (cd_TooLarge : PySem.W.hasDictIn K C_TooLarge = true)
    (cc_TooLarge : PySem.W.findIn K (.ref C_TooLarge) "__class__" = some (some (.builtin "object.__class__")))
    (cm_TooLarge : PySem.W.mroIn K C_TooLarge (.type "object") = some true)
    (ca_TooWide : PySem.W.nsIn K mainGlobals "TooWide" = some (some (.ref C_TooWide)))
    (ce_TooWide : PySem.W.excIn K C_TooWide [.type "ValueError", .type "Exception", .type "BaseException", .type "object"] "ValueError.__new__" = true)
    (ck_TooWide : PySem.W.keepIn K (.ref C_TooWide) = true)
    (cs_TooWide : PySem.W.subIn K (.ref C_TooWide) (.type "BaseException") = some true)
    (ct_TooWide : PySem.W.typeIn K (.ref C_TooWide) = some (.type "type"))
    (cg_TooWide : PySem.W.findIn K (.ref C_TooWide) "__getattribute__" = some (some (.builtin "BaseException.__getattribute__")))
    (ch_TooWide : PySem.W.findIn K (.ref C_TooWide) "__getattr__" = some none)
    (cd_TooWide : PySem.W.hasDictIn K C_TooWide = true)
    (cc_TooWide : PySem.W.findIn K (.ref C_TooWide) "__class__" = some (some (.builtin "object.__class__")))
    (cm_TooWide : PySem.W.mroIn K C_TooWide (.type "object") = some true)
    (o1 : PySem.W.specialIn K (.builtin "object.__class__") "__get__" = some (some (.builtin "getset_descriptor.__get__")))
    (o2 : PySem.W.takesIn K (.builtin "object.__class__") = some true)
    (sb_AxisError_FormError : PySem.W.subIn K (.ref C_AxisError) (.ref C_FormError) = some false)
    (sb_FormError_FormError : PySem.W.subIn K (.ref C_FormError) (.ref C_FormError) = some true)
    (sb_KindError_FormError : PySem.W.subIn K (.ref C_KindError) (.ref C_FormError) = some false)
    (sb_MachineError_FormError : PySem.W.subIn K (.ref C_MachineError) (.ref C_FormError) = some false)
    (sb_RangeError_FormError : PySem.W.subIn K (.ref C_RangeError) (.ref C_FormError) = some false)
    (sb_RankError_FormError : PySem.W.subIn K (.ref C_RankError) (.ref C_FormError) = some false)
    (sb_TextError_FormError : PySem.W.subIn K (.ref C_TextError) (.ref C_FormError) = some false)
    (sb_TooLarge_FormError : PySem.W.subIn K (.ref C_TooLarge) (.ref C_FormError) = some false)
    (sb_TooWide_FormError : PySem.W.subIn K (.ref C_TooWide) (.ref C_FormError) = some false)
    (sb_AxisError_MachineError : PySem.W.subIn K (.ref C_AxisError) (.ref C_MachineError) = some false)
    (sb_FormError_MachineError : PySem.W.subIn K (.ref C_FormError) (.ref C_MachineError) = some false)
    (sb_KindError_MachineError : PySem.W.subIn K (.ref C_KindError) (.ref C_MachineError) = some false)
    (sb_MachineError_MachineError : PySem.W.subIn K (.ref C_MachineError) (.ref C_MachineError) = some true)
    (sb_RangeError_MachineError : PySem.W.subIn K (.ref C_RangeError) (.ref C_MachineError) = some false)
    (sb_RankError_MachineError : PySem.W.subIn K (.ref C_RankError) (.ref C_MachineError) = some false)
    (sb_TextError_MachineError : PySem.W.subIn K (.ref C_TextError) (.ref C_MachineError) = some false)
    (sb_TooLarge_MachineError : PySem.W.subIn K (.ref C_TooLarge) (.ref C_MachineError) = some false)
    (sb_TooWide_MachineError : PySem.W.subIn K (.ref C_TooWide) (.ref C_MachineError) = some false)
    (sb_AxisError_RangeError : PySem.W.subIn K (.ref C_AxisError) (.ref C_RangeError) = some false)
    (sb_FormError_RangeError : PySem.W.subIn K (.ref C_FormError) (.ref C_RangeError) = some false)
    (sb_KindError_RangeError : PySem.W.subIn K (.ref C_KindError) (.ref C_RangeError) = some false)
    (sb_MachineError_RangeError : PySem.W.subIn K (.ref C_MachineError) (.ref C_RangeError) = some false)
    (sb_RangeError_RangeError : PySem.W.subIn K (.ref C_RangeError) (.ref C_RangeError) = some true)
    (sb_RankError_RangeError : PySem.W.subIn K (.ref C_RankError) (.ref C_RangeError) = some false)
    (sb_TextError_RangeError : PySem.W.subIn K (.ref C_TextError) (.ref C_RangeError) = some false)
    (sb_TooLarge_RangeError : PySem.W.subIn K (.ref C_TooLarge) (.ref C_RangeError) = some false)
    (sb_TooWide_RangeError : PySem.W.subIn K (.ref C_TooWide) (.ref C_RangeError) = some false)
    (sb_AxisError_TensorError : PySem.W.subIn K (.ref C_AxisError) (.ref C_TensorError) = some true)
    (sb_FormError_TensorError : PySem.W.subIn K (.ref C_FormError) (.ref C_TensorError) = some true)
    (sb_KindError_TensorError : PySem.W.subIn K (.ref C_KindError) (.ref C_TensorError) = some true)
    (sb_MachineError_TensorError : PySem.W.subIn K (.ref C_MachineError) (.ref C_TensorError) = some true)
    (sb_RangeError_TensorError : PySem.W.subIn K (.ref C_RangeError) (.ref C_TensorError) = some true)
    (sb_RankError_TensorError : PySem.W.subIn K (.ref C_RankError) (.ref C_TensorError) = some true)
    (sb_TextError_TensorError : PySem.W.subIn K (.ref C_TextError) (.ref C_TensorError) = some true)
    (sb_TooLarge_TensorError : PySem.W.subIn K (.ref C_TooLarge) (.ref C_TensorError) = some true)
    (sb_TooWide_TensorError : PySem.W.subIn K (.ref C_TooWide) (.ref C_TensorError) = some true)
    (sb_AxisError_TextError : PySem.W.subIn K (.ref C_AxisError) (.ref C_TextError) = some false)
    (sb_FormError_TextError : PySem.W.subIn K (.ref C_FormError) (.ref C_TextError) = some false)
    (sb_KindError_TextError : PySem.W.subIn K (.ref C_KindError) (.ref C_TextError) = some false)
    (sb_MachineError_TextError : PySem.W.subIn K (.ref C_MachineError) (.ref C_TextError) = some false)
    (sb_RangeError_TextError : PySem.W.subIn K (.ref C_RangeError) (.ref C_TextError) = some false)
    (sb_RankError_TextError : PySem.W.subIn K (.ref C_RankError) (.ref C_TextError) = some false)
    (sb_TextError_TextError : PySem.W.subIn K (.ref C_TextError) (.ref C_TextError) = some true)
    (sb_TooLarge_TextError : PySem.W.subIn K (.ref C_TooLarge) (.ref C_TextError) = some false)
    (sb_TooWide_TextError : PySem.W.subIn K (.ref C_TooWide) (.ref C_TextError) = some false)
    (ga_BROADCAST : PySem.W.nsIn K mainGlobals "BROADCAST" = some (some (.ref ka1)))
    (kk1 : K.lookup ka1 = some ⟨.type "tuple", ko1, .seq (([(.str "add" t2), (.str "sub" t3), (.str "mul" t4), (.str "max" t5), (.str "min" t6), (.str "less" t7), (.str "equal" t8), (.str "where" t9)] : List Value).toArray) kn1, kl1⟩)
    (ga_CODE_LIMIT : PySem.W.nsIn K mainGlobals "CODE_LIMIT" = some (some (.int (4000000) t10)))
    (ga_COUNT_LIMIT : PySem.W.nsIn K mainGlobals "COUNT_LIMIT" = some (some (.int (256) t11)))
    (ga_EXECUTION_LIMIT : PySem.W.nsIn K mainGlobals "EXECUTION_LIMIT" = some (some (.int (1000000000) t12)))
    (ga_FIGURES : PySem.W.nsIn K mainGlobals "FIGURES" = some (some (.str "0123456789" t13)))
    (ga_FIGURE_LIMIT_listing : PySem.W.nsIn K mainGlobals "FIGURE_LIMIT_listing" = some (some (.int (90) t14)))
    (ga_FIGURE_LIMIT_notation : PySem.W.nsIn K mainGlobals "FIGURE_LIMIT_notation" = some (some (.int (70) t15)))
    (ga_LETTERS : PySem.W.nsIn K mainGlobals "LETTERS" = some (some (.str "abcdefghijklmnopqrstuvwxyz" t16)))
    (ga_LIMITS : PySem.W.nsIn K mainGlobals "LIMITS" = some (some (.ref ka17)))
    (kk17 : K.lookup ka17 = some ⟨.type "tuple", ko17, .seq (([(.ref ka18), (.ref ka21), (.ref ka24), (.ref ka27), (.ref ka30)] : List Value).toArray) kn17, kl17⟩)
    (kk18 : K.lookup ka18 = some ⟨.type "tuple", ko18, .seq (([(.int (32) t19), (.int (256) t20)] : List Value).toArray) kn18, kl18⟩)
    (kk21 : K.lookup ka21 = some ⟨.type "tuple", ko21, .seq (([(.int (1) t22), (.int (16384) t23)] : List Value).toArray) kn21, kl21⟩)
    (kk24 : K.lookup ka24 = some ⟨.type "tuple", ko24, .seq (([(.int (16) t25), (.int (4096) t26)] : List Value).toArray) kn24, kl24⟩)
    (kk27 : K.lookup ka27 = some ⟨.type "tuple", ko27, .seq (([(.int (1) t28), (.int (4) t29)] : List Value).toArray) kn27, kl27⟩)
    (kk30 : K.lookup ka30 = some ⟨.type "tuple", ko30, .seq (([(.int (1) t31), (.int (16) t32)] : List Value).toArray) kn30, kl30⟩)
    (ga_NEST_LIMIT : PySem.W.nsIn K mainGlobals "NEST_LIMIT" = some (some (.int (16) t33)))
    (ga_NODE_LIMIT : PySem.W.nsIn K mainGlobals "NODE_LIMIT" = some (some (.int (400) t34)))
    (ga_POINTWISE : PySem.W.nsIn K mainGlobals "POINTWISE" = some (some (.ref ka35)))
    (kk35 : K.lookup ka35 = some ⟨.type "tuple", ko35, .seq (([(.str "add" t36), (.str "sub" t37), (.str "mul" t38), (.str "max" t39), (.str "min" t40), (.str "less" t41), (.str "equal" t42), (.str "neg" t43), (.str "clamp" t44), (.str "shift" t45), (.str "where" t46)] : List Value).toArray) kn35, kl35⟩)
    (ga_RANK_LIMIT : PySem.W.nsIn K mainGlobals "RANK_LIMIT" = some (some (.int (4) t47)))
    (ga_SIZE_LIMIT : PySem.W.nsIn K mainGlobals "SIZE_LIMIT" = some (some (.int (16) t48)))
    (ga_WIDEST : PySem.W.nsIn K mainGlobals "WIDEST" = some (some (.int (1606938044258990275541962092341162602522202993782792835301376) t49)))
    (ga_WITH_AXIS : PySem.W.nsIn K mainGlobals "WITH_AXIS" = some (some (.ref ka50)))
    (kk50 : K.lookup ka50 = some ⟨.type "tuple", ko50, .seq (([(.str "sum" t51), (.str "peak" t52), (.str "dot" t53), (.str "rename" t54), (.str "cut" t55), (.str "pad" t56), (.str "join" t57), (.str "window" t58), (.str "fold" t59), (.str "gather" t60)] : List Value).toArray) kn50, kl50⟩)
    (ga_WORK_LIMIT : PySem.W.nsIn K mainGlobals "WORK_LIMIT" = some (some (.int (50000) t61)))
    (kb_ARGS : PySem.W.nsIn K mainGlobals "ARGS" = some (some (.ref kd_ARGS)))
    (kl_ARGS : K.lookup kd_ARGS = some ⟨.type "dict", none, .dict (([⟨h_ARGS_0, .str "input" tk_ARGS_0, (.int (0) t62)⟩, ⟨h_ARGS_1, .str "const" tk_ARGS_1, (.int (0) t63)⟩, ⟨h_ARGS_2, .str "add" tk_ARGS_2, (.int (2) t64)⟩, ⟨h_ARGS_3, .str "sub" tk_ARGS_3, (.int (2) t65)⟩, ⟨h_ARGS_4, .str "mul" tk_ARGS_4, (.int (2) t66)⟩, ⟨h_ARGS_5, .str "max" tk_ARGS_5, (.int (2) t67)⟩, ⟨h_ARGS_6, .str "min" tk_ARGS_6, (.int (2) t68)⟩, ⟨h_ARGS_7, .str "less" tk_ARGS_7, (.int (2) t69)⟩, ⟨h_ARGS_8, .str "equal" tk_ARGS_8, (.int (2) t70)⟩, ⟨h_ARGS_9, .str "neg" tk_ARGS_9, (.int (1) t71)⟩, ⟨h_ARGS_10, .str "clamp" tk_ARGS_10, (.int (1) t72)⟩, ⟨h_ARGS_11, .str "shift" tk_ARGS_11, (.int (1) t73)⟩, ⟨h_ARGS_12, .str "where" tk_ARGS_12, (.int (3) t74)⟩, ⟨h_ARGS_13, .str "sum" tk_ARGS_13, (.int (1) t75)⟩, ⟨h_ARGS_14, .str "peak" tk_ARGS_14, (.int (1) t76)⟩, ⟨h_ARGS_15, .str "dot" tk_ARGS_15, (.int (2) t77)⟩, ⟨h_ARGS_16, .str "order" tk_ARGS_16, (.int (1) t78)⟩, ⟨h_ARGS_17, .str "rename" tk_ARGS_17, (.int (1) t79)⟩, ⟨h_ARGS_18, .str "spread" tk_ARGS_18, (.int (1) t80)⟩, ⟨h_ARGS_19, .str "cut" tk_ARGS_19, (.int (1) t81)⟩, ⟨h_ARGS_20, .str "pad" tk_ARGS_20, (.int (1) t82)⟩, ⟨h_ARGS_21, .str "join" tk_ARGS_21, (.int (2) t83)⟩, ⟨h_ARGS_22, .str "window" tk_ARGS_22, (.int (1) t84)⟩, ⟨h_ARGS_23, .str "fold" tk_ARGS_23, (.int (1) t85)⟩, ⟨h_ARGS_24, .str "gather" tk_ARGS_24, (.int (2) t86)⟩] : List DictEntry).toArray) kn_ARGS, #[]⟩)
    (kk_ARGS : PySem.W.KeysLit w.params ([⟨h_ARGS_0, .str "input" tk_ARGS_0, (.int (0) t62)⟩, ⟨h_ARGS_1, .str "const" tk_ARGS_1, (.int (0) t63)⟩, ⟨h_ARGS_2, .str "add" tk_ARGS_2, (.int (2) t64)⟩, ⟨h_ARGS_3, .str "sub" tk_ARGS_3, (.int (2) t65)⟩, ⟨h_ARGS_4, .str "mul" tk_ARGS_4, (.int (2) t66)⟩, ⟨h_ARGS_5, .str "max" tk_ARGS_5, (.int (2) t67)⟩, ⟨h_ARGS_6, .str "min" tk_ARGS_6, (.int (2) t68)⟩, ⟨h_ARGS_7, .str "less" tk_ARGS_7, (.int (2) t69)⟩, ⟨h_ARGS_8, .str "equal" tk_ARGS_8, (.int (2) t70)⟩, ⟨h_ARGS_9, .str "neg" tk_ARGS_9, (.int (1) t71)⟩, ⟨h_ARGS_10, .str "clamp" tk_ARGS_10, (.int (1) t72)⟩, ⟨h_ARGS_11, .str "shift" tk_ARGS_11, (.int (1) t73)⟩, ⟨h_ARGS_12, .str "where" tk_ARGS_12, (.int (3) t74)⟩, ⟨h_ARGS_13, .str "sum" tk_ARGS_13, (.int (1) t75)⟩, ⟨h_ARGS_14, .str "peak" tk_ARGS_14, (.int (1) t76)⟩, ⟨h_ARGS_15, .str "dot" tk_ARGS_15, (.int (2) t77)⟩, ⟨h_ARGS_16, .str "order" tk_ARGS_16, (.int (1) t78)⟩, ⟨h_ARGS_17, .str "rename" tk_ARGS_17, (.int (1) t79)⟩, ⟨h_ARGS_18, .str "spread" tk_ARGS_18, (.int (1) t80)⟩, ⟨h_ARGS_19, .str "cut" tk_ARGS_19, (.int (1) t81)⟩, ⟨h_ARGS_20, .str "pad" tk_ARGS_20, (.int (1) t82)⟩, ⟨h_ARGS_21, .str "join" tk_ARGS_21, (.int (2) t83)⟩, ⟨h_ARGS_22, .str "window" tk_ARGS_22, (.int (1) t84)⟩, ⟨h_ARGS_23, .str "fold" tk_ARGS_23, (.int (1) t85)⟩, ⟨h_ARGS_24, .str "gather" tk_ARGS_24, (.int (2) t86)⟩] : List DictEntry))
    (ks_ARGS : (kd_ARGS == sysModules) = false)
    (kb_AXIS_FIELDS : PySem.W.nsIn K mainGlobals "AXIS_FIELDS" = some (some (.ref kd_AXIS_FIELDS)))
    (kl_AXIS_FIELDS : K.lookup kd_AXIS_FIELDS = some ⟨.type "dict", none, .dict (([⟨h_AXIS_FIELDS_0, .str "sum" tk_AXIS_FIELDS_0, (.int (1) t87)⟩, ⟨h_AXIS_FIELDS_1, .str "peak" tk_AXIS_FIELDS_1, (.int (1) t88)⟩, ⟨h_AXIS_FIELDS_2, .str "dot" tk_AXIS_FIELDS_2, (.int (1) t89)⟩, ⟨h_AXIS_FIELDS_3, .str "rename" tk_AXIS_FIELDS_3, (.int (2) t90)⟩, ⟨h_AXIS_FIELDS_4, .str "spread" tk_AXIS_FIELDS_4, (.int (1) t91)⟩, ⟨h_AXIS_FIELDS_5, .str "cut" tk_AXIS_FIELDS_5, (.int (1) t92)⟩, ⟨h_AXIS_FIELDS_6, .str "pad" tk_AXIS_FIELDS_6, (.int (1) t93)⟩, ⟨h_AXIS_FIELDS_7, .str "join" tk_AXIS_FIELDS_7, (.int (1) t94)⟩, ⟨h_AXIS_FIELDS_8, .str "window" tk_AXIS_FIELDS_8, (.int (2) t95)⟩, ⟨h_AXIS_FIELDS_9, .str "fold" tk_AXIS_FIELDS_9, (.int (2) t96)⟩, ⟨h_AXIS_FIELDS_10, .str "gather" tk_AXIS_FIELDS_10, (.int (1) t97)⟩] : List DictEntry).toArray) kn_AXIS_FIELDS, #[]⟩)
    (kk_AXIS_FIELDS : PySem.W.KeysLit w.params ([⟨h_AXIS_FIELDS_0, .str "sum" tk_AXIS_FIELDS_0, (.int (1) t87)⟩, ⟨h_AXIS_FIELDS_1, .str "peak" tk_AXIS_FIELDS_1, (.int (1) t88)⟩, ⟨h_AXIS_FIELDS_2, .str "dot" tk_AXIS_FIELDS_2, (.int (1) t89)⟩, ⟨h_AXIS_FIELDS_3, .str "rename" tk_AXIS_FIELDS_3, (.int (2) t90)⟩, ⟨h_AXIS_FIELDS_4, .str "spread" tk_AXIS_FIELDS_4, (.int (1) t91)⟩, ⟨h_AXIS_FIELDS_5, .str "cut" tk_AXIS_FIELDS_5, (.int (1) t92)⟩, ⟨h_AXIS_FIELDS_6, .str "pad" tk_AXIS_FIELDS_6, (.int (1) t93)⟩, ⟨h_AXIS_FIELDS_7, .str "join" tk_AXIS_FIELDS_7, (.int (1) t94)⟩, ⟨h_AXIS_FIELDS_8, .str "window" tk_AXIS_FIELDS_8, (.int (2) t95)⟩, ⟨h_AXIS_FIELDS_9, .str "fold" tk_AXIS_FIELDS_9, (.int (2) t96)⟩, ⟨h_AXIS_FIELDS_10, .str "gather" tk_AXIS_FIELDS_10, (.int (1) t97)⟩] : List DictEntry))
    (ks_AXIS_FIELDS : (kd_AXIS_FIELDS == sysModules) = false)
    (kb_FIELDS : PySem.W.nsIn K mainGlobals "FIELDS" = some (some (.ref kd_FIELDS)))
    (kl_FIELDS : K.lookup kd_FIELDS = some ⟨.type "dict", none, .dict (([⟨h_FIELDS_0, .str "input" tk_FIELDS_0, (.int (3) t98)⟩, ⟨h_FIELDS_1, .str "const" tk_FIELDS_1, (.int (2) t99)⟩, ⟨h_FIELDS_2, .str "add" tk_FIELDS_2, (.int (0) t100)⟩, ⟨h_FIELDS_3, .str "sub" tk_FIELDS_3, (.int (0) t101)⟩, ⟨h_FIELDS_4, .str "mul" tk_FIELDS_4, (.int (0) t102)⟩, ⟨h_FIELDS_5, .str "max" tk_FIELDS_5, (.int (0) t103)⟩, ⟨h_FIELDS_6, .str "min" tk_FIELDS_6, (.int (0) t104)⟩, ⟨h_FIELDS_7, .str "less" tk_FIELDS_7, (.int (0) t105)⟩, ⟨h_FIELDS_8, .str "equal" tk_FIELDS_8, (.int (0) t106)⟩, ⟨h_FIELDS_9, .str "neg" tk_FIELDS_9, (.int (0) t107)⟩, ⟨h_FIELDS_10, .str "clamp" tk_FIELDS_10, (.int (2) t108)⟩, ⟨h_FIELDS_11, .str "shift" tk_FIELDS_11, (.int (1) t109)⟩, ⟨h_FIELDS_12, .str "where" tk_FIELDS_12, (.int (0) t110)⟩, ⟨h_FIELDS_13, .str "sum" tk_FIELDS_13, (.int (1) t111)⟩, ⟨h_FIELDS_14, .str "peak" tk_FIELDS_14, (.int (1) t112)⟩, ⟨h_FIELDS_15, .str "dot" tk_FIELDS_15, (.int (1) t113)⟩, ⟨h_FIELDS_16, .str "order" tk_FIELDS_16, (.int (1) t114)⟩, ⟨h_FIELDS_17, .str "rename" tk_FIELDS_17, (.int (2) t115)⟩, ⟨h_FIELDS_18, .str "spread" tk_FIELDS_18, (.int (2) t116)⟩, ⟨h_FIELDS_19, .str "cut" tk_FIELDS_19, (.int (3) t117)⟩, ⟨h_FIELDS_20, .str "pad" tk_FIELDS_20, (.int (3) t118)⟩, ⟨h_FIELDS_21, .str "join" tk_FIELDS_21, (.int (1) t119)⟩, ⟨h_FIELDS_22, .str "window" tk_FIELDS_22, (.int (4) t120)⟩, ⟨h_FIELDS_23, .str "fold" tk_FIELDS_23, (.int (4) t121)⟩, ⟨h_FIELDS_24, .str "gather" tk_FIELDS_24, (.int (1) t122)⟩] : List DictEntry).toArray) kn_FIELDS, #[]⟩)
    (kk_FIELDS : PySem.W.KeysLit w.params ([⟨h_FIELDS_0, .str "input" tk_FIELDS_0, (.int (3) t98)⟩, ⟨h_FIELDS_1, .str "const" tk_FIELDS_1, (.int (2) t99)⟩, ⟨h_FIELDS_2, .str "add" tk_FIELDS_2, (.int (0) t100)⟩, ⟨h_FIELDS_3, .str "sub" tk_FIELDS_3, (.int (0) t101)⟩, ⟨h_FIELDS_4, .str "mul" tk_FIELDS_4, (.int (0) t102)⟩, ⟨h_FIELDS_5, .str "max" tk_FIELDS_5, (.int (0) t103)⟩, ⟨h_FIELDS_6, .str "min" tk_FIELDS_6, (.int (0) t104)⟩, ⟨h_FIELDS_7, .str "less" tk_FIELDS_7, (.int (0) t105)⟩, ⟨h_FIELDS_8, .str "equal" tk_FIELDS_8, (.int (0) t106)⟩, ⟨h_FIELDS_9, .str "neg" tk_FIELDS_9, (.int (0) t107)⟩, ⟨h_FIELDS_10, .str "clamp" tk_FIELDS_10, (.int (2) t108)⟩, ⟨h_FIELDS_11, .str "shift" tk_FIELDS_11, (.int (1) t109)⟩, ⟨h_FIELDS_12, .str "where" tk_FIELDS_12, (.int (0) t110)⟩, ⟨h_FIELDS_13, .str "sum" tk_FIELDS_13, (.int (1) t111)⟩, ⟨h_FIELDS_14, .str "peak" tk_FIELDS_14, (.int (1) t112)⟩, ⟨h_FIELDS_15, .str "dot" tk_FIELDS_15, (.int (1) t113)⟩, ⟨h_FIELDS_16, .str "order" tk_FIELDS_16, (.int (1) t114)⟩, ⟨h_FIELDS_17, .str "rename" tk_FIELDS_17, (.int (2) t115)⟩, ⟨h_FIELDS_18, .str "spread" tk_FIELDS_18, (.int (2) t116)⟩, ⟨h_FIELDS_19, .str "cut" tk_FIELDS_19, (.int (3) t117)⟩, ⟨h_FIELDS_20, .str "pad" tk_FIELDS_20, (.int (3) t118)⟩, ⟨h_FIELDS_21, .str "join" tk_FIELDS_21, (.int (1) t119)⟩, ⟨h_FIELDS_22, .str "window" tk_FIELDS_22, (.int (4) t120)⟩, ⟨h_FIELDS_23, .str "fold" tk_FIELDS_23, (.int (4) t121)⟩, ⟨h_FIELDS_24, .str "gather" tk_FIELDS_24, (.int (1) t122)⟩] : List DictEntry))
    (ks_FIELDS : (kd_FIELDS == sysModules) = false)
    (kb_LENGTHS : PySem.W.nsIn K mainGlobals "LENGTHS" = some (some (.ref kd_LENGTHS)))
    (kl_LENGTHS : K.lookup kd_LENGTHS = some ⟨.type "dict", none, .dict (([⟨h_LENGTHS_0, .str "set" tk_LENGTHS_0, (.int (3) t123)⟩, ⟨h_LENGTHS_1, .str "do" tk_LENGTHS_1, (.int (5) t124)⟩, ⟨h_LENGTHS_2, .str "load" tk_LENGTHS_2, (.int (4) t125)⟩, ⟨h_LENGTHS_3, .str "store" tk_LENGTHS_3, (.int (4) t126)⟩, ⟨h_LENGTHS_4, .str "mac" tk_LENGTHS_4, (.int (7) t127)⟩, ⟨h_LENGTHS_5, .str "vector" tk_LENGTHS_5, (.int (6) t128)⟩, ⟨h_LENGTHS_6, .str "loop" tk_LENGTHS_6, (.int (5) t129)⟩, ⟨h_LENGTHS_7, .str "end" tk_LENGTHS_7, (.int (1) t130)⟩, ⟨h_LENGTHS_8, .str "skip" tk_LENGTHS_8, (.int (3) t131)⟩, ⟨h_LENGTHS_9, .str "in" tk_LENGTHS_9, (.int (7) t132)⟩, ⟨h_LENGTHS_10, .str "out" tk_LENGTHS_10, (.int (7) t133)⟩, ⟨h_LENGTHS_11, .str "wait" tk_LENGTHS_11, (.int (2) t134)⟩] : List DictEntry).toArray) kn_LENGTHS, #[]⟩)
    (kk_LENGTHS : PySem.W.KeysLit w.params ([⟨h_LENGTHS_0, .str "set" tk_LENGTHS_0, (.int (3) t123)⟩, ⟨h_LENGTHS_1, .str "do" tk_LENGTHS_1, (.int (5) t124)⟩, ⟨h_LENGTHS_2, .str "load" tk_LENGTHS_2, (.int (4) t125)⟩, ⟨h_LENGTHS_3, .str "store" tk_LENGTHS_3, (.int (4) t126)⟩, ⟨h_LENGTHS_4, .str "mac" tk_LENGTHS_4, (.int (7) t127)⟩, ⟨h_LENGTHS_5, .str "vector" tk_LENGTHS_5, (.int (6) t128)⟩, ⟨h_LENGTHS_6, .str "loop" tk_LENGTHS_6, (.int (5) t129)⟩, ⟨h_LENGTHS_7, .str "end" tk_LENGTHS_7, (.int (1) t130)⟩, ⟨h_LENGTHS_8, .str "skip" tk_LENGTHS_8, (.int (3) t131)⟩, ⟨h_LENGTHS_9, .str "in" tk_LENGTHS_9, (.int (7) t132)⟩, ⟨h_LENGTHS_10, .str "out" tk_LENGTHS_10, (.int (7) t133)⟩, ⟨h_LENGTHS_11, .str "wait" tk_LENGTHS_11, (.int (2) t134)⟩] : List DictEntry))
    (ks_LENGTHS : (kd_LENGTHS == sysModules) = false)
    (kb_OFFSETS : PySem.W.nsIn K mainGlobals "OFFSETS" = some (some (.ref kd_OFFSETS)))
    (kl_OFFSETS : K.lookup kd_OFFSETS = some ⟨.type "dict", none, .dict (([⟨h_OFFSETS_0, .str "set" tk_OFFSETS_0, (.ref ka135)⟩, ⟨h_OFFSETS_1, .str "do" tk_OFFSETS_1, (.ref ka136)⟩, ⟨h_OFFSETS_2, .str "load" tk_OFFSETS_2, (.ref ka137)⟩, ⟨h_OFFSETS_3, .str "store" tk_OFFSETS_3, (.ref ka139)⟩, ⟨h_OFFSETS_4, .str "mac" tk_OFFSETS_4, (.ref ka141)⟩, ⟨h_OFFSETS_5, .str "vector" tk_OFFSETS_5, (.ref ka144)⟩, ⟨h_OFFSETS_6, .str "loop" tk_OFFSETS_6, (.ref ka145)⟩, ⟨h_OFFSETS_7, .str "end" tk_OFFSETS_7, (.ref ka146)⟩, ⟨h_OFFSETS_8, .str "skip" tk_OFFSETS_8, (.ref ka147)⟩, ⟨h_OFFSETS_9, .str "in" tk_OFFSETS_9, (.ref ka148)⟩, ⟨h_OFFSETS_10, .str "out" tk_OFFSETS_10, (.ref ka151)⟩, ⟨h_OFFSETS_11, .str "wait" tk_OFFSETS_11, (.ref ka154)⟩] : List DictEntry).toArray) kn_OFFSETS, #[]⟩)
    (kk135 : K.lookup ka135 = some ⟨.type "tuple", ko135, .seq (([] : List Value).toArray) kn135, kl135⟩)
    (kk136 : K.lookup ka136 = some ⟨.type "tuple", ko136, .seq (([] : List Value).toArray) kn136, kl136⟩)
    (kk137 : K.lookup ka137 = some ⟨.type "tuple", ko137, .seq (([(.int (3) t138)] : List Value).toArray) kn137, kl137⟩)
    (kk139 : K.lookup ka139 = some ⟨.type "tuple", ko139, .seq (([(.int (2) t140)] : List Value).toArray) kn139, kl139⟩)
    (kk141 : K.lookup ka141 = some ⟨.type "tuple", ko141, .seq (([(.int (3) t142), (.int (5) t143)] : List Value).toArray) kn141, kl141⟩)
    (kk144 : K.lookup ka144 = some ⟨.type "tuple", ko144, .seq (([] : List Value).toArray) kn144, kl144⟩)
    (kk145 : K.lookup ka145 = some ⟨.type "tuple", ko145, .seq (([] : List Value).toArray) kn145, kl145⟩)
    (kk146 : K.lookup ka146 = some ⟨.type "tuple", ko146, .seq (([] : List Value).toArray) kn146, kl146⟩)
    (kk147 : K.lookup ka147 = some ⟨.type "tuple", ko147, .seq (([] : List Value).toArray) kn147, kl147⟩)
    (kk148 : K.lookup ka148 = some ⟨.type "tuple", ko148, .seq (([(.int (3) t149), (.int (5) t150)] : List Value).toArray) kn148, kl148⟩)
    (kk151 : K.lookup ka151 = some ⟨.type "tuple", ko151, .seq (([(.int (3) t152), (.int (5) t153)] : List Value).toArray) kn151, kl151⟩)
    (kk154 : K.lookup ka154 = some ⟨.type "tuple", ko154, .seq (([] : List Value).toArray) kn154, kl154⟩)
    (kk_OFFSETS : PySem.W.KeysLit w.params ([⟨h_OFFSETS_0, .str "set" tk_OFFSETS_0, (.ref ka135)⟩, ⟨h_OFFSETS_1, .str "do" tk_OFFSETS_1, (.ref ka136)⟩, ⟨h_OFFSETS_2, .str "load" tk_OFFSETS_2, (.ref ka137)⟩, ⟨h_OFFSETS_3, .str "store" tk_OFFSETS_3, (.ref ka139)⟩, ⟨h_OFFSETS_4, .str "mac" tk_OFFSETS_4, (.ref ka141)⟩, ⟨h_OFFSETS_5, .str "vector" tk_OFFSETS_5, (.ref ka144)⟩, ⟨h_OFFSETS_6, .str "loop" tk_OFFSETS_6, (.ref ka145)⟩, ⟨h_OFFSETS_7, .str "end" tk_OFFSETS_7, (.ref ka146)⟩, ⟨h_OFFSETS_8, .str "skip" tk_OFFSETS_8, (.ref ka147)⟩, ⟨h_OFFSETS_9, .str "in" tk_OFFSETS_9, (.ref ka148)⟩, ⟨h_OFFSETS_10, .str "out" tk_OFFSETS_10, (.ref ka151)⟩, ⟨h_OFFSETS_11, .str "wait" tk_OFFSETS_11, (.ref ka154)⟩] : List DictEntry))
    (ks_OFFSETS : (kd_OFFSETS == sysModules) = false)
    (kb_SLOTS : PySem.W.nsIn K mainGlobals "SLOTS" = some (some (.ref kd_SLOTS)))
    (kl_SLOTS : K.lookup kd_SLOTS = some ⟨.type "dict", none, .dict (([⟨h_SLOTS_0, .str "set" tk_SLOTS_0, (.ref ka155)⟩, ⟨h_SLOTS_1, .str "do" tk_SLOTS_1, (.ref ka157)⟩, ⟨h_SLOTS_2, .str "load" tk_SLOTS_2, (.ref ka159)⟩, ⟨h_SLOTS_3, .str "store" tk_SLOTS_3, (.ref ka162)⟩, ⟨h_SLOTS_4, .str "mac" tk_SLOTS_4, (.ref ka165)⟩, ⟨h_SLOTS_5, .str "vector" tk_SLOTS_5, (.ref ka169)⟩, ⟨h_SLOTS_6, .str "loop" tk_SLOTS_6, (.ref ka173)⟩, ⟨h_SLOTS_7, .str "end" tk_SLOTS_7, (.ref ka175)⟩, ⟨h_SLOTS_8, .str "skip" tk_SLOTS_8, (.ref ka176)⟩, ⟨h_SLOTS_9, .str "in" tk_SLOTS_9, (.ref ka178)⟩, ⟨h_SLOTS_10, .str "out" tk_SLOTS_10, (.ref ka181)⟩, ⟨h_SLOTS_11, .str "wait" tk_SLOTS_11, (.ref ka184)⟩] : List DictEntry).toArray) kn_SLOTS, #[]⟩)
    (kk155 : K.lookup ka155 = some ⟨.type "tuple", ko155, .seq (([(.int (1) t156)] : List Value).toArray) kn155, kl155⟩)
    (kk157 : K.lookup ka157 = some ⟨.type "tuple", ko157, .seq (([(.int (2) t158)] : List Value).toArray) kn157, kl157⟩)
    (kk159 : K.lookup ka159 = some ⟨.type "tuple", ko159, .seq (([(.int (1) t160), (.int (2) t161)] : List Value).toArray) kn159, kl159⟩)
    (kk162 : K.lookup ka162 = some ⟨.type "tuple", ko162, .seq (([(.int (1) t163), (.int (3) t164)] : List Value).toArray) kn162, kl162⟩)
    (kk165 : K.lookup ka165 = some ⟨.type "tuple", ko165, .seq (([(.int (1) t166), (.int (2) t167), (.int (4) t168)] : List Value).toArray) kn165, kl165⟩)
    (kk169 : K.lookup ka169 = some ⟨.type "tuple", ko169, .seq (([(.int (2) t170), (.int (3) t171), (.int (4) t172)] : List Value).toArray) kn169, kl169⟩)
    (kk173 : K.lookup ka173 = some ⟨.type "tuple", ko173, .seq (([(.int (1) t174)] : List Value).toArray) kn173, kl173⟩)
    (kk175 : K.lookup ka175 = some ⟨.type "tuple", ko175, .seq (([] : List Value).toArray) kn175, kl175⟩)
    (kk176 : K.lookup ka176 = some ⟨.type "tuple", ko176, .seq (([(.int (1) t177)] : List Value).toArray) kn176, kl176⟩)
    (kk178 : K.lookup ka178 = some ⟨.type "tuple", ko178, .seq (([(.int (2) t179), (.int (4) t180)] : List Value).toArray) kn178, kl178⟩)
    (kk181 : K.lookup ka181 = some ⟨.type "tuple", ko181, .seq (([(.int (2) t182), (.int (4) t183)] : List Value).toArray) kn181, kl181⟩)
    (kk184 : K.lookup ka184 = some ⟨.type "tuple", ko184, .seq (([] : List Value).toArray) kn184, kl184⟩)
    (kk_SLOTS : PySem.W.KeysLit w.params ([⟨h_SLOTS_0, .str "set" tk_SLOTS_0, (.ref ka155)⟩, ⟨h_SLOTS_1, .str "do" tk_SLOTS_1, (.ref ka157)⟩, ⟨h_SLOTS_2, .str "load" tk_SLOTS_2, (.ref ka159)⟩, ⟨h_SLOTS_3, .str "store" tk_SLOTS_3, (.ref ka162)⟩, ⟨h_SLOTS_4, .str "mac" tk_SLOTS_4, (.ref ka165)⟩, ⟨h_SLOTS_5, .str "vector" tk_SLOTS_5, (.ref ka169)⟩, ⟨h_SLOTS_6, .str "loop" tk_SLOTS_6, (.ref ka173)⟩, ⟨h_SLOTS_7, .str "end" tk_SLOTS_7, (.ref ka175)⟩, ⟨h_SLOTS_8, .str "skip" tk_SLOTS_8, (.ref ka176)⟩, ⟨h_SLOTS_9, .str "in" tk_SLOTS_9, (.ref ka178)⟩, ⟨h_SLOTS_10, .str "out" tk_SLOTS_10, (.ref ka181)⟩, ⟨h_SLOTS_11, .str "wait" tk_SLOTS_11, (.ref ka184)⟩] : List DictEntry))
    (ks_SLOTS : (kd_SLOTS == sysModules) = false) :
    ∃ fd : FuncData, (∀ (s : Shared) (v : Value), BindsTo s fd ⟨[v], []⟩ [("script", v)]) ∧ ∀ base : Heap, K.In base → base.Ns mainGlobals mg → FnOk P w K mg base (L2.CX P w) 11 fa fd ["script"] (spD K mg 1 m_law) := by
  have e := hfa.symm.trans (PySem.W.mg_of X G a_law)
  cases e
  have T_AxisError : ClsT K mg "AxisError" C_AxisError := ⟨PySem.W.mg_of X G ca_AxisError, ce_AxisError, ck_AxisError, cs_AxisError, ct_AxisError, cg_AxisError, ch_AxisError, cd_AxisError, cc_AxisError, cm_AxisError⟩
  have T_FormError : ClsT K mg "FormError" C_FormError := ⟨PySem.W.mg_of X G ca_FormError, ce_FormError, ck_FormError, cs_FormError, ct_FormError, cg_FormError, ch_FormError, cd_FormError, cc_FormError, cm_FormError⟩
  have T_KindError : ClsT K mg "KindError" C_KindError := ⟨PySem.W.mg_of X G ca_KindError, ce_KindError, ck_KindError, cs_KindError, ct_KindError, cg_KindError, ch_KindError, cd_KindError, cc_KindError, cm_KindError⟩
  have T_MachineError : ClsT K mg "MachineError" C_MachineError := ⟨PySem.W.mg_of X G ca_MachineError, ce_MachineError, ck_MachineError, cs_MachineError, ct_MachineError, cg_MachineError, ch_MachineError, cd_MachineError, cc_MachineError, cm_MachineError⟩
  have T_RangeError : ClsT K mg "RangeError" C_RangeError := ⟨PySem.W.mg_of X G ca_RangeError, ce_RangeError, ck_RangeError, cs_RangeError, ct_RangeError, cg_RangeError, ch_RangeError, cd_RangeError, cc_RangeError, cm_RangeError⟩
  have T_RankError : ClsT K mg "RankError" C_RankError := ⟨PySem.W.mg_of X G ca_RankError, ce_RankError, ck_RankError, cs_RankError, ct_RankError, cg_RankError, ch_RankError, cd_RankError, cc_RankError, cm_RankError⟩
  have T_TensorError : ClsT K mg "TensorError" C_TensorError := ⟨PySem.W.mg_of X G ca_TensorError, ce_TensorError, ck_TensorError, cs_TensorError, ct_TensorError, cg_TensorError, ch_TensorError, cd_TensorError, cc_TensorError, cm_TensorError⟩
  have T_TextError : ClsT K mg "TextError" C_TextError := ⟨PySem.W.mg_of X G ca_TextError, ce_TextError, ck_TextError, cs_TextError, ct_TextError, cg_TextError, ch_TextError, cd_TextError, cc_TextError, cm_TextError⟩
  have T_TooLarge : ClsT K mg "TooLarge" C_TooLarge := ⟨PySem.W.mg_of X G ca_TooLarge, ce_TooLarge, ck_TooLarge, cs_TooLarge, ct_TooLarge, cg_TooLarge, ch_TooLarge, cd_TooLarge, cc_TooLarge, cm_TooLarge⟩
  have T_TooWide : ClsT K mg "TooWide" C_TooWide := ⟨PySem.W.mg_of X G ca_TooWide, ce_TooWide, ck_TooWide, cs_TooWide, ct_TooWide, cg_TooWide, ch_TooWide, cd_TooWide, cc_TooWide, cm_TooWide⟩
  have O : ObjT K := ⟨o1, o2⟩
  have F_check_machine := fun_mk (st := s_check_machine) l_check_machine c_check_machine k_check_machine
  have B_check_machine := F_check_machine.binds (ps := ["machine"]) fun _ _ _ _ _ _ us hl => match us, hl with | [_], _ => rfl
  have F_check_skip := fun_mk (st := s_check_skip) l_check_skip c_check_skip k_check_skip
  have B_check_skip := F_check_skip.binds (ps := ["code", "at"]) fun _ _ _ _ _ _ us hl => match us, hl with | [_, _], _ => rfl
  have F_depths_of := fun_mk (st := s_depths_of) l_depths_of c_depths_of k_depths_of
  have B_depths_of := F_depths_of.binds (ps := ["code"]) fun _ _ _ _ _ _ us hl => match us, hl with | [_], _ => rfl
  have F_fields_in_range := fun_mk (st := s_fields_in_range) l_fields_in_range c_fields_in_range k_fields_in_range
  have B_fields_in_range := F_fields_in_range.binds (ps := ["kind", "info"]) fun _ _ _ _ _ _ us hl => match us, hl with | [_, _], _ => rfl
  have F_fits_width := fun_mk (st := s_fits_width) l_fits_width c_fits_width k_fits_width
  have B_fits_width := F_fits_width.binds (ps := ["width", "n"]) fun _ _ _ _ _ _ us hl => match us, hl with | [_, _], _ => rfl
  have F_loop_in_range := fun_mk (st := s_loop_in_range) l_loop_in_range c_loop_in_range k_loop_in_range
  have B_loop_in_range := F_loop_in_range.binds (ps := ["width", "instruction"]) fun _ _ _ _ _ _ us hl => match us, hl with | [_, _], _ => rfl
  have F_own_in_range := fun_mk (st := s_own_in_range) l_own_in_range c_own_in_range k_own_in_range
  have B_own_in_range := F_own_in_range.binds (ps := ["machine", "instruction"]) fun _ _ _ _ _ _ us hl => match us, hl with | [_, _], _ => rfl
  have F_in_range := fun_mk (st := s_in_range) l_in_range c_in_range k_in_range
  have B_in_range := F_in_range.binds (ps := ["machine", "instruction"]) fun _ _ _ _ _ _ us hl => match us, hl with | [_, _], _ => rfl
  have F_steps_in := fun_mk (st := s_steps_in) l_steps_in c_steps_in k_steps_in
  have B_steps_in := F_steps_in.binds (ps := ["code"]) fun _ _ _ _ _ _ us hl => match us, hl with | [_], _ => rfl
  have F_well_formed := fun_mk (st := s_well_formed) l_well_formed c_well_formed k_well_formed
  have B_well_formed := F_well_formed.binds (ps := ["instruction"]) fun _ _ _ _ _ _ us hl => match us, hl with | [_], _ => rfl
  have F_check_code := fun_mk (st := s_check_code) l_check_code c_check_code k_check_code
  have B_check_code := F_check_code.binds (ps := ["machine", "code"]) fun _ _ _ _ _ _ us hl => match us, hl with | [_, _], _ => rfl
  have F_read_integer := fun_mk (st := s_read_integer) l_read_integer c_read_integer k_read_integer
  have B_read_integer := F_read_integer.binds (ps := ["word", "most"]) fun _ _ _ _ _ _ us hl => match us, hl with | [_, _], _ => rfl
  have F_number_in_listing := fun_mk (st := s_number_in_listing) l_number_in_listing c_number_in_listing k_number_in_listing
  have B_number_in_listing := F_number_in_listing.binds (ps := ["word"]) fun _ _ _ _ _ _ us hl => match us, hl with | [_], _ => rfl
  have F_group_in := fun_mk (st := s_group_in) l_group_in c_group_in k_group_in
  have B_group_in := F_group_in.binds (ps := ["words"]) fun _ _ _ _ _ _ us hl => match us, hl with | [_], _ => rfl
  have F_kind_in := fun_mk (st := s_kind_in) l_kind_in c_kind_in k_kind_in
  have B_kind_in := F_kind_in.binds (ps := ["word"]) fun _ _ _ _ _ _ us hl => match us, hl with | [_], _ => rfl
  have F_do_in := fun_mk (st := s_do_in) l_do_in c_do_in k_do_in
  have B_do_in := F_do_in.binds (ps := ["words"]) fun _ _ _ _ _ _ us hl => match us, hl with | [_], _ => rfl
  have F_instruction_in := fun_mk (st := s_instruction_in) l_instruction_in c_instruction_in k_instruction_in
  have B_instruction_in := F_instruction_in.binds (ps := ["line"]) fun _ _ _ _ _ _ us hl => match us, hl with | [_], _ => rfl
  have F_read_code := fun_mk (st := s_read_code) l_read_code c_read_code k_read_code
  have B_read_code := F_read_code.binds (ps := ["machine", "text"]) fun _ _ _ _ _ _ us hl => match us, hl with | [_, _], _ => rfl
  have F_letters_of := fun_mk (st := s_letters_of) l_letters_of c_letters_of k_letters_of
  have B_letters_of := F_letters_of.binds (ps := ["shape"]) fun _ _ _ _ _ _ us hl => match us, hl with | [_], _ => rfl
  have F_same_but := fun_mk (st := s_same_but) l_same_but c_same_but k_same_but
  have B_same_but := F_same_but.binds (ps := ["first", "second", "letter"]) fun _ _ _ _ _ _ us hl => match us, hl with | [_, _, _], _ => rfl
  have F_check_axes := fun_mk (st := s_check_axes) l_check_axes c_check_axes k_check_axes
  have B_check_axes := F_check_axes.binds (ps := ["kind", "info", "shapes"]) fun _ _ _ _ _ _ us hl => match us, hl with | [_, _, _], _ => rfl
  have F_size_on := fun_mk (st := s_size_on) l_size_on c_size_on k_size_on
  have B_size_on := F_size_on.binds (ps := ["shape", "letter"]) fun _ _ _ _ _ _ us hl => match us, hl with | [_, _], _ => rfl
  have F_check_extents := fun_mk (st := s_check_extents) l_check_extents c_check_extents k_check_extents
  have B_check_extents := F_check_extents.binds (ps := ["kind", "info", "shapes"]) fun _ _ _ _ _ _ us hl => match us, hl with | [_, _, _], _ => rfl
  have F_within := fun_mk (st := s_within) l_within c_within k_within
  have B_within := F_within.binds (ps := ["numbers", "low", "high"]) fun _ _ _ _ _ _ us hl => match us, hl with | [_, _, _], _ => rfl
  have F_check_fields := fun_mk (st := s_check_fields) l_check_fields c_check_fields k_check_fields
  have B_check_fields := F_check_fields.binds (ps := ["kind", "info"]) fun _ _ _ _ _ _ us hl => match us, hl with | [_, _], _ => rfl
  have F_count_of := fun_mk (st := s_count_of) l_count_of c_count_of k_count_of
  have B_count_of := F_count_of.binds (ps := ["shape"]) fun _ _ _ _ _ _ us hl => match us, hl with | [_], _ => rfl
  have F_check_form := fun_mk (st := s_check_form) l_check_form c_check_form k_check_form
  have B_check_form := F_check_form.binds (ps := ["node", "domains"]) fun _ _ _ _ _ _ us hl => match us, hl with | [_, _], _ => rfl
  have F_check_letters := fun_mk (st := s_check_letters) l_check_letters c_check_letters k_check_letters
  have B_check_letters := F_check_letters.binds (ps := ["shape"]) fun _ _ _ _ _ _ us hl => match us, hl with | [_], _ => rfl
  have F_check_shape := fun_mk (st := s_check_shape) l_check_shape c_check_shape k_check_shape
  have B_check_shape := F_check_shape.binds (ps := ["shape"]) fun _ _ _ _ _ _ us hl => match us, hl with | [_], _ => rfl
  have F_corners := fun_mk (st := s_corners) l_corners c_corners k_corners
  have B_corners := F_corners.binds (ps := ["a", "b"]) fun _ _ _ _ _ _ us hl => match us, hl with | [_, _], _ => rfl
  have F_other_span := fun_mk (st := s_other_span) l_other_span c_other_span k_other_span
  have B_other_span := F_other_span.binds (ps := ["kind", "info", "shapes", "spans"]) fun _ _ _ _ _ _ us hl => match us, hl with | [_, _, _, _], _ => rfl
  have F_limit := fun_mk (st := s_limit) l_limit c_limit k_limit
  have B_limit := F_limit.binds (ps := ["n", "low", "high"]) fun _ _ _ _ _ _ us hl => match us, hl with | [_, _, _], _ => rfl
  have F_round_off := fun_mk (st := s_round_off) l_round_off c_round_off k_round_off
  have B_round_off := F_round_off.binds (ps := ["n", "bits"]) fun _ _ _ _ _ _ us hl => match us, hl with | [_, _], _ => rfl
  have F_pointwise_span := fun_mk (st := s_pointwise_span) l_pointwise_span c_pointwise_span k_pointwise_span
  have B_pointwise_span := F_pointwise_span.binds (ps := ["kind", "info", "spans"]) fun _ _ _ _ _ _ us hl => match us, hl with | [_, _, _], _ => rfl
  have F_spread_together := fun_mk (st := s_spread_together) l_spread_together c_spread_together k_spread_together
  have B_spread_together := F_spread_together.binds (ps := ["first", "second"]) fun _ _ _ _ _ _ us hl => match us, hl with | [_, _], _ => rfl
  have F_broadcast := fun_mk (st := s_broadcast) l_broadcast c_broadcast k_broadcast
  have B_broadcast := F_broadcast.binds (ps := ["first", "second"]) fun _ _ _ _ _ _ us hl => match us, hl with | [_, _], _ => rfl
  have F_in_place_of := fun_mk (st := s_in_place_of) l_in_place_of c_in_place_of k_in_place_of
  have B_in_place_of := F_in_place_of.binds (ps := ["shape", "letter", "others"]) fun _ _ _ _ _ _ us hl => match us, hl with | [_, _, _], _ => rfl
  have F_resized := fun_mk (st := s_resized) l_resized c_resized k_resized
  have B_resized := F_resized.binds (ps := ["shape", "letter", "size"]) fun _ _ _ _ _ _ us hl => match us, hl with | [_, _, _], _ => rfl
  have F_without := fun_mk (st := s_without) l_without c_without k_without
  have B_without := F_without.binds (ps := ["shape", "letter"]) fun _ _ _ _ _ _ us hl => match us, hl with | [_, _], _ => rfl
  have F_raw_shape := fun_mk (st := s_raw_shape) l_raw_shape c_raw_shape k_raw_shape
  have B_raw_shape := F_raw_shape.binds (ps := ["kind", "info", "shapes"]) fun _ _ _ _ _ _ us hl => match us, hl with | [_, _, _], _ => rfl
  have F_shape_of := fun_mk (st := s_shape_of) l_shape_of c_shape_of k_shape_of
  have B_shape_of := F_shape_of.binds (ps := ["kind", "info", "shapes"]) fun _ _ _ _ _ _ us hl => match us, hl with | [_, _, _], _ => rfl
  have F_domain_of := fun_mk (st := s_domain_of) l_domain_of c_domain_of k_domain_of
  have B_domain_of := F_domain_of.binds (ps := ["node", "domains"]) fun _ _ _ _ _ _ us hl => match us, hl with | [_, _], _ => rfl
  have F_node_work := fun_mk (st := s_node_work) l_node_work c_node_work k_node_work
  have B_node_work := F_node_work.binds (ps := ["node", "domains", "shape"]) fun _ _ _ _ _ _ us hl => match us, hl with | [_, _, _], _ => rfl
  have F_total_work := fun_mk (st := s_total_work) l_total_work c_total_work k_total_work
  have B_total_work := F_total_work.binds (ps := ["nodes", "domains"]) fun _ _ _ _ _ _ us hl => match us, hl with | [_, _], _ => rfl
  have F_check_graph := fun_mk (st := s_check_graph) l_check_graph c_check_graph k_check_graph
  have B_check_graph := F_check_graph.binds (ps := ["graph"]) fun _ _ _ _ _ _ us hl => match us, hl with | [_], _ => rfl
  have F_letter_in := fun_mk (st := s_letter_in) l_letter_in c_letter_in k_letter_in
  have B_letter_in := F_letter_in.binds (ps := ["word"]) fun _ _ _ _ _ _ us hl => match us, hl with | [_], _ => rfl
  have F_letters_in := fun_mk (st := s_letters_in) l_letters_in c_letters_in k_letters_in
  have B_letters_in := F_letters_in.binds (ps := ["word"]) fun _ _ _ _ _ _ us hl => match us, hl with | [_], _ => rfl
  have F_number_in_notation := fun_mk (st := s_number_in_notation) l_number_in_notation c_number_in_notation k_number_in_notation
  have B_number_in_notation := F_number_in_notation.binds (ps := ["word"]) fun _ _ _ _ _ _ us hl => match us, hl with | [_], _ => rfl
  have F_read_natural := fun_mk (st := s_read_natural) l_read_natural c_read_natural k_read_natural
  have B_read_natural := F_read_natural.binds (ps := ["word", "most"]) fun _ _ _ _ _ _ us hl => match us, hl with | [_, _], _ => rfl
  have F_shape_in := fun_mk (st := s_shape_in) l_shape_in c_shape_in k_shape_in
  have B_shape_in := F_shape_in.binds (ps := ["word"]) fun _ _ _ _ _ _ us hl => match us, hl with | [_], _ => rfl
  have F_fields_in := fun_mk (st := s_fields_in) l_fields_in c_fields_in k_fields_in
  have B_fields_in := F_fields_in.binds (ps := ["kind", "words"]) fun _ _ _ _ _ _ us hl => match us, hl with | [_, _], _ => rfl
  have F_node_in := fun_mk (st := s_node_in) l_node_in c_node_in k_node_in
  have B_node_in := F_node_in.binds (ps := ["line"]) fun _ _ _ _ _ _ us hl => match us, hl with | [_], _ => rfl
  have F_read_graph := fun_mk (st := s_read_graph) l_read_graph c_read_graph k_read_graph
  have B_read_graph := F_read_graph.binds (ps := ["text"]) fun _ _ _ _ _ _ us hl => match us, hl with | [_], _ => rfl
  have F__law_told := fun_mk (st := s__law_told) l__law_told c__law_told k__law_told
  have B__law_told := F__law_told.binds (ps := ["which", "one", "two"]) fun _ _ _ _ _ _ us hl => match us, hl with | [_, _, _], _ => rfl
  have F__law_codes := fun_mk (st := s__law_codes) l__law_codes c__law_codes k__law_codes
  have B__law_codes := F__law_codes.binds (ps := []) fun _ _ _ _ _ _ us hl => match us, hl with | [], _ => rfl
  have F__law_graphs := fun_mk (st := s__law_graphs) l__law_graphs c__law_graphs k__law_graphs
  have B__law_graphs := F__law_graphs.binds (ps := []) fun _ _ _ _ _ _ us hl => match us, hl with | [], _ => rfl
  have F__law_lines := fun_mk (st := s__law_lines) l__law_lines c__law_lines k__law_lines
  have B__law_lines := F__law_lines.binds (ps := []) fun _ _ _ _ _ _ us hl => match us, hl with | [], _ => rfl
  have F__law_machines := fun_mk (st := s__law_machines) l__law_machines c__law_machines k__law_machines
  have B__law_machines := F__law_machines.binds (ps := []) fun _ _ _ _ _ _ us hl => match us, hl with | [], _ => rfl
  have F_law := fun_mk (st := s_law) l_law c_law k_law
  have B_law := F_law.binds (ps := ["script"]) fun _ _ _ _ _ _ us hl => match us, hl with | [_], _ => rfl
  have T : Txt K w mg := { b_abs := PySem.W.mg_none_of X G z_abs, b_all := PySem.W.mg_none_of X G z_all, b_any := PySem.W.mg_none_of X G z_any, b_int := PySem.W.mg_none_of X G z_int, b_isinstance := PySem.W.mg_none_of X G z_isinstance, b_len := PySem.W.mg_none_of X G z_len, b_list := PySem.W.mg_none_of X G z_list, b_max := PySem.W.mg_none_of X G z_max, b_min := PySem.W.mg_none_of X G z_min, b_range := PySem.W.mg_none_of X G z_range, b_sorted := PySem.W.mg_none_of X G z_sorted, b_tuple := PySem.W.mg_none_of X G z_tuple, d_check_machine := ⟨_, _, PySem.W.mg_of X G a_check_machine, F_check_machine, B_check_machine⟩, d_check_skip := ⟨_, _, PySem.W.mg_of X G a_check_skip, F_check_skip, B_check_skip⟩, d_depths_of := ⟨_, _, PySem.W.mg_of X G a_depths_of, F_depths_of, B_depths_of⟩, d_fields_in_range := ⟨_, _, PySem.W.mg_of X G a_fields_in_range, F_fields_in_range, B_fields_in_range⟩, d_fits_width := ⟨_, _, PySem.W.mg_of X G a_fits_width, F_fits_width, B_fits_width⟩, d_loop_in_range := ⟨_, _, PySem.W.mg_of X G a_loop_in_range, F_loop_in_range, B_loop_in_range⟩, d_own_in_range := ⟨_, _, PySem.W.mg_of X G a_own_in_range, F_own_in_range, B_own_in_range⟩, d_in_range := ⟨_, _, PySem.W.mg_of X G a_in_range, F_in_range, B_in_range⟩, d_steps_in := ⟨_, _, PySem.W.mg_of X G a_steps_in, F_steps_in, B_steps_in⟩, d_well_formed := ⟨_, _, PySem.W.mg_of X G a_well_formed, F_well_formed, B_well_formed⟩, d_check_code := ⟨_, _, PySem.W.mg_of X G a_check_code, F_check_code, B_check_code⟩, d_read_integer := ⟨_, _, PySem.W.mg_of X G a_read_integer, F_read_integer, B_read_integer⟩, d_number_in_listing := ⟨_, _, PySem.W.mg_of X G a_number_in_listing, F_number_in_listing, B_number_in_listing⟩, d_group_in := ⟨_, _, PySem.W.mg_of X G a_group_in, F_group_in, B_group_in⟩, d_kind_in := ⟨_, _, PySem.W.mg_of X G a_kind_in, F_kind_in, B_kind_in⟩, d_do_in := ⟨_, _, PySem.W.mg_of X G a_do_in, F_do_in, B_do_in⟩, d_instruction_in := ⟨_, _, PySem.W.mg_of X G a_instruction_in, F_instruction_in, B_instruction_in⟩, d_read_code := ⟨_, _, PySem.W.mg_of X G a_read_code, F_read_code, B_read_code⟩, d_letters_of := ⟨_, _, PySem.W.mg_of X G a_letters_of, F_letters_of, B_letters_of⟩, d_same_but := ⟨_, _, PySem.W.mg_of X G a_same_but, F_same_but, B_same_but⟩, d_check_axes := ⟨_, _, PySem.W.mg_of X G a_check_axes, F_check_axes, B_check_axes⟩, d_size_on := ⟨_, _, PySem.W.mg_of X G a_size_on, F_size_on, B_size_on⟩, d_check_extents := ⟨_, _, PySem.W.mg_of X G a_check_extents, F_check_extents, B_check_extents⟩, d_within := ⟨_, _, PySem.W.mg_of X G a_within, F_within, B_within⟩, d_check_fields := ⟨_, _, PySem.W.mg_of X G a_check_fields, F_check_fields, B_check_fields⟩, d_count_of := ⟨_, _, PySem.W.mg_of X G a_count_of, F_count_of, B_count_of⟩, d_check_form := ⟨_, _, PySem.W.mg_of X G a_check_form, F_check_form, B_check_form⟩, d_check_letters := ⟨_, _, PySem.W.mg_of X G a_check_letters, F_check_letters, B_check_letters⟩, d_check_shape := ⟨_, _, PySem.W.mg_of X G a_check_shape, F_check_shape, B_check_shape⟩, d_corners := ⟨_, _, PySem.W.mg_of X G a_corners, F_corners, B_corners⟩, d_other_span := ⟨_, _, PySem.W.mg_of X G a_other_span, F_other_span, B_other_span⟩, d_limit := ⟨_, _, PySem.W.mg_of X G a_limit, F_limit, B_limit⟩, d_round_off := ⟨_, _, PySem.W.mg_of X G a_round_off, F_round_off, B_round_off⟩, d_pointwise_span := ⟨_, _, PySem.W.mg_of X G a_pointwise_span, F_pointwise_span, B_pointwise_span⟩, d_spread_together := ⟨_, _, PySem.W.mg_of X G a_spread_together, F_spread_together, B_spread_together⟩, d_broadcast := ⟨_, _, PySem.W.mg_of X G a_broadcast, F_broadcast, B_broadcast⟩, d_in_place_of := ⟨_, _, PySem.W.mg_of X G a_in_place_of, F_in_place_of, B_in_place_of⟩, d_resized := ⟨_, _, PySem.W.mg_of X G a_resized, F_resized, B_resized⟩, d_without := ⟨_, _, PySem.W.mg_of X G a_without, F_without, B_without⟩, d_raw_shape := ⟨_, _, PySem.W.mg_of X G a_raw_shape, F_raw_shape, B_raw_shape⟩, d_shape_of := ⟨_, _, PySem.W.mg_of X G a_shape_of, F_shape_of, B_shape_of⟩, d_domain_of := ⟨_, _, PySem.W.mg_of X G a_domain_of, F_domain_of, B_domain_of⟩, d_node_work := ⟨_, _, PySem.W.mg_of X G a_node_work, F_node_work, B_node_work⟩, d_total_work := ⟨_, _, PySem.W.mg_of X G a_total_work, F_total_work, B_total_work⟩, d_check_graph := ⟨_, _, PySem.W.mg_of X G a_check_graph, F_check_graph, B_check_graph⟩, d_letter_in := ⟨_, _, PySem.W.mg_of X G a_letter_in, F_letter_in, B_letter_in⟩, d_letters_in := ⟨_, _, PySem.W.mg_of X G a_letters_in, F_letters_in, B_letters_in⟩, d_number_in_notation := ⟨_, _, PySem.W.mg_of X G a_number_in_notation, F_number_in_notation, B_number_in_notation⟩, d_read_natural := ⟨_, _, PySem.W.mg_of X G a_read_natural, F_read_natural, B_read_natural⟩, d_shape_in := ⟨_, _, PySem.W.mg_of X G a_shape_in, F_shape_in, B_shape_in⟩, d_fields_in := ⟨_, _, PySem.W.mg_of X G a_fields_in, F_fields_in, B_fields_in⟩, d_node_in := ⟨_, _, PySem.W.mg_of X G a_node_in, F_node_in, B_node_in⟩, d_read_graph := ⟨_, _, PySem.W.mg_of X G a_read_graph, F_read_graph, B_read_graph⟩, d__law_told := ⟨_, _, PySem.W.mg_of X G a__law_told, F__law_told, B__law_told⟩, d__law_codes := ⟨_, _, PySem.W.mg_of X G a__law_codes, F__law_codes, B__law_codes⟩, d__law_graphs := ⟨_, _, PySem.W.mg_of X G a__law_graphs, F__law_graphs, B__law_graphs⟩, d__law_lines := ⟨_, _, PySem.W.mg_of X G a__law_lines, F__law_lines, B__law_lines⟩, d__law_machines := ⟨_, _, PySem.W.mg_of X G a__law_machines, F__law_machines, B__law_machines⟩, d_law := ⟨_, _, PySem.W.mg_of X G a_law, F_law, B_law⟩, e_AxisError := T_AxisError.err, e_FormError := T_FormError.err, e_KindError := T_KindError.err, e_MachineError := T_MachineError.err, e_RangeError := T_RangeError.err, e_RankError := T_RankError.err, e_TextError := T_TextError.err, e_TooLarge := T_TooLarge.err, e_TooWide := T_TooWide.err, c_TensorError := catch_of T_TensorError (.cons T_AxisError sb_AxisError_TensorError (.cons T_FormError sb_FormError_TensorError (.cons T_KindError sb_KindError_TensorError (.cons T_MachineError sb_MachineError_TensorError (.cons T_RangeError sb_RangeError_TensorError (.cons T_RankError sb_RankError_TensorError (.cons T_TextError sb_TextError_TensorError (.cons T_TooLarge sb_TooLarge_TensorError (.cons T_TooWide sb_TooWide_TensorError .nil))))))))), i_FormError := isT_of T_FormError O (.cons T_AxisError sb_AxisError_FormError (.cons T_FormError sb_FormError_FormError (.cons T_KindError sb_KindError_FormError (.cons T_MachineError sb_MachineError_FormError (.cons T_RangeError sb_RangeError_FormError (.cons T_RankError sb_RankError_FormError (.cons T_TextError sb_TextError_FormError (.cons T_TooLarge sb_TooLarge_FormError (.cons T_TooWide sb_TooWide_FormError .nil))))))))) (by simp [ti_FormError]) sb_FormError_FormError, i_MachineError := isT_of T_MachineError O (.cons T_AxisError sb_AxisError_MachineError (.cons T_FormError sb_FormError_MachineError (.cons T_KindError sb_KindError_MachineError (.cons T_MachineError sb_MachineError_MachineError (.cons T_RangeError sb_RangeError_MachineError (.cons T_RankError sb_RankError_MachineError (.cons T_TextError sb_TextError_MachineError (.cons T_TooLarge sb_TooLarge_MachineError (.cons T_TooWide sb_TooWide_MachineError .nil))))))))) (by simp [ti_MachineError]) sb_MachineError_MachineError, i_RangeError := isT_of T_RangeError O (.cons T_AxisError sb_AxisError_RangeError (.cons T_FormError sb_FormError_RangeError (.cons T_KindError sb_KindError_RangeError (.cons T_MachineError sb_MachineError_RangeError (.cons T_RangeError sb_RangeError_RangeError (.cons T_RankError sb_RankError_RangeError (.cons T_TextError sb_TextError_RangeError (.cons T_TooLarge sb_TooLarge_RangeError (.cons T_TooWide sb_TooWide_RangeError .nil))))))))) (by simp [ti_RangeError]) sb_RangeError_RangeError, i_TextError := isT_of T_TextError O (.cons T_AxisError sb_AxisError_TextError (.cons T_FormError sb_FormError_TextError (.cons T_KindError sb_KindError_TextError (.cons T_MachineError sb_MachineError_TextError (.cons T_RangeError sb_RangeError_TextError (.cons T_RankError sb_RankError_TextError (.cons T_TextError sb_TextError_TextError (.cons T_TooLarge sb_TooLarge_TextError (.cons T_TooWide sb_TooWide_TextError .nil))))))))) (by simp [ti_TextError]) sb_TextError_TextError, g_BROADCAST := gc_of (PySem.W.mg_of X G ga_BROADCAST) (.tup kk1 (by simp) (.cons .str (.cons .str (.cons .str (.cons .str (.cons .str (.cons .str (.cons .str (.cons .str .nil))))))))), g_CODE_LIMIT := gc_of (PySem.W.mg_of X G ga_CODE_LIMIT) .int, g_COUNT_LIMIT := gc_of (PySem.W.mg_of X G ga_COUNT_LIMIT) .int, g_EXECUTION_LIMIT := gc_of (PySem.W.mg_of X G ga_EXECUTION_LIMIT) .int, g_FIGURES := gc_of (PySem.W.mg_of X G ga_FIGURES) .str, g_FIGURE_LIMIT_listing := gc_of (PySem.W.mg_of X G ga_FIGURE_LIMIT_listing) .int, g_FIGURE_LIMIT_notation := gc_of (PySem.W.mg_of X G ga_FIGURE_LIMIT_notation) .int, g_LETTERS := gc_of (PySem.W.mg_of X G ga_LETTERS) .str, g_LIMITS := gc_of (PySem.W.mg_of X G ga_LIMITS) (.tup kk17 (by simp) (.cons (.tup kk18 (by simp) (.cons .int (.cons .int .nil))) (.cons (.tup kk21 (by simp) (.cons .int (.cons .int .nil))) (.cons (.tup kk24 (by simp) (.cons .int (.cons .int .nil))) (.cons (.tup kk27 (by simp) (.cons .int (.cons .int .nil))) (.cons (.tup kk30 (by simp) (.cons .int (.cons .int .nil))) .nil)))))), g_NEST_LIMIT := gc_of (PySem.W.mg_of X G ga_NEST_LIMIT) .int, g_NODE_LIMIT := gc_of (PySem.W.mg_of X G ga_NODE_LIMIT) .int, g_POINTWISE := gc_of (PySem.W.mg_of X G ga_POINTWISE) (.tup kk35 (by simp) (.cons .str (.cons .str (.cons .str (.cons .str (.cons .str (.cons .str (.cons .str (.cons .str (.cons .str (.cons .str (.cons .str .nil)))))))))))), g_RANK_LIMIT := gc_of (PySem.W.mg_of X G ga_RANK_LIMIT) .int, g_SIZE_LIMIT := gc_of (PySem.W.mg_of X G ga_SIZE_LIMIT) .int, g_WIDEST := gc_of (PySem.W.mg_of X G ga_WIDEST) .int, g_WITH_AXIS := gc_of (PySem.W.mg_of X G ga_WITH_AXIS) (.tup kk50 (by simp) (.cons .str (.cons .str (.cons .str (.cons .str (.cons .str (.cons .str (.cons .str (.cons .str (.cons .str (.cons .str .nil))))))))))), g_WORK_LIMIT := gc_of (PySem.W.mg_of X G ga_WORK_LIMIT) .int, k_ARGS := ⟨⟨_, _, _, PySem.W.mg_of X G kb_ARGS, ⟨kl_ARGS, by simpa using kk_ARGS, ks_ARGS⟩, by simpa using (.cons ⟨_, rfl⟩ .int (.cons ⟨_, rfl⟩ .int (.cons ⟨_, rfl⟩ .int (.cons ⟨_, rfl⟩ .int (.cons ⟨_, rfl⟩ .int (.cons ⟨_, rfl⟩ .int (.cons ⟨_, rfl⟩ .int (.cons ⟨_, rfl⟩ .int (.cons ⟨_, rfl⟩ .int (.cons ⟨_, rfl⟩ .int (.cons ⟨_, rfl⟩ .int (.cons ⟨_, rfl⟩ .int (.cons ⟨_, rfl⟩ .int (.cons ⟨_, rfl⟩ .int (.cons ⟨_, rfl⟩ .int (.cons ⟨_, rfl⟩ .int (.cons ⟨_, rfl⟩ .int (.cons ⟨_, rfl⟩ .int (.cons ⟨_, rfl⟩ .int (.cons ⟨_, rfl⟩ .int (.cons ⟨_, rfl⟩ .int (.cons ⟨_, rfl⟩ .int (.cons ⟨_, rfl⟩ .int (.cons ⟨_, rfl⟩ .int (.cons ⟨_, rfl⟩ .int .nil)))))))))))))))))))))))))⟩⟩, k_AXIS_FIELDS := ⟨⟨_, _, _, PySem.W.mg_of X G kb_AXIS_FIELDS, ⟨kl_AXIS_FIELDS, by simpa using kk_AXIS_FIELDS, ks_AXIS_FIELDS⟩, by simpa using (.cons ⟨_, rfl⟩ .int (.cons ⟨_, rfl⟩ .int (.cons ⟨_, rfl⟩ .int (.cons ⟨_, rfl⟩ .int (.cons ⟨_, rfl⟩ .int (.cons ⟨_, rfl⟩ .int (.cons ⟨_, rfl⟩ .int (.cons ⟨_, rfl⟩ .int (.cons ⟨_, rfl⟩ .int (.cons ⟨_, rfl⟩ .int (.cons ⟨_, rfl⟩ .int .nil)))))))))))⟩⟩, k_FIELDS := ⟨⟨_, _, _, PySem.W.mg_of X G kb_FIELDS, ⟨kl_FIELDS, by simpa using kk_FIELDS, ks_FIELDS⟩, by simpa using (.cons ⟨_, rfl⟩ .int (.cons ⟨_, rfl⟩ .int (.cons ⟨_, rfl⟩ .int (.cons ⟨_, rfl⟩ .int (.cons ⟨_, rfl⟩ .int (.cons ⟨_, rfl⟩ .int (.cons ⟨_, rfl⟩ .int (.cons ⟨_, rfl⟩ .int (.cons ⟨_, rfl⟩ .int (.cons ⟨_, rfl⟩ .int (.cons ⟨_, rfl⟩ .int (.cons ⟨_, rfl⟩ .int (.cons ⟨_, rfl⟩ .int (.cons ⟨_, rfl⟩ .int (.cons ⟨_, rfl⟩ .int (.cons ⟨_, rfl⟩ .int (.cons ⟨_, rfl⟩ .int (.cons ⟨_, rfl⟩ .int (.cons ⟨_, rfl⟩ .int (.cons ⟨_, rfl⟩ .int (.cons ⟨_, rfl⟩ .int (.cons ⟨_, rfl⟩ .int (.cons ⟨_, rfl⟩ .int (.cons ⟨_, rfl⟩ .int (.cons ⟨_, rfl⟩ .int .nil)))))))))))))))))))))))))⟩⟩, k_LENGTHS := ⟨⟨_, _, _, PySem.W.mg_of X G kb_LENGTHS, ⟨kl_LENGTHS, by simpa using kk_LENGTHS, ks_LENGTHS⟩, by simpa using (.cons ⟨_, rfl⟩ .int (.cons ⟨_, rfl⟩ .int (.cons ⟨_, rfl⟩ .int (.cons ⟨_, rfl⟩ .int (.cons ⟨_, rfl⟩ .int (.cons ⟨_, rfl⟩ .int (.cons ⟨_, rfl⟩ .int (.cons ⟨_, rfl⟩ .int (.cons ⟨_, rfl⟩ .int (.cons ⟨_, rfl⟩ .int (.cons ⟨_, rfl⟩ .int (.cons ⟨_, rfl⟩ .int .nil))))))))))))⟩⟩, k_OFFSETS := ⟨⟨_, _, _, PySem.W.mg_of X G kb_OFFSETS, ⟨kl_OFFSETS, by simpa using kk_OFFSETS, ks_OFFSETS⟩, by simpa using (.cons ⟨_, rfl⟩ (.tup kk135 (by simp) .nil) (.cons ⟨_, rfl⟩ (.tup kk136 (by simp) .nil) (.cons ⟨_, rfl⟩ (.tup kk137 (by simp) (.cons .int .nil)) (.cons ⟨_, rfl⟩ (.tup kk139 (by simp) (.cons .int .nil)) (.cons ⟨_, rfl⟩ (.tup kk141 (by simp) (.cons .int (.cons .int .nil))) (.cons ⟨_, rfl⟩ (.tup kk144 (by simp) .nil) (.cons ⟨_, rfl⟩ (.tup kk145 (by simp) .nil) (.cons ⟨_, rfl⟩ (.tup kk146 (by simp) .nil) (.cons ⟨_, rfl⟩ (.tup kk147 (by simp) .nil) (.cons ⟨_, rfl⟩ (.tup kk148 (by simp) (.cons .int (.cons .int .nil))) (.cons ⟨_, rfl⟩ (.tup kk151 (by simp) (.cons .int (.cons .int .nil))) (.cons ⟨_, rfl⟩ (.tup kk154 (by simp) .nil) .nil))))))))))))⟩⟩, k_SLOTS := ⟨⟨_, _, _, PySem.W.mg_of X G kb_SLOTS, ⟨kl_SLOTS, by simpa using kk_SLOTS, ks_SLOTS⟩, by simpa using (.cons ⟨_, rfl⟩ (.tup kk155 (by simp) (.cons .int .nil)) (.cons ⟨_, rfl⟩ (.tup kk157 (by simp) (.cons .int .nil)) (.cons ⟨_, rfl⟩ (.tup kk159 (by simp) (.cons .int (.cons .int .nil))) (.cons ⟨_, rfl⟩ (.tup kk162 (by simp) (.cons .int (.cons .int .nil))) (.cons ⟨_, rfl⟩ (.tup kk165 (by simp) (.cons .int (.cons .int (.cons .int .nil)))) (.cons ⟨_, rfl⟩ (.tup kk169 (by simp) (.cons .int (.cons .int (.cons .int .nil)))) (.cons ⟨_, rfl⟩ (.tup kk173 (by simp) (.cons .int .nil)) (.cons ⟨_, rfl⟩ (.tup kk175 (by simp) .nil) (.cons ⟨_, rfl⟩ (.tup kk176 (by simp) (.cons .int .nil)) (.cons ⟨_, rfl⟩ (.tup kk178 (by simp) (.cons .int (.cons .int .nil))) (.cons ⟨_, rfl⟩ (.tup kk181 (by simp) (.cons .int (.cons .int .nil))) (.cons ⟨_, rfl⟩ (.tup kk184 (by simp) .nil) .nil))))))))))))⟩⟩ }
  refine ⟨PySem.W.fnOf "law" "law" (defArgs s_law) (defBody s_law) (defScope s_law) .none kV_law dc_law pm_law an_law cd_law ct_law, fun s v => .of_eq rfl, fun base _ _ => ?_⟩
  exact fn_ok (N := n_law) F_law sc_law fun cdv A outer s H E hr =>
  (dss_cons (ds_set (i := 1) sc_law.nd rfl (.inl rfl) de_int)
  (dss_cons (ds_for (t := (.one 2)) (passes_of rfl) rfl (di_scr (dv 0)) (pg_name (i := 2) sc_law.nd rfl (.inl rfl)) (dss_one (ds_set (i := 1) sc_law.nd rfl (.inl rfl) (de_mod (de_intT T.b_int (da_cons (de_add (dv 1) (de_abs T.b_abs (da_cons (dv 2) da_nil))) da_nil)) de_int))))
  (dss_one (ds_ret (de_callSel4 (ok__law_machines T) (ok__law_codes T) (ok__law_lines T) (ok__law_graphs T) hr (takes_of rfl rfl rfl rfl) (dv 1))))))
end Lw
namespace Lw
open PySem PySem.Spec PyProof.Rows L2 DL
def isT : Rn Unit D → Bool
  | .ok (.p (.bl true)) => true
  | _ => false
theorem isT_eq {r : Rn Unit D} (h : isT r = true) : r = .ok (.p (.bl true)) := by
  unfold isT at h
  split at h
  · rfl
  · cases h


theorem v_machines : m__law_machines [] = .ok (.p (.bl true)) := isT_eq (by decide +kernel)
theorem v_codes : m__law_codes [] = .ok (.p (.bl true)) := isT_eq (by decide +kernel)
theorem v_lines : m__law_lines [] = .ok (.p (.bl true)) := isT_eq (by decide +kernel)
theorem v_graphs : m__law_graphs [] = .ok (.p (.bl true)) := isT_eq (by decide +kernel)
theorem sel_ok (k : Nat) (h : k < 4) (s1 s2 : S) : gSel [m__law_machines, m__law_codes, m__law_lines, m__law_graphs] (gVar 1) [s1, .own (.p (.int (k : Int))), s2] = .ok (.own (.p (.bl true))) := by
  have e1 : gVar 1 [s1, .own (.p (.int (k : Int))), s2] = .ok (.own (.p (.int (k : Int)))) := rfl
  have e : ∀ f ∈ [m__law_machines, m__law_codes, m__law_lines, m__law_graphs], f [] = .ok (.p (.bl true)) := fun f hf => by
    simp only [List.mem_cons, List.not_mem_nil, or_false] at hf
    rcases hf with rfl | rfl | rfl | rfl
    · exact v_machines
    · exact v_codes
    · exact v_lines
    · exact v_graphs
  have hl : [m__law_machines, m__law_codes, m__law_lines, m__law_graphs].length = 4 := rfl
  revert e hl
  generalize [m__law_machines, m__law_codes, m__law_lines, m__law_graphs] = fs
  intro e hl
  unfold gSel
  rw [e1]
  have hg : fs[k]? = some fs[k] := List.getElem?_eq_getElem (by omega)
  have h2 := e _ (List.getElem_mem (l := fs) (n := k) (by omega))
  simp only [Rn.ok_bind, R.d, Int.natCast_nonneg, if_true, Int.toNat_natCast, hg, h2]
def turn : GS := gSet 1 (gOp2 fMod (gCall fIntT (gCons (gOp2 fAdd (gVar 1) (gCall fAbs (gCons (gVar 2) gNil))) gNil)) (gC (.int 4)))
theorem turn_ok (k : Nat) (n : Int) (s1 : S) : ∃ j : Nat, j < 4 ∧ turn [s1, .own (.p (.int (k : Int))), .own (.p (.int n))] = .ok (.nx [s1, .own (.p (.int (j : Int))), .own (.p (.int n))]) := by
  have h0 : 0 ≤ (k : Int) + (if n < 0 then -n else n) := by split <;> omega
  refine ⟨(((k : Int) + (if n < 0 then -n else n)) % 4).toNat, by omega, ?_⟩
  have e : (((((k : Int) + (if n < 0 then -n else n)) % 4).toNat : Nat) : Int) = ((k : Int) + (if n < 0 then -n else n)) % 4 := Int.toNat_of_nonneg (by omega)
  rw [e]
  rfl
theorem m_law_wp (ns : List Int) (h : ns.length ≤ 63) : Wp (m_law [.scr ns]) (fun d => d = .p (.bl true)) fun _ _ => False := by
  refine fn_wp ?_
  unfold g_law
  refine seq_ok (δ' := [.bor none (.scr ns), .own (.p (.int ((0 : Nat) : Int))), .no]) rfl ?_
  refine seq_wp (fun δ => ∃ (k : Nat) (s1 s2 : S), k < 4 ∧ δ = [s1, .own (.p (.int (k : Int))), s2]) ?_ ?_
  · refine for_wp (xs := ns.map P.int) rfl ?_
    refine forL_inv (fun xs δ => (∃ l : List Int, xs = l.map P.int) ∧ ∃ (k : Nat) (s1 s2 : S), k < 4 ∧ δ = [s1, .own (.p (.int (k : Int))), s2]) ?_ (fun _ h => h.2) _ _ ⟨⟨ns, rfl⟩, 0, _, _, by omega, rfl⟩
    rintro x xs _ ⟨⟨l, hl⟩, k, s1, s2, hk, rfl⟩
    cases l with
    | nil => cases hl
    | cons n l =>
      rw [List.map_cons] at hl
      obtain ⟨rfl, rfl⟩ := List.cons.inj hl
      refine ⟨[s1, .own (.p (.int (k : Int))), .own (.p (.int n))], rfl, ?_⟩
      obtain ⟨j, hj, e⟩ := turn_ok k n s1
      show Wp (turn _) _ _
      rw [e]
      exact wp_ok.mpr ⟨⟨l, rfl⟩, j, _, _, hj, rfl⟩
  · rintro _ ⟨k, s1, s2, hk, rfl⟩
    refine w_ret ?_
    rw [sel_ok k hk s1 s2]
    exact wp_ok.mpr ⟨_, rfl, rfl⟩
theorem m_law_ok : ∀ ns : List Int, ns.length ≤ 63 → (m_law [.scr ns]).wp (fun d => d = .p (.bl true)) fun _ _ => False := fun ns h => (m_law_wp ns h).r
end Lw
namespace Lw
noncomputable section
open PySem PySem.W PySem.Calls PyProof.Rows
def qV : Program := view PySem.Challenge.pw_tensorworks_k81_both_sides_of_each_bound [104]
def looseV : List PySem.Str := (["TensorError", "TextError", "RankError", "AxisError", "RangeError", "TooLarge", "KindError", "FormError", "TooWide", "MachineError", "NODE_LIMIT", "WORK_LIMIT", "ARGS", "FIELDS", "POINTWISE", "WIDEST", "limit", "round_off", "fields_in_range", "LIMITS", "check_machine", "fits_width", "CODE_LIMIT", "NEST_LIMIT", "EXECUTION_LIMIT", "LENGTHS", "SLOTS", "OFFSETS", "well_formed", "depths_of", "check_skip", "loop_in_range", "own_in_range", "in_range", "steps_in", "check_code", "FIGURES", "read_integer", "read_natural", "FIGURE_LIMIT_listing", "number_in", "number_in_listing", "kind_in", "group_in", "do_in", "instruction_in", "read_code", "RANK_LIMIT", "SIZE_LIMIT", "COUNT_LIMIT", "count_of", "letters_of", "size_on", "check_letters", "check_shape", "spread_together", "broadcast", "WITH_AXIS", "BROADCAST", "check_form", "within", "check_fields", "same_but", "check_axes", "check_extents", "resized", "without", "in_place_of", "raw_shape", "shape_of", "corners", "pointwise_span", "other_span", "domain_of", "node_work", "total_work", "check_graph", "LETTERS", "FIGURE_LIMIT_notation", "AXIS_FIELDS", "number_in_notation", "letter_in", "letters_in", "shape_in", "fields_in", "node_in", "read_graph", "_law_told", "_law_machines", "_law_codes", "_law_lines", "_law_graphs"] : List String).map PySem.Str.ofString
set_option hygiene false
set_option maxHeartbeats 0
local macro_rules | `(tactic| o_headL $H) => `(tactic| (have hh := $H; exact hyp))
theorem pre (hyp : PySem.Challenge.rw_tensorworks_k81_both_sides_of_each_bound.row.Holds) : PySem.Challenge.rw_tensorworks_k81_both_sides_of_each_bound.row.Holds := by
  w_on; k_headL
def asV : List Addr := [2, 3, 15, 22, 23, 24, 25, 28, 35, 36, 37, 40, 47, 48, 49, 52, 59, 60, 61, 64, 71, 72, 73, 76, 83, 84, 85, 88, 95, 96, 97, 100, 107, 108, 109, 112, 119, 120, 121, 124, 131, 132, 133, 136, 138, 140, 141, 143, 144, 146, 147, 148, 150, 151, 153, 154, 155, 157, 158, 160, 161, 162, 163, 164, 165, 166, 167, 168, 170, 171, 173, 174, 175, 177, 178, 180, 181, 182, 183, 184, 185, 186, 187, 188, 189, 190, 191, 192, 193, 194, 195, 196, 197, 198, 199, 200, 201, 202, 203, 204, 205, 206, 207, 208, 209, 211, 212, 214, 215, 216, 218, 219, 221, 222, 223, 225, 226, 228, 229, 230, 232, 233, 235, 236, 237, 240, 241, 242, 245, 246, 247, 249, 250, 252, 253, 254, 256, 257, 259, 260, 261, 263, 264, 266, 267, 268, 270, 271, 273, 274, 275, 277, 278, 280, 281, 282, 284, 285, 287, 288, 289, 292, 293, 294, 296, 297, 299, 300, 301, 304, 305, 306, 309, 310, 311, 313, 314, 316, 317, 318, 321, 322, 323, 325, 326, 328, 329, 330, 332, 333, 335, 336, 337, 339, 340, 342, 343, 344, 346, 347, 349, 350, 351, 353, 354, 356, 357, 358, 359, 360, 362, 363, 365, 366, 367, 369, 370, 372, 373, 374, 376, 377, 379, 380, 381, 383, 384, 386, 387, 388, 391, 392, 393, 395, 396, 398, 399, 400, 403, 404, 405, 408, 409, 410, 412, 413, 415, 416, 417, 420, 421, 422, 424, 425, 427, 428, 429, 431, 432, 434, 435, 436, 438, 439, 441, 442, 443, 445, 446, 448, 449, 450, 453, 454, 455, 457, 458, 460, 461, 462, 464, 465, 467, 468, 469, 471, 472, 474, 475, 476, 477, 479, 480, 482, 483, 484, 486, 487, 489, 490, 491, 493, 494, 496, 497, 498, 500, 501, 503, 504, 505, 508, 509, 510, 513, 514, 515, 518, 519, 520, 522, 523, 525, 526, 527, 529, 530, 532, 533, 534, 537, 538, 539, 541, 542, 544, 545, 546, 549, 550, 551, 553, 554, 556, 557]
theorem asV_ok (P : Params) : asV = (Lw.pre.heap_1 P).map (·.1) := by kernel_rfl
noncomputable def hkV : Hook := kHook Lw.pre.heap_1 asV asV_ok
def EQ (b : Bool) (w : World) (os : OsState) : Prop := (HeadRun.endF (HeadRun.stepQ (HeadRun.denQ HeadRun.tabQ) PySem.Challenge.pw_tensorworks_k81_both_sides_of_each_bound (w.withFollow "special-get-raises" b)) 11916 PySem.Challenge.pw_tensorworks_k81_both_sides_of_each_bound (w.withFollow "special-get-raises" b) os).map (fun s => (HeadRun.looksF PySem.Challenge.pw_tensorworks_k81_both_sides_of_each_bound (boot_heap (w.withFollow "special-get-raises" b).params) s.abs, HeadRun.seenQ qV looseV (importedModules PySem.Challenge.pw_tensorworks_k81_both_sides_of_each_bound.main.body) (fun s => xlAt qV [] s && recOk (OpenRow.toRowW PySem.Challenge.rw_tensorworks_k81_both_sides_of_each_bound.row).records s) s.abs, asV.map (HeadRun.getT s))) = some (true, openGood qV looseV, (Lw.pre.heap_1 (w.withFollow "special-get-raises" b).params).map fun x => some x.2)
theorem run_true (w : World) (os : OsState) : EQ true w os := by
  unfold EQ
  kernel_rfl
theorem run_false (w : World) (os : OsState) : EQ false w os := by
  unfold EQ
  kernel_rfl
theorem both_w {P : World → Prop} (row : String) (h : ∀ (b : Bool) (w : World), P (w.withFollow row b)) (w : World) : P w := by
  have := h (w.params.followText row) w
  rwa [World.withFollow_self] at this
theorem run_all (w : World) : ∀ os : OsState, (HeadRun.endF (HeadRun.stepQ (HeadRun.denQ HeadRun.tabQ) PySem.Challenge.pw_tensorworks_k81_both_sides_of_each_bound w) 11916 PySem.Challenge.pw_tensorworks_k81_both_sides_of_each_bound w os).map (fun s => (HeadRun.looksF PySem.Challenge.pw_tensorworks_k81_both_sides_of_each_bound (boot_heap w.params) s.abs, HeadRun.seenQ qV looseV (importedModules PySem.Challenge.pw_tensorworks_k81_both_sides_of_each_bound.main.body) (fun s => xlAt qV [] s && recOk (OpenRow.toRowW PySem.Challenge.rw_tensorworks_k81_both_sides_of_each_bound.row).records s) s.abs, asV.map (HeadRun.getT s))) = some (true, openGood qV looseV, (Lw.pre.heap_1 w.params).map fun x => some x.2) :=
  both_w (P := fun w => ∀ os : OsState, (HeadRun.endF (HeadRun.stepQ (HeadRun.denQ HeadRun.tabQ) PySem.Challenge.pw_tensorworks_k81_both_sides_of_each_bound w) 11916 PySem.Challenge.pw_tensorworks_k81_both_sides_of_each_bound w os).map (fun s => (HeadRun.looksF PySem.Challenge.pw_tensorworks_k81_both_sides_of_each_bound (boot_heap w.params) s.abs, HeadRun.seenQ qV looseV (importedModules PySem.Challenge.pw_tensorworks_k81_both_sides_of_each_bound.main.body) (fun s => xlAt qV [] s && recOk (OpenRow.toRowW PySem.Challenge.rw_tensorworks_k81_both_sides_of_each_bound.row).records s) s.abs, asV.map (HeadRun.getT s))) = some (true, openGood qV looseV, (Lw.pre.heap_1 w.params).map fun x => some x.2)) "special-get-raises" (fun b w os => match b with | true => run_true w os | false => run_false w os) w
end
end Lw
open PySem PySem.W PySem.Calls PyProof.Rows
set_option maxHeartbeats 0 in
theorem PySem.Challenge.cw_tensorworks_k81_both_sides_of_each_bound_holds : PySem.Challenge.rw_tensorworks_k81_both_sides_of_each_bound.Holds := by
  w_on; o_law
  refine holds_open (q := Lw.qV) (loose := Lw.looseV) (Xt := fun s => xlAt Lw.qV [] s && recOk (OpenRow.toRowW PySem.Challenge.rw_tensorworks_k81_both_sides_of_each_bound.row).records s) (XP := XL Lw.qV []) (Yf := Hook.obs Lw.hkV) (Ya := Hook.val Lw.hkV) (YP := Hook.says Lw.hkV) (N := 12616) (HeadRun.left_oneK (M := 11916) (by kernel_rfl) (by rfl) (fun s => by kernel_rfl) (by rfl) fun w os => Lw.run_all w os) (Hook.of Lw.hkV) (Hook.keeps Lw.hkV) (fun s e => xl_of s (Bool.and_eq_true_iff.mp e).1) XL.keeps (by rfl) (by rfl) (by rfl) (fun s e => recFacts_of (Bool.and_eq_true_iff.mp e).2) (by rfl) (by first | assumption | decide +kernel) (by decide +kernel) ⟨rfl, rfl, rfl, rfl, rfl, by decide +kernel⟩ ?hw ?hc
  (case hw => w_witness2)
  k_fill
  refine L2.walk_of (l := PySem.Challenge.rw_tensorworks_k81_both_sides_of_each_bound) (n := 63) (k := 11) (x := "script") (CX := fun w => L2.CX PySem.Challenge.pw_tensorworks_k81_both_sides_of_each_bound w) (sp := fun w => DL.spAny Lw.m_law _) rfl (by decide) rfl ⟨rfl, by decide, by decide⟩ (fun w h Y => PySem.W.kIn_of Y) ?F (fun _ H a ns hl hO hS => DL.law_sp hl hO hS Lw.m_law_ok) (fun _ _ _ _ _ h => DL.cx_never h)
  case F =>
    intro w mg fa h KX G hmg
    refine' DL.spAny_of (Lw.all_mk KX G hmg ?a_check_machine ?l_check_machine ?c_check_machine ?k_check_machine ?a_check_skip ?l_check_skip ?c_check_skip ?k_check_skip ?a_depths_of ?l_depths_of ?c_depths_of ?k_depths_of ?a_fields_in_range ?l_fields_in_range ?c_fields_in_range ?k_fields_in_range ?a_fits_width ?l_fits_width ?c_fits_width ?k_fits_width ?a_loop_in_range ?l_loop_in_range ?c_loop_in_range ?k_loop_in_range ?a_own_in_range ?l_own_in_range ?c_own_in_range ?k_own_in_range ?a_in_range ?l_in_range ?c_in_range ?k_in_range ?a_steps_in ?l_steps_in ?c_steps_in ?k_steps_in ?a_well_formed ?l_well_formed ?c_well_formed ?k_well_formed ?a_check_code ?l_check_code ?c_check_code ?k_check_code ?a_read_integer ?l_read_integer ?c_read_integer ?k_read_integer ?a_number_in_listing ?l_number_in_listing ?c_number_in_listing ?k_number_in_listing ?a_group_in ?l_group_in ?c_group_in ?k_group_in ?a_kind_in ?l_kind_in ?c_kind_in ?k_kind_in ?a_do_in ?l_do_in ?c_do_in ?k_do_in ?a_instruction_in ?l_instruction_in ?c_instruction_in ?k_instruction_in ?a_read_code ?l_read_code ?c_read_code ?k_read_code ?a_letters_of ?l_letters_of ?c_letters_of ?k_letters_of ?a_same_but ?l_same_but ?c_same_but ?k_same_but ?a_check_axes ?l_check_axes ?c_check_axes ?k_check_axes ?a_size_on ?l_size_on ?c_size_on ?k_size_on ?a_check_extents ?l_check_extents ?c_check_extents ?k_check_extents ?a_within ?l_within ?c_within ?k_within ?a_check_fields ?l_check_fields ?c_check_fields ?k_check_fields ?a_count_of ?l_count_of ?c_count_of ?k_count_of ?a_check_form ?l_check_form ?c_check_form ?k_check_form ?a_check_letters ?l_check_letters ?c_check_letters ?k_check_letters ?a_check_shape ?l_check_shape ?c_check_shape ?k_check_shape ?a_corners ?l_corners ?c_corners ?k_corners ?a_other_span ?l_other_span ?c_other_span ?k_other_span ?a_limit ?l_limit ?c_limit ?k_limit ?a_round_off ?l_round_off ?c_round_off ?k_round_off ?a_pointwise_span ?l_pointwise_span ?c_pointwise_span ?k_pointwise_span ?a_spread_together ?l_spread_together ?c_spread_together ?k_spread_together ?a_broadcast ?l_broadcast ?c_broadcast ?k_broadcast ?a_in_place_of ?l_in_place_of ?c_in_place_of ?k_in_place_of ?a_resized ?l_resized ?c_resized ?k_resized ?a_without ?l_without ?c_without ?k_without ?a_raw_shape ?l_raw_shape ?c_raw_shape ?k_raw_shape ?a_shape_of ?l_shape_of ?c_shape_of ?k_shape_of ?a_domain_of ?l_domain_of ?c_domain_of ?k_domain_of ?a_node_work ?l_node_work ?c_node_work ?k_node_work ?a_total_work ?l_total_work ?c_total_work ?k_total_work ?a_check_graph ?l_check_graph ?c_check_graph ?k_check_graph ?a_letter_in ?l_letter_in ?c_letter_in ?k_letter_in ?a_letters_in ?l_letters_in ?c_letters_in ?k_letters_in ?a_number_in_notation ?l_number_in_notation ?c_number_in_notation ?k_number_in_notation ?a_read_natural ?l_read_natural ?c_read_natural ?k_read_natural ?a_shape_in ?l_shape_in ?c_shape_in ?k_shape_in ?a_fields_in ?l_fields_in ?c_fields_in ?k_fields_in ?a_node_in ?l_node_in ?c_node_in ?k_node_in ?a_read_graph ?l_read_graph ?c_read_graph ?k_read_graph ?a__law_told ?l__law_told ?c__law_told ?k__law_told ?a__law_codes ?l__law_codes ?c__law_codes ?k__law_codes ?a__law_graphs ?l__law_graphs ?c__law_graphs ?k__law_graphs ?a__law_lines ?l__law_lines ?c__law_lines ?k__law_lines ?a__law_machines ?l__law_machines ?c__law_machines ?k__law_machines ?a_law ?l_law ?c_law ?k_law ?z_abs ?z_all ?z_any ?z_int ?z_isinstance ?z_len ?z_list ?z_max ?z_min ?z_range ?z_sorted ?z_tuple ?ca_AxisError ?ce_AxisError ?ck_AxisError ?cs_AxisError ?ct_AxisError ?cg_AxisError ?ch_AxisError ?cd_AxisError ?cc_AxisError ?cm_AxisError ?ca_FormError ?ce_FormError ?ck_FormError ?cs_FormError ?ct_FormError ?cg_FormError ?ch_FormError ?cd_FormError ?cc_FormError ?cm_FormError ?ca_KindError ?ce_KindError ?ck_KindError ?cs_KindError ?ct_KindError ?cg_KindError ?ch_KindError ?cd_KindError ?cc_KindError ?cm_KindError ?ca_MachineError ?ce_MachineError ?ck_MachineError ?cs_MachineError ?ct_MachineError ?cg_MachineError ?ch_MachineError ?cd_MachineError ?cc_MachineError ?cm_MachineError ?ca_RangeError ?ce_RangeError ?ck_RangeError ?cs_RangeError ?ct_RangeError ?cg_RangeError ?ch_RangeError ?cd_RangeError ?cc_RangeError ?cm_RangeError ?ca_RankError ?ce_RankError ?ck_RankError ?cs_RankError ?ct_RankError ?cg_RankError ?ch_RankError ?cd_RankError ?cc_RankError ?cm_RankError ?ca_TensorError ?ce_TensorError ?ck_TensorError ?cs_TensorError ?ct_TensorError ?cg_TensorError ?ch_TensorError ?cd_TensorError ?cc_TensorError ?cm_TensorError ?ca_TextError ?ce_TextError ?ck_TextError ?cs_TextError ?ct_TextError ?cg_TextError ?ch_TextError ?cd_TextError ?cc_TextError ?cm_TextError ?ca_TooLarge ?ce_TooLarge ?ck_TooLarge ?cs_TooLarge ?ct_TooLarge ?cg_TooLarge ?ch_TooLarge ?cd_TooLarge ?cc_TooLarge ?cm_TooLarge ?ca_TooWide ?ce_TooWide ?ck_TooWide ?cs_TooWide ?ct_TooWide ?cg_TooWide ?ch_TooWide ?cd_TooWide ?cc_TooWide ?cm_TooWide ?o1 ?o2 ?sb_AxisError_FormError ?sb_FormError_FormError ?sb_KindError_FormError ?sb_MachineError_FormError ?sb_RangeError_FormError ?sb_RankError_FormError ?sb_TextError_FormError ?sb_TooLarge_FormError ?sb_TooWide_FormError ?sb_AxisError_MachineError ?sb_FormError_MachineError ?sb_KindError_MachineError ?sb_MachineError_MachineError ?sb_RangeError_MachineError ?sb_RankError_MachineError ?sb_TextError_MachineError ?sb_TooLarge_MachineError ?sb_TooWide_MachineError ?sb_AxisError_RangeError ?sb_FormError_RangeError ?sb_KindError_RangeError ?sb_MachineError_RangeError ?sb_RangeError_RangeError ?sb_RankError_RangeError ?sb_TextError_RangeError ?sb_TooLarge_RangeError ?sb_TooWide_RangeError ?sb_AxisError_TensorError ?sb_FormError_TensorError ?sb_KindError_TensorError ?sb_MachineError_TensorError ?sb_RangeError_TensorError ?sb_RankError_TensorError ?sb_TextError_TensorError ?sb_TooLarge_TensorError ?sb_TooWide_TensorError ?sb_AxisError_TextError ?sb_FormError_TextError ?sb_KindError_TextError ?sb_MachineError_TextError ?sb_RangeError_TextError ?sb_RankError_TextError ?sb_TextError_TextError ?sb_TooLarge_TextError ?sb_TooWide_TextError ?ga_BROADCAST ?kk1 ?ga_CODE_LIMIT ?ga_COUNT_LIMIT ?ga_EXECUTION_LIMIT ?ga_FIGURES ?ga_FIGURE_LIMIT_listing ?ga_FIGURE_LIMIT_notation ?ga_LETTERS ?ga_LIMITS ?kk17 ?kk18 ?kk21 ?kk24 ?kk27 ?kk30 ?ga_NEST_LIMIT ?ga_NODE_LIMIT ?ga_POINTWISE ?kk35 ?ga_RANK_LIMIT ?ga_SIZE_LIMIT ?ga_WIDEST ?ga_WITH_AXIS ?kk50 ?ga_WORK_LIMIT ?kb_ARGS ?kl_ARGS ?kk_ARGS ?ks_ARGS ?kb_AXIS_FIELDS ?kl_AXIS_FIELDS ?kk_AXIS_FIELDS ?ks_AXIS_FIELDS ?kb_FIELDS ?kl_FIELDS ?kk_FIELDS ?ks_FIELDS ?kb_LENGTHS ?kl_LENGTHS ?kk_LENGTHS ?ks_LENGTHS ?kb_OFFSETS ?kl_OFFSETS ?kk135 ?kk136 ?kk137 ?kk139 ?kk141 ?kk144 ?kk145 ?kk146 ?kk147 ?kk148 ?kk151 ?kk154 ?kk_OFFSETS ?ks_OFFSETS ?kb_SLOTS ?kl_SLOTS ?kk155 ?kk157 ?kk159 ?kk162 ?kk165 ?kk169 ?kk173 ?kk175 ?kk176 ?kk178 ?kk181 ?kk184 ?kk_SLOTS ?ks_SLOTS)
    (case a_check_machine => k_is)
    (case l_check_machine => k_is)
    (case c_check_machine => k_is)
    (case k_check_machine => k_is)
    (case a_check_skip => k_is)
    (case l_check_skip => k_is)
    (case c_check_skip => k_is)
    (case k_check_skip => k_is)
    (case a_depths_of => k_is)
    (case l_depths_of => k_is)
    (case c_depths_of => k_is)
    (case k_depths_of => k_is)
    (case a_fields_in_range => k_is)
    (case l_fields_in_range => k_is)
    (case c_fields_in_range => k_is)
    (case k_fields_in_range => k_is)
    (case a_fits_width => k_is)
    (case l_fits_width => k_is)
    (case c_fits_width => k_is)
    (case k_fits_width => k_is)
    (case a_loop_in_range => k_is)
    (case l_loop_in_range => k_is)
    (case c_loop_in_range => k_is)
    (case k_loop_in_range => k_is)
    (case a_own_in_range => k_is)
    (case l_own_in_range => k_is)
    (case c_own_in_range => k_is)
    (case k_own_in_range => k_is)
    (case a_in_range => k_is)
    (case l_in_range => k_is)
    (case c_in_range => k_is)
    (case k_in_range => k_is)
    (case a_steps_in => k_is)
    (case l_steps_in => k_is)
    (case c_steps_in => k_is)
    (case k_steps_in => k_is)
    (case a_well_formed => k_is)
    (case l_well_formed => k_is)
    (case c_well_formed => k_is)
    (case k_well_formed => k_is)
    (case a_check_code => k_is)
    (case l_check_code => k_is)
    (case c_check_code => k_is)
    (case k_check_code => k_is)
    (case a_read_integer => k_is)
    (case l_read_integer => k_is)
    (case c_read_integer => k_is)
    (case k_read_integer => k_is)
    (case a_number_in_listing => k_is)
    (case l_number_in_listing => k_is)
    (case c_number_in_listing => k_is)
    (case k_number_in_listing => k_is)
    (case a_group_in => k_is)
    (case l_group_in => k_is)
    (case c_group_in => k_is)
    (case k_group_in => k_is)
    (case a_kind_in => k_is)
    (case l_kind_in => k_is)
    (case c_kind_in => k_is)
    (case k_kind_in => k_is)
    (case a_do_in => k_is)
    (case l_do_in => k_is)
    (case c_do_in => k_is)
    (case k_do_in => k_is)
    (case a_instruction_in => k_is)
    (case l_instruction_in => k_is)
    (case c_instruction_in => k_is)
    (case k_instruction_in => k_is)
    (case a_read_code => k_is)
    (case l_read_code => k_is)
    (case c_read_code => k_is)
    (case k_read_code => k_is)
    (case a_letters_of => k_is)
    (case l_letters_of => k_is)
    (case c_letters_of => k_is)
    (case k_letters_of => k_is)
    (case a_same_but => k_is)
    (case l_same_but => k_is)
    (case c_same_but => k_is)
    (case k_same_but => k_is)
    (case a_check_axes => k_is)
    (case l_check_axes => k_is)
    (case c_check_axes => k_is)
    (case k_check_axes => k_is)
    (case a_size_on => k_is)
    (case l_size_on => k_is)
    (case c_size_on => k_is)
    (case k_size_on => k_is)
    (case a_check_extents => k_is)
    (case l_check_extents => k_is)
    (case c_check_extents => k_is)
    (case k_check_extents => k_is)
    (case a_within => k_is)
    (case l_within => k_is)
    (case c_within => k_is)
    (case k_within => k_is)
    (case a_check_fields => k_is)
    (case l_check_fields => k_is)
    (case c_check_fields => k_is)
    (case k_check_fields => k_is)
    (case a_count_of => k_is)
    (case l_count_of => k_is)
    (case c_count_of => k_is)
    (case k_count_of => k_is)
    (case a_check_form => k_is)
    (case l_check_form => k_is)
    (case c_check_form => k_is)
    (case k_check_form => k_is)
    (case a_check_letters => k_is)
    (case l_check_letters => k_is)
    (case c_check_letters => k_is)
    (case k_check_letters => k_is)
    (case a_check_shape => k_is)
    (case l_check_shape => k_is)
    (case c_check_shape => k_is)
    (case k_check_shape => k_is)
    (case a_corners => k_is)
    (case l_corners => k_is)
    (case c_corners => k_is)
    (case k_corners => k_is)
    (case a_other_span => k_is)
    (case l_other_span => k_is)
    (case c_other_span => k_is)
    (case k_other_span => k_is)
    (case a_limit => k_is)
    (case l_limit => k_is)
    (case c_limit => k_is)
    (case k_limit => k_is)
    (case a_round_off => k_is)
    (case l_round_off => k_is)
    (case c_round_off => k_is)
    (case k_round_off => k_is)
    (case a_pointwise_span => k_is)
    (case l_pointwise_span => k_is)
    (case c_pointwise_span => k_is)
    (case k_pointwise_span => k_is)
    (case a_spread_together => k_is)
    (case l_spread_together => k_is)
    (case c_spread_together => k_is)
    (case k_spread_together => k_is)
    (case a_broadcast => k_is)
    (case l_broadcast => k_is)
    (case c_broadcast => k_is)
    (case k_broadcast => k_is)
    (case a_in_place_of => k_is)
    (case l_in_place_of => k_is)
    (case c_in_place_of => k_is)
    (case k_in_place_of => k_is)
    (case a_resized => k_is)
    (case l_resized => k_is)
    (case c_resized => k_is)
    (case k_resized => k_is)
    (case a_without => k_is)
    (case l_without => k_is)
    (case c_without => k_is)
    (case k_without => k_is)
    (case a_raw_shape => k_is)
    (case l_raw_shape => k_is)
    (case c_raw_shape => k_is)
    (case k_raw_shape => k_is)
    (case a_shape_of => k_is)
    (case l_shape_of => k_is)
    (case c_shape_of => k_is)
    (case k_shape_of => k_is)
    (case a_domain_of => k_is)
    (case l_domain_of => k_is)
    (case c_domain_of => k_is)
    (case k_domain_of => k_is)
    (case a_node_work => k_is)
    (case l_node_work => k_is)
    (case c_node_work => k_is)
    (case k_node_work => k_is)
    (case a_total_work => k_is)
    (case l_total_work => k_is)
    (case c_total_work => k_is)
    (case k_total_work => k_is)
    (case a_check_graph => k_is)
    (case l_check_graph => k_is)
    (case c_check_graph => k_is)
    (case k_check_graph => k_is)
    (case a_letter_in => k_is)
    (case l_letter_in => k_is)
    (case c_letter_in => k_is)
    (case k_letter_in => k_is)
    (case a_letters_in => k_is)
    (case l_letters_in => k_is)
    (case c_letters_in => k_is)
    (case k_letters_in => k_is)
    (case a_number_in_notation => k_is)
    (case l_number_in_notation => k_is)
    (case c_number_in_notation => k_is)
    (case k_number_in_notation => k_is)
    (case a_read_natural => k_is)
    (case l_read_natural => k_is)
    (case c_read_natural => k_is)
    (case k_read_natural => k_is)
    (case a_shape_in => k_is)
    (case l_shape_in => k_is)
    (case c_shape_in => k_is)
    (case k_shape_in => k_is)
    (case a_fields_in => k_is)
    (case l_fields_in => k_is)
    (case c_fields_in => k_is)
    (case k_fields_in => k_is)
    (case a_node_in => k_is)
    (case l_node_in => k_is)
    (case c_node_in => k_is)
    (case k_node_in => k_is)
    (case a_read_graph => k_is)
    (case l_read_graph => k_is)
    (case c_read_graph => k_is)
    (case k_read_graph => k_is)
    (case a__law_told => k_is)
    (case l__law_told => k_is)
    (case c__law_told => k_is)
    (case k__law_told => k_is)
    (case a__law_codes => k_is)
    (case l__law_codes => k_is)
    (case c__law_codes => k_is)
    (case k__law_codes => k_is)
    (case a__law_graphs => k_is)
    (case l__law_graphs => k_is)
    (case c__law_graphs => k_is)
    (case k__law_graphs => k_is)
    (case a__law_lines => k_is)
    (case l__law_lines => k_is)
    (case c__law_lines => k_is)
    (case k__law_lines => k_is)
    (case a__law_machines => k_is)
    (case l__law_machines => k_is)
    (case c__law_machines => k_is)
    (case k__law_machines => k_is)
    (case a_law => k_is)
    (case l_law => k_is)
    (case c_law => k_is)
    (case k_law => k_is)
    (case z_abs => k_is)
    (case z_all => k_is)
    (case z_any => k_is)
    (case z_int => k_is)
    (case z_isinstance => k_is)
    (case z_len => k_is)
    (case z_list => k_is)
    (case z_max => k_is)
    (case z_min => k_is)
    (case z_range => k_is)
    (case z_sorted => k_is)
    (case z_tuple => k_is)
    (case ca_AxisError => k_is)
    (case ce_AxisError => k_exc)
    (case ck_AxisError => k_is)
    (case cs_AxisError => k_is)
    (case ct_AxisError => k_is)
    (case cg_AxisError => k_is)
    (case ch_AxisError => k_is)
    (case cd_AxisError => k_is)
    (case cc_AxisError => k_is)
    (case cm_AxisError => k_is)
    (case ca_FormError => k_is)
    (case ce_FormError => k_exc)
    (case ck_FormError => k_is)
    (case cs_FormError => k_is)
    (case ct_FormError => k_is)
    (case cg_FormError => k_is)
    (case ch_FormError => k_is)
    (case cd_FormError => k_is)
    (case cc_FormError => k_is)
    (case cm_FormError => k_is)
    (case ca_KindError => k_is)
    (case ce_KindError => k_exc)
    (case ck_KindError => k_is)
    (case cs_KindError => k_is)
    (case ct_KindError => k_is)
    (case cg_KindError => k_is)
    (case ch_KindError => k_is)
    (case cd_KindError => k_is)
    (case cc_KindError => k_is)
    (case cm_KindError => k_is)
    (case ca_MachineError => k_is)
    (case ce_MachineError => k_exc)
    (case ck_MachineError => k_is)
    (case cs_MachineError => k_is)
    (case ct_MachineError => k_is)
    (case cg_MachineError => k_is)
    (case ch_MachineError => k_is)
    (case cd_MachineError => k_is)
    (case cc_MachineError => k_is)
    (case cm_MachineError => k_is)
    (case ca_RangeError => k_is)
    (case ce_RangeError => k_exc)
    (case ck_RangeError => k_is)
    (case cs_RangeError => k_is)
    (case ct_RangeError => k_is)
    (case cg_RangeError => k_is)
    (case ch_RangeError => k_is)
    (case cd_RangeError => k_is)
    (case cc_RangeError => k_is)
    (case cm_RangeError => k_is)
    (case ca_RankError => k_is)
    (case ce_RankError => k_exc)
    (case ck_RankError => k_is)
    (case cs_RankError => k_is)
    (case ct_RankError => k_is)
    (case cg_RankError => k_is)
    (case ch_RankError => k_is)
    (case cd_RankError => k_is)
    (case cc_RankError => k_is)
    (case cm_RankError => k_is)
    (case ca_TensorError => k_is)
    (case ce_TensorError => k_exc)
    (case ck_TensorError => k_is)
    (case cs_TensorError => k_is)
    (case ct_TensorError => k_is)
    (case cg_TensorError => k_is)
    (case ch_TensorError => k_is)
    (case cd_TensorError => k_is)
    (case cc_TensorError => k_is)
    (case cm_TensorError => k_is)
    (case ca_TextError => k_is)
    (case ce_TextError => k_exc)
    (case ck_TextError => k_is)
    (case cs_TextError => k_is)
    (case ct_TextError => k_is)
    (case cg_TextError => k_is)
    (case ch_TextError => k_is)
    (case cd_TextError => k_is)
    (case cc_TextError => k_is)
    (case cm_TextError => k_is)
    (case ca_TooLarge => k_is)
    (case ce_TooLarge => k_exc)
    (case ck_TooLarge => k_is)
    (case cs_TooLarge => k_is)
    (case ct_TooLarge => k_is)
    (case cg_TooLarge => k_is)
    (case ch_TooLarge => k_is)
    (case cd_TooLarge => k_is)
    (case cc_TooLarge => k_is)
    (case cm_TooLarge => k_is)
    (case ca_TooWide => k_is)
    (case ce_TooWide => k_exc)
    (case ck_TooWide => k_is)
    (case cs_TooWide => k_is)
    (case ct_TooWide => k_is)
    (case cg_TooWide => k_is)
    (case ch_TooWide => k_is)
    (case cd_TooWide => k_is)
    (case cc_TooWide => k_is)
    (case cm_TooWide => k_is)
    (case o1 => k_is)
    (case o2 => k_is)
    (case sb_AxisError_FormError => k_is)
    (case sb_FormError_FormError => k_is)
    (case sb_KindError_FormError => k_is)
    (case sb_MachineError_FormError => k_is)
    (case sb_RangeError_FormError => k_is)
    (case sb_RankError_FormError => k_is)
    (case sb_TextError_FormError => k_is)
    (case sb_TooLarge_FormError => k_is)
    (case sb_TooWide_FormError => k_is)
    (case sb_AxisError_MachineError => k_is)
    (case sb_FormError_MachineError => k_is)
    (case sb_KindError_MachineError => k_is)
    (case sb_MachineError_MachineError => k_is)
    (case sb_RangeError_MachineError => k_is)
    (case sb_RankError_MachineError => k_is)
    (case sb_TextError_MachineError => k_is)
    (case sb_TooLarge_MachineError => k_is)
    (case sb_TooWide_MachineError => k_is)
    (case sb_AxisError_RangeError => k_is)
    (case sb_FormError_RangeError => k_is)
    (case sb_KindError_RangeError => k_is)
    (case sb_MachineError_RangeError => k_is)
    (case sb_RangeError_RangeError => k_is)
    (case sb_RankError_RangeError => k_is)
    (case sb_TextError_RangeError => k_is)
    (case sb_TooLarge_RangeError => k_is)
    (case sb_TooWide_RangeError => k_is)
    (case sb_AxisError_TensorError => k_is)
    (case sb_FormError_TensorError => k_is)
    (case sb_KindError_TensorError => k_is)
    (case sb_MachineError_TensorError => k_is)
    (case sb_RangeError_TensorError => k_is)
    (case sb_RankError_TensorError => k_is)
    (case sb_TextError_TensorError => k_is)
    (case sb_TooLarge_TensorError => k_is)
    (case sb_TooWide_TensorError => k_is)
    (case sb_AxisError_TextError => k_is)
    (case sb_FormError_TextError => k_is)
    (case sb_KindError_TextError => k_is)
    (case sb_MachineError_TextError => k_is)
    (case sb_RangeError_TextError => k_is)
    (case sb_RankError_TextError => k_is)
    (case sb_TextError_TextError => k_is)
    (case sb_TooLarge_TextError => k_is)
    (case sb_TooWide_TextError => k_is)
    (case ga_BROADCAST => k_is)
    (case kk1 => k_is)
    (case ga_CODE_LIMIT => k_is)
    (case ga_COUNT_LIMIT => k_is)
    (case ga_EXECUTION_LIMIT => k_is)
    (case ga_FIGURES => k_is)
    (case ga_FIGURE_LIMIT_listing => k_is)
    (case ga_FIGURE_LIMIT_notation => k_is)
    (case ga_LETTERS => k_is)
    (case ga_LIMITS => k_is)
    (case kk17 => k_is)
    (case kk18 => k_is)
    (case kk21 => k_is)
    (case kk24 => k_is)
    (case kk27 => k_is)
    (case kk30 => k_is)
    (case ga_NEST_LIMIT => k_is)
    (case ga_NODE_LIMIT => k_is)
    (case ga_POINTWISE => k_is)
    (case kk35 => k_is)
    (case ga_RANK_LIMIT => k_is)
    (case ga_SIZE_LIMIT => k_is)
    (case ga_WIDEST => k_is)
    (case ga_WITH_AXIS => k_is)
    (case kk50 => k_is)
    (case ga_WORK_LIMIT => k_is)
    (case kb_ARGS => k_is)
    (case kl_ARGS => k_is)
    (case kk_ARGS => k_keys)
    (case ks_ARGS => decide)
    (case kb_AXIS_FIELDS => k_is)
    (case kl_AXIS_FIELDS => k_is)
    (case kk_AXIS_FIELDS => k_keys)
    (case ks_AXIS_FIELDS => decide)
    (case kb_FIELDS => k_is)
    (case kl_FIELDS => k_is)
    (case kk_FIELDS => k_keys)
    (case ks_FIELDS => decide)
    (case kb_LENGTHS => k_is)
    (case kl_LENGTHS => k_is)
    (case kk_LENGTHS => k_keys)
    (case ks_LENGTHS => decide)
    (case kb_OFFSETS => k_is)
    (case kl_OFFSETS => k_is)
    (case kk135 => k_is)
    (case kk136 => k_is)
    (case kk137 => k_is)
    (case kk139 => k_is)
    (case kk141 => k_is)
    (case kk144 => k_is)
    (case kk145 => k_is)
    (case kk146 => k_is)
    (case kk147 => k_is)
    (case kk148 => k_is)
    (case kk151 => k_is)
    (case kk154 => k_is)
    (case kk_OFFSETS => k_keys)
    (case ks_OFFSETS => decide)
    (case kb_SLOTS => k_is)
    (case kl_SLOTS => k_is)
    (case kk155 => k_is)
    (case kk157 => k_is)
    (case kk159 => k_is)
    (case kk162 => k_is)
    (case kk165 => k_is)
    (case kk169 => k_is)
    (case kk173 => k_is)
    (case kk175 => k_is)
    (case kk176 => k_is)
    (case kk178 => k_is)
    (case kk181 => k_is)
    (case kk184 => k_is)
    (case kk_SLOTS => k_keys)
    (case ks_SLOTS => decide)
