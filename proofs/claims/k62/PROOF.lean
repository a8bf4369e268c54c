import PyProof.Rows.All
import HandS.ForMost
import HandS.Exc
import HandS.TryOnly
import HandS.ExcOwn
import HandS.Wide
import HandS.IsInst
import HandS.WordsExc
import HandS.TupAny
import HandS.WideBits
import HandS.SortInts
import HandS.Small
import HandS.ExcIs
import HandS.Rev
import HandS.Style
import HandS.Gcd
import HandS.Iter
import PySem.Challenge.RW_tensorworks_k62_multipliers_and_codes
set_option Elab.async false
set_option linter.all false
set_option maxRecDepth 100000
/-! DLa: plain data, what stands for it in the heap, the slots of a def, runs with draws. -/
namespace DL
open PySem PySem.Spec PyProof.Rows L2

/-! ### data -/
inductive P where
  | non | bl (b : Bool) | int (i : Int) | str (x : Str) | tup (xs : List P)
inductive D where
  | p (x : P) | lst (xs : List P) | ls (xs : List D) | tp (xs : List D) | dic (kvs : List (Key × P)) | dit (kvs : List (List Key × P)) | orc | scr (ns : List Int)
abbrev D.int (i : Int) : D := .p (.int i)
abbrev D.str (x : Str) : D := .p (.str x)
abbrev D.bl (b : Bool) : D := .p (.bl b)
abbrev D.non : D := .p .non

section
variable (K : PySem.W.Frag) (H : Hp)
mutual
def RepP : P → V → Prop
  | .non, v => v = .non
  | .bl b, v => v = .bl b
  | .int i, v => v = .int i
  | .str x, v => v = .str x
  | .tup xs, v => ∃ a vs, v = .ref a ∧ SqT K H a vs ∧ RepPs xs vs
def RepPs : List P → List V → Prop
  | [], vs => vs = []
  | x :: xs, vs => ∃ v r, vs = v :: r ∧ RepP x v ∧ RepPs xs r
end
def RepKs {κ : Type} : List (κ × P) → List (κ × V) → Prop
  | [], ws => ws = []
  | (k, x) :: xs, ws => ∃ v r, ws = (k, v) :: r ∧ RepP K H x v ∧ RepKs xs r
/-- the list of draws at a: the script's copy at s, three ints -/
def OrcAt (a s : Addr) (h : Heap) : Prop := ∃ (i b z : Int) (t1 t2 t3 : Tok) (n : Nat), h.get? a = some { cls := .type "list", data := .seq #[.ref s, .int i t1, .int b t2, .int z t3] n } ∧ 0 ≤ i ∧ 0 ≤ b ∧ 0 ≤ z ∧ z < 2147483647
mutual
def RepD : D → V → List Addr → Prop
  | .p x, v, fp => RepP K H x v ∧ fp = []
  | .lst xs, v, fp => ∃ a vs, v = .ref a ∧ H a = some (.lst vs) ∧ fp = [a] ∧ RepPs K H xs vs
  | .ls xs, v, fp => ∃ a vs f, v = .ref a ∧ H a = some (.lst vs) ∧ fp = a :: f ∧ RepDs xs vs f
  | .tp xs, v, fp => ∃ a vs, v = .ref a ∧ SqT K H a vs ∧ RepDs xs vs fp
  | .dic kvs, v, fp => ∃ a ws, v = .ref a ∧ H a = some (.dK ws) ∧ fp = [a] ∧ RepKs K H kvs ws
  | .dit kvs, v, fp => ∃ a ws, v = .ref a ∧ H a = some (.dT ws) ∧ fp = [a] ∧ RepKs K H kvs ws
  | .scr ns, v, fp => fp = [] ∧ ∃ a, v = .ref a ∧ ((∃ o, H a = some (.frz o (.lst (ns.map V.int)))) ∨ ∃ (o : Obj) (its : Array Value) (n : Nat), K.lookup a = some o ∧ o.cls = .type "list" ∧ o.dict = none ∧ o.data = .seq its n ∧ its.size ≤ sizeLine ∧ Vals (ns.map V.int) its.toList)
  | .orc, v, fp => ∃ a s ns, v = .ref a ∧ fp = [a, s] ∧ H a = some (.ext (OrcAt a s)) ∧ H s = some (.lst ((ns : List Int).map V.int))
def RepDs : List D → List V → List Addr → Prop
  | [], vs, fp => vs = [] ∧ fp = []
  | x :: xs, vs, fp => ∃ v r f g, vs = v :: r ∧ fp = f ++ g ∧ RepD x v f ∧ RepDs xs r g
end
end

/-! ### what stays -/
/-- tuples and what is locked stay -/
structure KT (H H' : Hp) : Prop where
  tup : ∀ a xs, Rd H a (.tup xs) → Rd H' a (.tup xs)
  frz : ∀ a o u, H a = some (.frz o u) → H' a = some (.frz o u)
theorem Same.kt {H H' : Hp} (s : Same H H') : KT H H' := ⟨fun a xs h => by
  rcases h with h | ⟨o, h⟩
  · exact .inl (s _ _ h)
  · exact .inr ⟨o, s _ _ h⟩, fun a o u h => s _ _ h⟩
theorem KT.refl (H : Hp) : KT H H := ⟨fun _ _ h => h, fun _ _ _ h => h⟩
theorem KT.trans {H H1 H2 : Hp} (a : KT H H1) (b : KT H1 H2) : KT H H2 := ⟨fun x xs h => b.tup x xs (a.tup x xs h), fun x o u h => b.frz x o u (a.frz x o u h)⟩
theorem KT.upd {H : Hp} {a : Addr} {o u : HO} (h : H a = some o) (ho : Mut (some o)) : KT H (upd H a u) := by
  refine ⟨fun b xs q => ?_, fun b o' u' q => ?_⟩
  · have ne : b ≠ a := by
      rintro rfl
      rcases q with q | ⟨_, q⟩ <;> (rw [h] at q; cases q; exact ho)
    rcases q with q | ⟨w, q⟩
    · exact .inl (by rw [upd_ne ne]; exact q)
    · exact .inr ⟨w, by rw [upd_ne ne]; exact q⟩
  · have ne : b ≠ a := by
      rintro rfl
      rw [h] at q; cases q; exact ho
    rw [upd_ne ne]; exact q
section
variable {K : PySem.W.Frag} {H H' : Hp}
theorem KT.sqt (k : KT H H') {a : Addr} {vs : List V} (h : SqT K H a vs) : SqT K H' a vs := by
  rcases h with h | h
  · exact .inl (k.tup _ _ h)
  · exact .inr h
mutual
theorem RepP.kt (k : KT H H') : ∀ (x : P) (v : V), RepP K H x v → RepP K H' x v
  | .non, v, h => h
  | .bl b, v, h => h
  | .int i, v, h => h
  | .str x, v, h => h
  | .tup xs, v, h => by
    obtain ⟨a, vs, e, q, r⟩ := h
    exact ⟨a, vs, e, k.sqt q, RepPs.kt k xs vs r⟩
theorem RepPs.kt (k : KT H H') : ∀ (xs : List P) (vs : List V), RepPs K H xs vs → RepPs K H' xs vs
  | [], vs, h => h
  | x :: xs, vs, h => by
    obtain ⟨v, r, e, h1, h2⟩ := h
    exact ⟨v, r, e, RepP.kt k x v h1, RepPs.kt k xs r h2⟩
end
theorem RepKs.kt {κ : Type} (k : KT H H') : ∀ (xs : List (κ × P)) (ws : List (κ × V)), RepKs K H xs ws → RepKs K H' xs ws
  | [], vs, h => h
  | (c, x) :: xs, vs, h => by
    obtain ⟨v, r, e, h1, h2⟩ := h
    exact ⟨v, r, e, RepP.kt k x v h1, RepKs.kt k xs r h2⟩
mutual
theorem RepD.kt (k : KT H H') : ∀ (x : D) (v : V) (fp : List Addr), (∀ a ∈ fp, ∀ o, H a = some o → H' a = some o) → RepD K H x v fp → RepD K H' x v fp
  | .p x, v, fp, _, h => ⟨RepP.kt k x v h.1, h.2⟩
  | .lst xs, v, fp, s, h => by
    obtain ⟨a, vs, e, q, e2, r⟩ := h
    subst e2
    exact ⟨a, vs, e, s a (by simp) _ q, rfl, RepPs.kt k xs vs r⟩
  | .ls xs, v, fp, s, h => by
    obtain ⟨a, vs, f, e, q, e2, r⟩ := h
    subst e2
    exact ⟨a, vs, f, e, s a (by simp) _ q, rfl, RepDs.kt k xs vs f (fun b hb => s b (by simp [hb])) r⟩
  | .tp xs, v, fp, s, h => by
    obtain ⟨a, vs, e, q, r⟩ := h
    exact ⟨a, vs, e, k.sqt q, RepDs.kt k xs vs fp s r⟩
  | .dic kvs, v, fp, s, h => by
    obtain ⟨a, ws, e, q, e2, r⟩ := h
    subst e2
    exact ⟨a, ws, e, s a (by simp) _ q, rfl, RepKs.kt k kvs ws r⟩
  | .dit kvs, v, fp, s, h => by
    obtain ⟨a, ws, e, q, e2, r⟩ := h
    subst e2
    exact ⟨a, ws, e, s a (by simp) _ q, rfl, RepKs.kt k kvs ws r⟩
  | .scr ns, v, fp, s, h => by
    obtain ⟨e, a, e2, q⟩ := h
    refine ⟨e, a, e2, ?_⟩
    rcases q with ⟨o, q⟩ | q
    · exact .inl ⟨o, k.frz _ _ _ q⟩
    · exact .inr q
  | .orc, v, fp, s, h => by
    obtain ⟨a, z, ns, e, e2, q1, q2⟩ := h
    subst e2
    exact ⟨a, z, ns, e, rfl, s a (by simp) _ q1, s z (by simp) _ q2⟩
theorem RepDs.kt (k : KT H H') : ∀ (xs : List D) (vs : List V) (fp : List Addr), (∀ a ∈ fp, ∀ o, H a = some o → H' a = some o) → RepDs K H xs vs fp → RepDs K H' xs vs fp
  | [], vs, fp, _, h => h
  | x :: xs, vs, fp, s, h => by
    obtain ⟨v, r, f, g, e, e2, h1, h2⟩ := h
    subst e2
    exact ⟨v, r, f, g, e, rfl, RepD.kt k x v f (fun b hb => s b (by simp [hb])) h1, RepDs.kt k xs r g (fun b hb => s b (by simp [hb])) h2⟩
end
end

/-! ### slots -/
/-- a slot: nothing known, one's own data, data lent (none: an argument's; some i: slot i's list while a loop walks it), the exception that a suite handles -/
inductive S where
  | no | own (d : D) | bor (t : Option Nat) (d : D) | exn
abbrev Sl := List S
/-- lent heaps; ex: the handled exception's address -/
def Rgs (ex : Option Addr) := Option Nat → Hp
def SlotR (K : PySem.W.Frag) {ex : Option Addr} (Rg : Rgs ex) (H : Hp) : S → Option V → List Addr → Prop
  | .no, _, fp => fp = []
  | .own d, ov, fp => ∃ v, ov = some v ∧ RepD K H d v fp
  | .bor t d, ov, fp => fp = [] ∧ ∃ v g, ov = some v ∧ RepD K H d v g ∧ ∀ a ∈ g, Rg t a ≠ none
  | .exn, ov, fp => fp = [] ∧ ∃ a, ex = some a ∧ ov = some (.ref a)
def SlotsR (K : PySem.W.Frag) {ex : Option Addr} (Rg : Rgs ex) (H : Hp) : Sl → L2.St → List Addr → Prop
  | [], σ, fp => σ = [] ∧ fp = []
  | s :: δ, σ, fp => ∃ ov r f g, σ = ov :: r ∧ fp = f ++ g ∧ SlotR K Rg H s ov f ∧ SlotsR K Rg H δ r g
structure SRel (K : PySem.W.Frag) (B : Hp) {ex : Option Addr} (Rg : Rgs ex) (σ : L2.St) (H : Hp) (δ : Sl) : Prop where
  same : Same B H
  sub : ∀ t, Same (Rg t) B
  ex : ∃ fp, SlotsR K Rg H δ σ fp ∧ fp.Nodup ∧ ∀ a ∈ fp, B a = none
section
variable {K : PySem.W.Frag} {B H H' : Hp} {ex : Option Addr} {Rg : Rgs ex}
theorem SlotR.kt (k : KT H H') (rg : ∀ t a, Rg t a ≠ none → ∀ o, H a = some o → H' a = some o) {s : S} {ov : Option V} {fp : List Addr} (st : ∀ a ∈ fp, ∀ o, H a = some o → H' a = some o) (h : SlotR K Rg H s ov fp) : SlotR K Rg H' s ov fp := by
  cases s with
  | no => exact h
  | exn => exact h
  | own d => obtain ⟨v, e, r⟩ := h; exact ⟨v, e, RepD.kt k d v fp st r⟩
  | bor t d =>
    obtain ⟨e, v, g, e1, r, q⟩ := h
    exact ⟨e, v, g, e1, RepD.kt k d v g (fun a ha o ho => rg t a (q a ha) o ho) r, q⟩
theorem SlotsR.kt (k : KT H H') (rg : ∀ t a, Rg t a ≠ none → ∀ o, H a = some o → H' a = some o) : ∀ {δ : Sl} {σ : L2.St} {fp : List Addr}, (∀ a ∈ fp, ∀ o, H a = some o → H' a = some o) → SlotsR K Rg H δ σ fp → SlotsR K Rg H' δ σ fp
  | [], _, _, _, h => h
  | s :: δ, _, _, st, h => by
    obtain ⟨ov, r, f, g, e, e2, h1, h2⟩ := h
    subst e2
    exact ⟨ov, r, f, g, e, rfl, h1.kt k rg (fun a ha => st a (by simp [ha])), SlotsR.kt k rg (fun a ha => st a (by simp [ha])) h2⟩
theorem SRel.grow {σ : L2.St} {δ : Sl} (h : SRel K B Rg σ H δ) (s : Same H H') : SRel K B Rg σ H' δ := by
  obtain ⟨b, u, fp, q, n, f⟩ := h
  exact ⟨b.trans s, u, fp, q.kt (Same.kt s) (fun _ a _ o e => s a o e) (fun a _ o e => s a o e), n, f⟩
/-- a slot's value -/
theorem SlotsR.get : ∀ {δ : Sl} {σ : L2.St} {fp : List Addr} {i : Nat} {s : S}, SlotsR K Rg H δ σ fp → δ[i]? = some s → ∃ ov f, σ[i]? = some ov ∧ SlotR K Rg H s ov f ∧ ∀ a ∈ f, a ∈ fp
  | [], _, _, _, _, _, e => by simp at e
  | s :: δ, _, _, 0, s', h, e => by
    obtain ⟨ov, r, f, g, e1, e2, h1, h2⟩ := h
    subst e1 e2
    obtain rfl : s = s' := by simpa using e
    exact ⟨ov, f, rfl, h1, fun a ha => by simp [ha]⟩
  | s :: δ, _, _, i + 1, s', h, e => by
    obtain ⟨ov, r, f, g, e1, e2, h1, h2⟩ := h
    subst e1 e2
    obtain ⟨ov', f', q1, q2, q3⟩ := SlotsR.get (i := i) h2 (by simpa using e)
    exact ⟨ov', f', by simpa using q1, q2, fun a ha => by simp [q3 a ha]⟩
theorem SlotsR.len : ∀ {δ : Sl} {σ : L2.St} {fp : List Addr}, SlotsR K Rg H δ σ fp → δ.length = σ.length
  | [], _, _, h => by obtain ⟨rfl, _⟩ := h; rfl
  | s :: δ, _, _, h => by
    obtain ⟨ov, r, f, g, e1, e2, h1, h2⟩ := h
    subst e1
    simp [SlotsR.len h2]
/-- a slot is set: its old part goes, the new one comes -/
theorem SlotsR.set {v : Option V} {s : S} {f' : List Addr} (hs : SlotR K Rg H s v f') : ∀ {δ : Sl} {σ : L2.St} {fp : List Addr} (i : Nat), i < δ.length → SlotsR K Rg H δ σ fp → fp.Nodup → f'.Nodup → (∀ a ∈ f', a ∉ fp) →
    ∃ fp', SlotsR K Rg H (δ.set i s) (σ.set i v) fp' ∧ fp'.Nodup ∧ ∀ a ∈ fp', a ∈ fp ∨ a ∈ f'
  | [], _, _, i, hi, _, _, _, _ => by simp at hi
  | s0 :: δ, _, _, 0, _, h, n, n', d => by
    obtain ⟨ov, r, f, g, e1, e2, h1, h2⟩ := h
    subst e1 e2
    refine ⟨f' ++ g, ⟨v, r, f', g, rfl, rfl, hs, h2⟩, ?_, fun a ha => ?_⟩
    · rw [List.nodup_append] at n ⊢
      exact ⟨n', n.2.1, fun a ha b hb e => d a ha (by simp [e, hb])⟩
    · rcases List.mem_append.mp ha with q | q
      · exact .inr q
      · exact .inl (by simp [q])
  | s0 :: δ, _, _, i + 1, hi, h, n, n', d => by
    obtain ⟨ov, r, f, g, e1, e2, h1, h2⟩ := h
    subst e1 e2
    rw [List.nodup_append] at n
    obtain ⟨fp', q1, q2, q3⟩ := SlotsR.set hs (δ := δ) i (by simpa using hi) h2 n.2.1 n' (fun a ha hb => d a ha (by simp [hb]))
    refine ⟨f ++ fp', ⟨ov, r.set i v, f, fp', rfl, rfl, h1, q1⟩, ?_, fun a ha => ?_⟩
    · rw [List.nodup_append]
      refine ⟨n.1, q2, fun a ha b hb e => ?_⟩
      subst e
      rcases q3 a hb with q | q
      · exact n.2.2 a ha a q rfl
      · exact d a q (by simp [ha])
    · rcases List.mem_append.mp ha with q | q
      · exact .inl (by simp [q])
      · rcases q3 a q with z | z
        · exact .inl (by simp [z])
        · exact .inr z
end

/-! ### runs: a value, an error, stuck, or a draw -/
inductive Rn (ε α : Type) where
  | ok (a : α) | err (c : Str) (e : ε) | bad | pick (n : Nat) (k : Nat → Rn ε α)
namespace Rn
variable {ε ε' α β : Type}
def bind : Rn ε α → (α → Rn ε β) → Rn ε β
  | .ok a, f => f a
  | .err c e, _ => .err c e
  | .bad, _ => .bad
  | .pick n k, f => .pick n fun i => (k i).bind f
instance : Monad (Rn ε) where
  pure := .ok
  bind := bind
def mapErr (f : ε → ε') : Rn ε α → Rn ε' α
  | .ok a => .ok a
  | .err c e => .err c (f e)
  | .bad => .bad
  | .pick n k => .pick n fun i => (k i).mapErr f
/-- what is wanted of a run -/
def wp : Rn ε α → (α → Prop) → (Str → ε → Prop) → Prop
  | .ok a, Q, _ => Q a
  | .err c e, _, E => E c e
  | .bad, _, _ => False
  | .pick n k, Q, E => ∀ i, i < n → (k i).wp Q E
theorem wp_mono {w : Rn ε α} {Q Q' : α → Prop} {E E' : Str → ε → Prop} (h : w.wp Q E) (hq : ∀ a, Q a → Q' a) (he : ∀ c e, E c e → E' c e) : w.wp Q' E' := by
  induction w with
  | ok a => exact hq a h
  | err c e => exact he c e h
  | bad => exact h
  | pick n k ih => exact fun i hi => ih i (h i hi)
theorem wp_bind {w : Rn ε α} {f : α → Rn ε β} {Q : β → Prop} {E : Str → ε → Prop} : (w.bind f).wp Q E ↔ w.wp (fun a => (f a).wp Q E) E := by
  induction w with
  | ok a => exact Iff.rfl
  | err c e => exact Iff.rfl
  | bad => exact Iff.rfl
  | pick n k ih => exact ⟨fun h i hi => (ih i).mp (h i hi), fun h i hi => (ih i).mpr (h i hi)⟩
theorem wp_mapErr {w : Rn ε α} {f : ε → ε'} {Q : α → Prop} {E : Str → ε' → Prop} : (w.mapErr f).wp Q E ↔ w.wp Q (fun c e => E c (f e)) := by
  induction w with
  | ok a => exact Iff.rfl
  | err c e => exact Iff.rfl
  | bad => exact Iff.rfl
  | pick n k ih => exact ⟨fun h i hi => (ih i).mp (h i hi), fun h i hi => (ih i).mpr (h i hi)⟩
@[simp] theorem ok_bind (a : α) (f : α → Rn ε β) : (Rn.ok a : Rn ε α).bind f = f a := rfl
@[simp] theorem err_bind (c : Str) (e : ε) (f : α → Rn ε β) : (Rn.err c e : Rn ε α).bind f = .err c e := rfl
@[simp] theorem bad_bind (f : α → Rn ε β) : (Rn.bad : Rn ε α).bind f = .bad := rfl
@[simp] theorem pick_bind (n : Nat) (k : Nat → Rn ε α) (f : α → Rn ε β) : (Rn.pick n k).bind f = .pick n fun i => (k i).bind f := rfl
end Rn

/-- what an expression gives: new and one's own, or a look at what stands -/
inductive R where
  | own (d : D) | vw (d : D)
def R.d : R → D
  | .own d => d
  | .vw d => d
/-- the value of r, made from H on -/
def RepR (K : PySem.W.Frag) (H H' : Hp) : R → V → Prop
  | .own d, v => ∃ fp, RepD K H' d v fp ∧ fp.Nodup ∧ ∀ a ∈ fp, H a = none
  | .vw d, v => ∃ fp, RepD K H' d v fp
section
variable {K : PySem.W.Frag} {H H1 H2 : Hp} {r : R} {v : V}
theorem RepR.look (h : RepR K H H1 r v) : ∃ fp, RepD K H1 r.d v fp := by
  cases r with
  | own d => obtain ⟨fp, q, _⟩ := h; exact ⟨fp, q⟩
  | vw d => exact h
theorem RepR.grow (h : RepR K H H1 r v) (s : Same H1 H2) : RepR K H H2 r v := by
  cases r with
  | own d => obtain ⟨fp, q, n, f⟩ := h; exact ⟨fp, RepD.kt (Same.kt s) d v fp (fun a _ o e => s a o e) q, n, f⟩
  | vw d => obtain ⟨fp, q⟩ := h; exact ⟨fp, RepD.kt (Same.kt s) d v fp (fun a _ o e => s a o e) q⟩
theorem RepR.back {H0 : Hp} (h : RepR K H H1 r v) (s : Same H0 H) : RepR K H0 H1 r v := by
  cases r with
  | own d => obtain ⟨fp, q, n, f⟩ := h; exact ⟨fp, q, n, fun a ha => s.free (f a ha)⟩
  | vw d => exact h
theorem RepR.plain {x : P} (h : RepP K H1 x v) : RepR K H H1 (.own (.p x)) v := ⟨[], ⟨h, rfl⟩, List.nodup_nil, fun _ z => nomatch z⟩
theorem RepR.getP {x : P} (h : RepR K H H1 r v) (e : r.d = .p x) : RepP K H1 x v := by
  obtain ⟨fp, q⟩ := h.look
  rw [e] at q
  exact q.1
end

/-! ### readings -/
/-- the context of readings: the written part, the module's names, what is wanted of errors -/
structure DC where
  K : PySem.W.Frag
  mg : Str → Option Value
  W : WX
  ex : Option Addr
abbrev GE := Sl → Rn Unit R
def tD (c : DC) (g : GE) : TE := fun σ H Q => ∃ (B : Hp) (Rg : Rgs c.ex) (δ : Sl), SRel c.K B Rg σ H δ ∧
  (g δ).wp (fun r => ∀ v H', Same H H' → RepR c.K H H' r v → Q v H') fun cl _ => ∀ C H', c.mg cl = some (.ref C) → Same H H' → c.W (.ref C) none σ H'
theorem PE.imp {X : Cx} {e : Expr} {t t' : TE} (h : PE X e t) (m : ∀ σ H Q, t' σ H Q → t σ H Q) : PE X e t' := ⟨fun pins s σ H Q I q => h.run pins s σ H Q I (m σ H Q q)⟩
theorem PT.imp {X : Cx} {e : Expr} {t t' : TT} (h : PT X e t) (m : ∀ σ H Q, t' σ H Q → t σ H Q) : PT X e t' := ⟨fun pins s σ H Q I q => h.run pins s σ H Q I (m σ H Q q)⟩
theorem PSs.imp {X : Cx} {e : List Stmt} {t t' : TS} (h : PSs X e t) (m : ∀ D σ H, t' D σ H → t D σ H) : PSs X e t' := ⟨fun pins s σ H D I q => h.run pins s σ H D I (m D σ H q)⟩
theorem PS.imp {X : Cx} {e : Stmt} {t t' : TS} (h : PS X e t) (m : ∀ D σ H, t' D σ H → t D σ H) : PS X e t' := ⟨fun pins s σ H D I q => h.run pins s σ H D I (m D σ H q)⟩

def gOp2 (f : D → D → Rn Unit R) (a b : GE) : GE := fun δ => (a δ).bind fun x => (b δ).bind fun y => f x.d y.d
def gOp1 (f : D → Rn Unit R) (a : GE) : GE := fun δ => (a δ).bind fun x => f x.d
/-- the end of a value rule: f's run gives what r asks -/
def Gives (c : DC) (w : Rn Unit R) (H : Hp) (t : VK → Prop) : Prop := ∀ Q : VK, w.wp (fun r => ∀ v H', Same H H' → RepR c.K H H' r v → Q v H') (fun _ _ => False) → t Q

theorem tD_seq {c : DC} {σ : L2.St} {B H : Hp} {Rg : Rgs c.ex} {δ : Sl} {g : GE} {α : Type} {f : R → Rn Unit α} {Q : α → Hp → Hp → Prop} (S : SRel c.K B Rg σ H δ)
    (hQ : ∀ a H1 H2, Same H H1 → Q a H H2 → Q a H1 H2)
    (h : ((g δ).bind f).wp (fun a => ∀ H', Same H H' → Q a H H') fun cl _ => ∀ C H', c.mg cl = some (.ref C) → Same H H' → c.W (.ref C) none σ H')
    {Q' : VK} (k : ∀ r v H1, Same H H1 → RepR c.K H H1 r v → SRel c.K B Rg σ H1 δ → (f r).wp (fun a => ∀ H', Same H1 H' → Q a H1 H') (fun cl _ => ∀ C H', c.mg cl = some (.ref C) → Same H1 H' → c.W (.ref C) none σ H') → Q' v H1) :
    tD c g σ H Q' := by
  refine ⟨B, Rg, δ, S, Rn.wp_mono (Rn.wp_bind.mp h) (fun r q v H1 s1 rv => k r v H1 s1 rv (S.grow s1) (Rn.wp_mono q (fun r q H' s' => hQ _ _ _ s1 (q H' (s1.trans s'))) fun cl _ q C H' e s' => q C H' e (s1.trans s'))) fun _ _ q => q⟩
end DL
/-! DLb: derivations of expressions: names, constants, operators, tests, displays, subscripts. -/
namespace DL
open PySem PySem.Spec PyProof.Rows L2

/-- the handled exception's address, in an except suite -/
def exOf (X : Cx) : Option Addr := match X.pn with
  | [] => none
  | p :: _ => if X.calm = true then none else some p.1
theorem exOf_calm {X : Cx} (h : X.calm = true) : exOf X = none := by
  unfold exOf
  split
  · rfl
  · rw [if_pos h]
abbrev dc (X : Cx) (W : WX) : DC := ⟨X.K, X.mg, W, exOf X⟩
theorem dc_calm {X : Cx} {W : WX} (h : X.calm = true) : dc X W = ⟨X.K, X.mg, W, none⟩ := by unfold dc; rw [exOf_calm h]
def DE (W : WX) (X : Cx) (e : Expr) (g : GE) : Prop := PE X e (tD (dc X W) g)
abbrev GT := Sl → Rn Unit Bool
def tDT (c : DC) (g : GT) : TT := fun σ H Q => ∃ (B : Hp) (Rg : Rgs c.ex) (δ : Sl), SRel c.K B Rg σ H δ ∧
  (g δ).wp (fun b => ∀ H', Same H H' → Q b H') fun cl _ => ∀ C H', c.mg cl = some (.ref C) → Same H H' → c.W (.ref C) none σ H'
def DT (W : WX) (X : Cx) (e : Expr) (g : GT) : Prop := PT X e (tDT (dc X W) g)
def DW (W : WX) (X : Cx) (e : Expr) (g : GT) : Prop := PW X e (tDT (dc X W) g)
def RepRs (K : PySem.W.Frag) (H' : Hp) : List R → List V → List Addr → Prop
  | [], vs, fp => vs = [] ∧ fp = []
  | .own d :: rs, vs, fp => ∃ v r f g, vs = v :: r ∧ fp = f ++ g ∧ RepD K H' d v f ∧ RepRs K H' rs r g
  | .vw d :: rs, vs, fp => ∃ v r f, vs = v :: r ∧ RepD K H' d v f ∧ RepRs K H' rs r fp
abbrev GA := Sl → Rn Unit (List R)
def RepA (K : PySem.W.Frag) (H H' : Hp) (rs : List R) (vs : List V) : Prop := ∃ fp, RepRs K H' rs vs fp ∧ fp.Nodup ∧ ∀ a ∈ fp, H a = none
def tDA (c : DC) (g : GA) : TA := fun σ H Q => ∃ (B : Hp) (Rg : Rgs c.ex) (δ : Sl), SRel c.K B Rg σ H δ ∧
  (g δ).wp (fun rs => ∀ vs H', Same H H' → RepA c.K H H' rs vs → Q vs H') fun cl _ => ∀ C H', c.mg cl = some (.ref C) → Same H H' → c.W (.ref C) none σ H'
def DA (W : WX) (X : Cx) (es : List Expr) (g : GA) : Prop := PA X es (tDA (dc X W) g)
theorem PA.imp {X : Cx} {es : List Expr} {t t' : TA} (h : PA X es t) (m : ∀ σ H Q, t' σ H Q → t σ H Q) : PA X es t' := ⟨fun pos pins s σ H Q I q => h.run pos pins s σ H Q I (m σ H Q q)⟩
theorem PW.imp {X : Cx} {e : Expr} {t t' : TT} (h : PW X e t) (m : ∀ σ H Q, t' σ H Q → t σ H Q) : PW X e t' := ⟨fun wh pins s σ H Q I q => h.run wh pins s σ H Q I (m σ H Q q)⟩

section
variable {c : DC} {σ : L2.St} {H : Hp} {Q : VK}
/-- a value at once -/
theorem tD_in {B : Hp} {Rg : Rgs c.ex} {δ : Sl} {g : GE} (S : SRel c.K B Rg σ H δ) (h : (g δ).wp (fun r => ∀ v H', Same H H' → RepR c.K H H' r v → Q v H') fun cl _ => ∀ C H', c.mg cl = some (.ref C) → Same H H' → c.W (.ref C) none σ H') : tD c g σ H Q := ⟨B, Rg, δ, S, h⟩
/-- as tD_seq, where a value is wanted -/
theorem tD_val {B : Hp} {Rg : Rgs c.ex} {δ : Sl} {g : GE} {f : R → Rn Unit R} (S : SRel c.K B Rg σ H δ)
    (h : ((g δ).bind f).wp (fun r => ∀ v H', Same H H' → RepR c.K H H' r v → Q v H') fun cl _ => ∀ C H', c.mg cl = some (.ref C) → Same H H' → c.W (.ref C) none σ H')
    {Q' : VK} (k : ∀ r v H1, Same H H1 → RepR c.K H H1 r v → SRel c.K B Rg σ H1 δ → (f r).wp (fun r => ∀ v H', Same H1 H' → RepR c.K H1 H' r v → Q v H') (fun cl _ => ∀ C H', c.mg cl = some (.ref C) → Same H1 H' → c.W (.ref C) none σ H') → Q' v H1) : tD c g σ H Q' := by
  refine tD_seq (Q := fun r H H' => ∀ v, RepR c.K H H' r v → Q v H') S (fun r H1 H2 s q v rv => q v (rv.back s)) (Rn.wp_mono h (fun r q H' s v rv => q v H' s rv) fun _ _ q => q) fun r v H1 s1 rv S1 w => k r v H1 s1 rv S1 (Rn.wp_mono w (fun r q v H' s rv => q H' s v rv) fun _ _ q => q)
theorem tD_bool {B : Hp} {Rg : Rgs c.ex} {δ : Sl} {g : GE} {f : R → Rn Unit Bool} {Qb : Bool → Hp → Prop} (S : SRel c.K B Rg σ H δ)
    (h : ((g δ).bind f).wp (fun b => ∀ H', Same H H' → Qb b H') fun cl _ => ∀ C H', c.mg cl = some (.ref C) → Same H H' → c.W (.ref C) none σ H')
    {Q' : VK} (k : ∀ r v H1, Same H H1 → RepR c.K H H1 r v → SRel c.K B Rg σ H1 δ → (f r).wp (fun b => ∀ H', Same H1 H' → Qb b H') (fun cl _ => ∀ C H', c.mg cl = some (.ref C) → Same H1 H' → c.W (.ref C) none σ H') → Q' v H1) : tD c g σ H Q' :=
  tD_seq (Q := fun b _ H' => Qb b H') S (fun _ _ _ _ q => q) h k
theorem tDT_seq {B : Hp} {Rg : Rgs c.ex} {δ : Sl} {g : GT} {α : Type} {f : Bool → Rn Unit α} {Qa : α → Hp → Hp → Prop} (S : SRel c.K B Rg σ H δ)
    (hQ : ∀ a H1 H2, Same H H1 → Qa a H H2 → Qa a H1 H2)
    (h : ((g δ).bind f).wp (fun a => ∀ H', Same H H' → Qa a H H') fun cl _ => ∀ C H', c.mg cl = some (.ref C) → Same H H' → c.W (.ref C) none σ H')
    {Q' : Bool → Hp → Prop} (k : ∀ b H1, Same H H1 → SRel c.K B Rg σ H1 δ → (f b).wp (fun a => ∀ H', Same H1 H' → Qa a H1 H') (fun cl _ => ∀ C H', c.mg cl = some (.ref C) → Same H1 H' → c.W (.ref C) none σ H') → Q' b H1) : tDT c g σ H Q' :=
  ⟨B, Rg, δ, S, Rn.wp_mono (Rn.wp_bind.mp h) (fun b q H1 s1 => k b H1 s1 (S.grow s1) (Rn.wp_mono q (fun r q H' s' => hQ r H1 H' s1 (q H' (s1.trans s'))) fun cl _ q C H' e s' => q C H' e (s1.trans s'))) fun _ _ q => q⟩
end

section
variable {W : WX} {X : Cx} {a b e : Expr} {ga gb : GE} {pos : Pos}

/-! ### names, constants -/
def gVar (i : Nat) : GE := fun δ => match δ[i]? with
  | some (.own (.p x)) => .ok (.own (.p x))
  | some (.bor _ (.p x)) => .ok (.own (.p x))
  | some (.own d) => .ok (.vw d)
  | some (.bor _ d) => .ok (.vw d)
  | _ => .bad
theorem SRel.slot {K : PySem.W.Frag} {B H : Hp} {ex : Option Addr} {Rg : Rgs ex} {σ : L2.St} {δ : Sl} {i : Nat} {s : S} {d : D} (S0 : SRel K B Rg σ H δ) (e : δ[i]? = some s) (hs : s = .own d ∨ ∃ t, s = .bor t d) : ∃ v g, σ[i]? = some (some v) ∧ RepD K H d v g := by
  obtain ⟨_, _, fp, q, _, _⟩ := S0
  obtain ⟨ov, f, e1, r, _⟩ := q.get e
  rcases hs with rfl | ⟨t, rfl⟩
  · obtain ⟨v, rfl, r⟩ := r
    exact ⟨v, f, e1, r⟩
  · obtain ⟨_, v, g, rfl, r, _⟩ := r
    exact ⟨v, g, e1, r⟩
theorem gVar_cases {i : Nat} {δ : Sl} {Q : R → Prop} {E : Str → Unit → Prop} (h : (gVar i δ).wp Q E) : ∃ s d, δ[i]? = some s ∧ (s = .own d ∨ ∃ t, s = .bor t d) ∧ ((∃ x, d = .p x ∧ Q (.own d)) ∨ Q (.vw d)) := by
  unfold gVar at h
  split at h
  · rename_i x e; exact ⟨_, _, e, .inl rfl, .inl ⟨x, rfl, h⟩⟩
  · rename_i t x e; exact ⟨_, _, e, .inr ⟨t, rfl⟩, .inl ⟨x, rfl, h⟩⟩
  · rename_i d _ e; exact ⟨_, _, e, .inl rfl, .inr h⟩
  · rename_i t d _ e; exact ⟨_, _, e, .inr ⟨t, rfl⟩, .inr h⟩
  · exact h.elim
theorem de_var {i : Nat} {x : Str} (hN : X.N[i]? = some x) (hv : Vis X.env.scope x) (hd : (x == ("__debug__" : Str)) = false := by decide) (hcd : (x == ("__classdict__" : Str)) = false := by decide) : DE W X (.Name x pos) (gVar i) := by
  refine PE.imp (pe_var hN hv hd hcd) fun σ H Q ⟨B, Rg, δ, S0, h⟩ => ?_
  obtain ⟨s, d, e, hs, h⟩ := gVar_cases h
  obtain ⟨v, g, e1, r⟩ := S0.slot e hs
  refine ⟨v, e1, ?_⟩
  rcases h with ⟨x, rfl, h⟩ | h
  · exact h v H (Same.refl H) (RepR.plain r.1)
  · exact h v H (Same.refl H) ⟨g, r⟩
def gC (x : P) : GE := fun _ => .ok (.own (.p x))
theorem de_of {t : TE} {x : P} {v : V} (h : PE X e (tC v)) (r : ∀ H, RepP X.K H x v) : DE W X e (gC x) :=
  PE.imp h fun σ H Q ⟨B, Rg, δ, S0, h⟩ => h v H (Same.refl H) (RepR.plain (r H))
theorem de_int {i j} : DE W X (.Constant (.int i) j pos) (gC (.int i)) := de_of (t := tC (.int i)) pe_int fun _ => rfl
theorem de_bl {b j} : DE W X (.Constant (.bool b) j pos) (gC (.bl b)) := de_of (t := tC (.bl b)) pe_bl fun _ => rfl
theorem de_non {j} : DE W X (.Constant .none j pos) (gC .non) := de_of (t := tC .non) pe_non fun _ => rfl
theorem de_str {x j} : DE W X (.Constant (.str x) j pos) (gC (.str x)) := de_of (t := tC (.str x)) pe_str fun _ => rfl
/-- a module's constant -/
def GC (K : PySem.W.Frag) (mg : Str → Option Value) (x : Str) (p : P) : Prop := ∃ u v, mg x = some u ∧ RelV v u ∧ ∀ H, RepP K H p v
theorem de_glob {x : Str} {p : P} (g : GC X.K X.mg x p) (hg : Gl X x := by rfl) (hd : (x == ("__debug__" : Str)) = false := by decide) : DE W X (.Name x pos) (gC p) := by
  obtain ⟨u, v, e, r, q⟩ := g
  exact de_of (t := tC v) (pe_glob hg e r hd) q

/-! ### operators -/
def OpG (K : PySem.W.Frag) (r : R2) (f : D → D → Rn Unit R) : Prop := ∀ (H : Hp) (x y : D) (v u : V) (fx fy : List Addr) (Q : VK) (E : Str → Unit → Prop), RepD K H x v fx → RepD K H y u fy →
  (f x y).wp (fun r => ∀ v H', Same H H' → RepR K H H' r v → Q v H') E → r v u H Q
theorem op2_of {r : R2} {f : D → D → Rn Unit R} (hf : OpG X.K r f) (σ : L2.St) (H : Hp) (Q : VK) (h : tD (dc X W) (gOp2 f ga gb) σ H Q) : tOp r (tD (dc X W) ga) (tD (dc X W) gb) σ H Q := by
  obtain ⟨B, Rg, δ, S0, w⟩ := h
  refine tD_val S0 w fun r1 v1 H1 s1 rv1 S1 w1 => ?_
  refine tD_val S1 w1 fun r2 v2 H2 s2 rv2 S2 w2 => ?_
  obtain ⟨f1, q1⟩ := (rv1.grow s2).look
  obtain ⟨f2, q2⟩ := rv2.look
  exact hf H2 r1.d r2.d v1 v2 f1 f2 Q _ q1 q2 w2
theorem de_op2 {op : Operator} {r : R2} {f : D → D → Rn Unit R} (ho : OpR X (binaryOp op) r) (hf : OpG X.K r f) (ha : DE W X a ga) (hb : DE W X b gb) : DE W X (.BinOp a op b pos) (gOp2 f ga gb) :=
  PE.imp (pe_op ho ha hb) (op2_of hf)
theorem OpG.or {K : PySem.W.Frag} {r r' : R2} {f : D → D → Rn Unit R} (h : ∀ (H : Hp) (x y : D) (v u : V) (fx fy : List Addr) (Q : VK) (E : Str → Unit → Prop), RepD K H x v fx → RepD K H y u fy →
  (f x y).wp (fun r => ∀ v H', Same H H' → RepR K H H' r v → Q v H') E → r v u H Q ∨ r' v u H Q) : OpG K (fun x y H Q => r x y H Q ∨ r' x y H Q) f := h
/-- ints -/
def fInt (g : Int → Int → P) : D → D → Rn Unit R
  | .p (.int i), .p (.int j) => .ok (.own (.p (g i j)))
  | _, _ => .bad
def iSub : D → D → Rn Unit R := fInt fun i j => .int (i - j)
theorem fInt_cases {g : Int → Int → P} {x y : D} {Q : R → Prop} {E : Str → Unit → Prop} (h : (fInt g x y).wp Q E) : ∃ i j, x = .p (.int i) ∧ y = .p (.int j) ∧ Q (.own (.p (g i j))) := by
  unfold fInt at h
  split at h
  · exact ⟨_, _, rfl, rfl, h⟩
  · exact h.elim
theorem RepP.up {K : PySem.W.Frag} {H : Hp} {x : P} {v : V} {Q : VK} (h : ∀ v H', Same H H' → RepR K H H' (.own (.p x)) v → Q v H') (r : RepP K H x v) : Q v H := h v H (Same.refl H) (RepR.plain r)
theorem og_sub {K : PySem.W.Frag} : OpG K (rI0 fun i j => .int (i - j)) iSub := by
  intro H x y v u fx fy Q E rx ry h
  obtain ⟨i, j, rfl, rfl, q⟩ := fInt_cases h
  obtain rfl : v = .int i := rx.1
  obtain rfl : u = .int j := ry.1
  exact ⟨i, j, rfl, rfl, RepP.up q rfl⟩
theorem de_sub (ha : DE W X a ga) (hb : DE W X b gb) : DE W X (.BinOp a .Sub b pos) (gOp2 iSub ga gb) := de_op2 op_sub og_sub ha hb

/-- a new object -/
theorem RepD.up {K : PySem.W.Frag} {H : Hp} {d : D} {o : HO} {Q : VK} {p : Addr} (hp : H p = none) (h : ∀ v H', Same H H' → RepR K H H' (.own d) v → Q v H') (r : ∃ fp, RepD K (upd H p o) d (.ref p) fp ∧ fp.Nodup ∧ ∀ a ∈ fp, H a = none) : Q (.ref p) (upd H p o) :=
  h _ _ (fun b u e => by rw [upd_ne (ne_of_none e hp)]; exact e) r
theorem Same.new {H : Hp} {p : Addr} {o : HO} (hp : H p = none) : Same H (upd H p o) := fun b u e => by rw [upd_ne (ne_of_none e hp)]; exact e
theorem RepPs.len {K : PySem.W.Frag} {H : Hp} : ∀ {xs : List P} {vs : List V}, RepPs K H xs vs → vs.length = xs.length
  | [], vs, h => by
    obtain rfl : vs = [] := h
    rfl
  | x :: xs, vs, h => by
    obtain ⟨v, r, rfl, _, h2⟩ := h
    simp [RepPs.len h2]
theorem RepPs.append {K : PySem.W.Frag} {H : Hp} {ys : List P} {us : List V} (hy : RepPs K H ys us) : ∀ {xs : List P} {vs : List V}, RepPs K H xs vs → RepPs K H (xs ++ ys) (vs ++ us)
  | [], vs, h => by
    obtain rfl : vs = [] := h
    exact hy
  | x :: xs, vs, h => by
    obtain ⟨v, r, rfl, h1, h2⟩ := h
    exact ⟨v, r ++ us, rfl, h1, RepPs.append hy h2⟩
theorem RepPs.get {K : PySem.W.Frag} {H : Hp} : ∀ {xs : List P} {vs : List V} {i : Nat} {x : P}, RepPs K H xs vs → xs[i]? = some x → ∃ v, vs[i]? = some v ∧ RepP K H x v
  | [], _, i, _, _, e => by simp at e
  | x :: xs, vs, 0, y, h, e => by
    obtain ⟨v, r, rfl, h1, h2⟩ := h
    obtain rfl : x = y := by simpa using e
    exact ⟨v, rfl, h1⟩
  | x :: xs, vs, i + 1, y, h, e => by
    obtain ⟨v, r, rfl, h1, h2⟩ := h
    obtain ⟨u, q1, q2⟩ := RepPs.get (i := i) h2 (by simpa using e)
    exact ⟨u, by simpa using q1, q2⟩
theorem RepPs.drop {K : PySem.W.Frag} {H : Hp} : ∀ {xs : List P} {vs : List V} (n : Nat), RepPs K H xs vs → RepPs K H (xs.drop n) (vs.drop n)
  | _, _, 0, h => h
  | [], vs, n + 1, h => by
    obtain rfl : vs = [] := h
    exact rfl
  | x :: xs, vs, n + 1, h => by
    obtain ⟨v, r, rfl, _, h2⟩ := h
    exact RepPs.drop n h2
theorem RepPs.take {K : PySem.W.Frag} {H : Hp} : ∀ {xs : List P} {vs : List V} (n : Nat), RepPs K H xs vs → RepPs K H (xs.take n) (vs.take n)
  | _, _, 0, _ => rfl
  | [], vs, n + 1, h => by
    obtain rfl : vs = [] := h
    exact rfl
  | x :: xs, vs, n + 1, h => by
    obtain ⟨v, r, rfl, h1, h2⟩ := h
    exact ⟨v, _, rfl, h1, RepPs.take n h2⟩
theorem RepPs.int {K : PySem.W.Frag} {H : Hp} : ∀ {ns : List Int} {vs : List V}, RepPs K H (ns.map P.int) vs → vs = ns.map V.int
  | [], _, h => h
  | n :: ns, _, h => by
    obtain ⟨v, r, rfl, h1, h2⟩ := h
    obtain rfl : v = .int n := h1
    rw [RepPs.int h2]
    rfl
theorem RepPs.ofInt {K : PySem.W.Frag} {H : Hp} : ∀ (ns : List Int), RepPs K H (ns.map P.int) (ns.map V.int)
  | [] => rfl
  | n :: ns => ⟨_, _, rfl, rfl, RepPs.ofInt ns⟩
theorem RepPs.str {K : PySem.W.Frag} {H : Hp} : ∀ {ns : List Str} {vs : List V}, RepPs K H (ns.map P.str) vs → vs = ns.map V.str
  | [], _, h => h
  | n :: ns, _, h => by
    obtain ⟨v, r, rfl, h1, h2⟩ := h
    obtain rfl : v = .str n := h1
    rw [RepPs.str h2]
    rfl
theorem RepPs.ofStr {K : PySem.W.Frag} {H : Hp} : ∀ (ns : List Str), RepPs K H (ns.map P.str) (ns.map V.str)
  | [] => rfl
  | n :: ns => ⟨_, _, rfl, rfl, RepPs.ofStr ns⟩
theorem RepPs.bl {K : PySem.W.Frag} {H : Hp} : ∀ {ns : List Bool} {vs : List V}, RepPs K H (ns.map P.bl) vs → vs = ns.map V.bl
  | [], _, h => h
  | n :: ns, _, h => by
    obtain ⟨v, r, rfl, h1, h2⟩ := h
    obtain rfl : v = .bl n := h1
    rw [RepPs.bl h2]
    rfl

/-- + of ints, texts, tuples, lists -/
def fAdd : D → D → Rn Unit R
  | .p (.int i), .p (.int j) => .ok (.own (.p (.int (i + j))))
  | .p (.str i), .p (.str j) => if i.length + j.length ≤ sizeLine then .ok (.own (.p (.str (i ++ j)))) else .bad
  | .p (.tup xs), .p (.tup ys) => if xs.length + ys.length ≤ sizeLine then .ok (.own (.p (.tup (xs ++ ys)))) else .bad
  | .lst xs, .lst ys => if xs.length + ys.length ≤ sizeLine then .ok (.own (.lst (xs ++ ys))) else .bad
  | _, _ => .bad
def rAddA (K : PySem.W.Frag) : R2 := fun x y H Q => (rI0 (fun i j => .int (i + j)) x y H Q) ∨ (∃ i j, x = .str i ∧ y = .str j ∧ i.length + j.length ≤ sizeLine ∧ Q (.str (i ++ j)) H) ∨ rCatA K x y H Q ∨ rCat x y H Q
theorem op_addA : OpR X (binaryOp .Add) (rAddA X.K) := op_add.or (op_add_str.or (op_catA.or op_cat))
theorem og_add {K : PySem.W.Frag} : OpG K (rAddA K) fAdd := by
  intro H x y v u fx fy Q E rx ry h
  unfold fAdd at h
  split at h
  · rename_i i j
    obtain rfl : v = .int i := rx.1
    obtain rfl : u = .int j := ry.1
    exact .inl ⟨i, j, rfl, rfl, RepP.up h rfl⟩
  · rename_i i j
    obtain rfl : v = .str i := rx.1
    obtain rfl : u = .str j := ry.1
    split at h
    · rename_i hz
      exact .inr (.inl ⟨i, j, rfl, rfl, hz, RepP.up h rfl⟩)
    · exact h.elim
  · rename_i xs ys
    split at h
    · rename_i hz
      obtain ⟨⟨a, vs, rfl, qa, ra⟩, _⟩ := rx
      obtain ⟨⟨b, us, rfl, qb, rb⟩, _⟩ := ry
      refine .inr (.inr (.inl ⟨a, b, vs, us, rfl, rfl, qa, qb, by rw [ra.len, rb.len]; exact hz, fun z => ?_, fun _ z => ?_, fun _ _ p hp => ?_⟩))
      · subst z
        cases xs with
        | nil => exact RepP.up h ⟨b, us, rfl, qb, rb⟩
        | cons x xs => obtain ⟨_, _, z, _⟩ := ra; cases z
      · subst z
        cases ys with
        | nil => rw [List.append_nil] at h; exact RepP.up h ⟨a, vs, rfl, qa, ra⟩
        | cons x xs => obtain ⟨_, _, z, _⟩ := rb; cases z
      · refine RepD.up hp h ⟨[], ⟨⟨p, vs ++ us, rfl, .inl (.inl upd_same), ?_⟩, rfl⟩, List.nodup_nil, fun _ z => nomatch z⟩
        exact RepPs.kt (Same.kt (Same.new hp)) _ _ (rb.append ra)
    · exact h.elim
  · rename_i xs ys
    split at h
    · rename_i hz
      obtain ⟨a, vs, rfl, qa, _, ra⟩ := rx
      obtain ⟨b, us, rfl, qb, _, rb⟩ := ry
      refine .inr (.inr (.inr ⟨a, b, vs, us, rfl, rfl, qa, qb, by rw [ra.len, rb.len]; exact hz, fun p hp => ?_⟩))
      refine RepD.up hp h ⟨[p], ⟨p, vs ++ us, rfl, upd_same, rfl, RepPs.kt (Same.kt (Same.new hp)) _ _ (rb.append ra)⟩, by simp, fun b hb => by
        obtain rfl : b = p := by simpa using hb
        exact hp⟩
    · exact h.elim
  · exact h.elim
theorem de_add (ha : DE W X a ga) (hb : DE W X b gb) : DE W X (.BinOp a .Add b pos) (gOp2 fAdd ga gb) := de_op2 op_addA og_add ha hb

/-- ints under a condition -/
def fIntC (C : Int → Int → Prop) [∀ i j, Decidable (C i j)] (g : Int → Int → Int) : D → D → Rn Unit R
  | .p (.int i), .p (.int j) => if C i j then .ok (.own (.p (.int (g i j)))) else .bad
  | _, _ => .bad
theorem og_intC {K : PySem.W.Frag} {C : Int → Int → Prop} [∀ i j, Decidable (C i j)] {g : Int → Int → Int} : OpG K (rI C fun i j => .int (g i j)) (fIntC C g) := by
  intro H x y v u fx fy Q E rx ry h
  unfold fIntC at h
  split at h
  · rename_i i j
    split at h
    · rename_i hc
      obtain rfl : v = .int i := rx.1
      obtain rfl : u = .int j := ry.1
      exact ⟨i, j, rfl, rfl, hc, RepP.up h rfl⟩
    · exact h.elim
  · exact h.elim
instance : ∀ i j, Decidable (CMulW i j) := fun i j => by unfold CMulW; infer_instance
instance : ∀ i j, Decidable (CDivW i j) := fun i j => by unfold CDivW; infer_instance
instance : ∀ i j, Decidable (CDivN i j) := fun i j => by unfold CDivN; infer_instance
instance : ∀ i j, Decidable (CPow i j) := fun i j => by unfold CPow; infer_instance
instance : ∀ i j, Decidable (CShl i j) := fun i j => by unfold CShl; infer_instance
/-- * of ints; of a list or text by an int comes later -/
def fMul : D → D → Rn Unit R
  | .lst xs, .p (.int k) => if -(2 ^ 63) ≤ k ∧ k < 2 ^ 63 ∧ xs.length * k.toNat ≤ sizeLine then .ok (.own (.lst (List.replicate k.toNat xs).flatten)) else .bad
  | x, y => fIntC CMulW (fun i j => i * j) x y
theorem RepPs.rep {K : PySem.W.Frag} {H : Hp} {xs : List P} {vs : List V} (h : RepPs K H xs vs) : ∀ n : Nat, RepPs K H (List.replicate n xs).flatten (List.replicate n vs).flatten
  | 0 => rfl
  | n + 1 => by
    rw [List.replicate_succ, List.replicate_succ, List.flatten_cons, List.flatten_cons]
    exact RepPs.append (RepPs.rep h n) h
theorem op_mulA : OpR X (binaryOp .Mult) (fun x y H Q => rRep x y H Q ∨ rI CMulW (fun i j => .int (i * j)) x y H Q) := op_rep.or op_mulW
theorem og_mul {K : PySem.W.Frag} : OpG K (fun x y H Q => rRep x y H Q ∨ rI CMulW (fun i j => .int (i * j)) x y H Q) fMul := by
  intro H x y v u fx fy Q E rx ry h
  unfold fMul at h
  split at h
  · rename_i xs k
    split at h
    · rename_i hz
      obtain ⟨a, vs, rfl, qa, _, ra⟩ := rx
      obtain rfl : u = .int k := ry.1
      refine .inl ⟨a, k, vs, rfl, rfl, qa, hz.1, hz.2.1, by rw [ra.len]; exact hz.2.2, fun p hp => ?_⟩
      refine RepD.up hp h ⟨[p], ⟨p, _, rfl, upd_same, rfl, RepPs.kt (Same.kt (Same.new hp)) _ _ (ra.rep k.toNat)⟩, by simp, fun b hb => by
        obtain rfl : b = p := by simpa using hb
        exact hp⟩
    · exact h.elim
  · exact .inr (og_intC H x y v u fx fy Q E rx ry h)
theorem de_mul (ha : DE W X a ga) (hb : DE W X b gb) : DE W X (.BinOp a .Mult b pos) (gOp2 fMul ga gb) := de_op2 op_mulA og_mul ha hb
/-- // -/
def fDiv : D → D → Rn Unit R
  | .p (.int i), .p (.int j) => if CDivW i j then .ok (.own (.p (.int (i / j)))) else if CDivN i j then .ok (.own (.p (.int (i.fdiv j)))) else .bad
  | _, _ => .bad
theorem op_divA : OpR X (binaryOp .FloorDiv) (fun x y H Q => rI CDivW (fun i j => .int (i / j)) x y H Q ∨ rI CDivN (fun i j => .int (i.fdiv j)) x y H Q) := op_fdivW.or op_fdivN
theorem og_div {K : PySem.W.Frag} : OpG K (fun x y H Q => rI CDivW (fun i j => .int (i / j)) x y H Q ∨ rI CDivN (fun i j => .int (i.fdiv j)) x y H Q) fDiv := by
  intro H x y v u fx fy Q E rx ry h
  unfold fDiv at h
  split at h
  · rename_i i j
    obtain rfl : v = .int i := rx.1
    obtain rfl : u = .int j := ry.1
    split at h
    · rename_i hc
      exact .inl ⟨i, j, rfl, rfl, hc, RepP.up h rfl⟩
    · split at h
      · rename_i hc
        exact .inr ⟨i, j, rfl, rfl, hc, RepP.up h rfl⟩
      · exact h.elim
  · exact h.elim
theorem de_div (ha : DE W X a ga) (hb : DE W X b gb) : DE W X (.BinOp a .FloorDiv b pos) (gOp2 fDiv ga gb) := de_op2 op_divA og_div ha hb
def fMod : D → D → Rn Unit R
  | .p (.int i), .p (.int j) => if 0 < j then .ok (.own (.p (.int (i % j)))) else if j ≠ 0 then .ok (.own (.p (.int (i.fmod j)))) else .bad
  | _, _ => .bad
theorem op_modA : OpR X (binaryOp .Mod) (fun x y H Q => rI (fun _ j => 0 < j) (fun i j => .int (i % j)) x y H Q ∨ rI (fun _ j => j ≠ 0) (fun i j => .int (i.fmod j)) x y H Q) := op_mod.or op_modN
theorem og_mod {K : PySem.W.Frag} : OpG K (fun x y H Q => rI (fun _ j => 0 < j) (fun i j => .int (i % j)) x y H Q ∨ rI (fun _ j => j ≠ 0) (fun i j => .int (i.fmod j)) x y H Q) fMod := by
  intro H x y v u fx fy Q E rx ry h
  unfold fMod at h
  split at h
  · rename_i i j
    obtain rfl : v = .int i := rx.1
    obtain rfl : u = .int j := ry.1
    split at h
    · rename_i hc
      exact .inl ⟨i, j, rfl, rfl, hc, RepP.up h rfl⟩
    · split at h
      · rename_i hc
        exact .inr ⟨i, j, rfl, rfl, hc, RepP.up h rfl⟩
      · exact h.elim
  · exact h.elim
theorem de_mod (ha : DE W X a ga) (hb : DE W X b gb) : DE W X (.BinOp a .Mod b pos) (gOp2 fMod ga gb) := de_op2 op_modA og_mod ha hb
theorem de_pow (ha : DE W X a ga) (hb : DE W X b gb) : DE W X (.BinOp a .Pow b pos) (gOp2 (fIntC CPow fun i j => i ^ j.toNat) ga gb) := de_op2 op_pow og_intC ha hb
theorem de_shl (ha : DE W X a ga) (hb : DE W X b gb) : DE W X (.BinOp a .LShift b pos) (gOp2 (fIntC CShl fun i j => i * 2 ^ j.toNat) ga gb) := de_op2 op_shlW og_intC ha hb
theorem de_shr (ha : DE W X a ga) (hb : DE W X b gb) : DE W X (.BinOp a .RShift b pos) (gOp2 (fIntC (fun _ j => 0 ≤ j) fun i j => i / 2 ^ j.toNat) ga gb) := de_op2 op_shr og_intC ha hb
def fNeg : D → Rn Unit R
  | .p (.int i) => .ok (.own (.p (.int (-i))))
  | _ => .bad
theorem de_neg (ha : DE W X a ga) : DE W X (.UnaryOp .USub a pos) (gOp1 fNeg ga) := by
  refine PE.imp (pe_un un_neg ha) fun σ H Q ⟨B, Rg, δ, S0, w⟩ => ?_
  refine tD_val S0 w fun r1 v1 H1 s1 rv1 S1 w1 => ?_
  unfold fNeg at w1
  split at w1
  · rename_i i e
    obtain rfl : v1 = .int i := rv1.getP e
    exact ⟨i, rfl, RepP.up w1 rfl⟩
  · exact w1.elim
end
end DL
/-! DLc: derivations of tests, displays, subscripts, slices, arguments. -/
namespace DL
open PySem PySem.Spec PyProof.Rows L2

/-! ### equality of data -/
mutual
def P.py : P → PyData
  | .non => .none
  | .bl b => .bool b
  | .int i => .int i
  | .str x => .str x
  | .tup xs => .tuple (P.pys xs)
def P.pys : List P → List PyData
  | [] => []
  | x :: xs => x.py :: P.pys xs
end
section
variable {K : PySem.W.Frag} {H : Hp}
mutual
theorem RepP.dp : ∀ (x : P) (v : V), RepP K H x v → Dp K H v x.py
  | .non, v, h => by
    obtain rfl : v = .non := h
    exact .non
  | .bl b, v, h => by
    obtain rfl : v = .bl b := h
    exact .bl b
  | .int i, v, h => by
    obtain rfl : v = .int i := h
    exact .int i
  | .str x, v, h => by
    obtain rfl : v = .str x := h
    exact .str x
  | .tup xs, v, h => by
    obtain ⟨a, vs, rfl, q, r⟩ := h
    exact .tup q (RepPs.dp xs vs r)
theorem RepPs.dp : ∀ (xs : List P) (vs : List V), RepPs K H xs vs → DpAll K H vs (P.pys xs)
  | [], vs, h => by
    obtain rfl : vs = [] := h
    exact .nil
  | x :: xs, vs, h => by
    obtain ⟨v, r, rfl, h1, h2⟩ := h
    exact .cons (RepP.dp x v h1) (RepPs.dp xs r h2)
end
end
/-- what may be compared by == -/
def D.py? : D → Option PyData
  | .p x => some x.py
  | .lst xs => some (.list (P.pys xs))
  | _ => none
def P.scal : P → P → Bool
  | .non, .non => true
  | .non, .int _ => true
  | .int _, .non => true
  | .non, .bl _ => true
  | .bl _, .non => true
  | .non, .str _ => true
  | .str _, .non => true
  | .int _, .int _ => true
  | .bl _, .bl _ => true
  | .str _, .str _ => true
  | .int _, .str _ => true
  | .str _, .int _ => true
  | .bl _, .str _ => true
  | .str _, .bl _ => true
  | _, _ => false
def P.seq : P → P → Bool
  | .non, .non => true
  | .int i, .int j => decide (i = j)
  | .bl a, .bl b => decide (a = b)
  | .str a, .str b => decide (a = b)
  | _, _ => false
def fEqB (neg : Bool) (x y : D) : Rn Unit Bool :=
  match x, y with
  | .p a, .p b => if P.scal a b = true then .ok (if neg then !P.seq a b else P.seq a b)
    else if SeqAt.shaped a.py = true ∧ SeqAt.shaped b.py = true then .ok (if neg then !PyData.eqv a.py b.py else PyData.eqv a.py b.py) else .bad
  | x, y => match x.py?, y.py? with
    | some a, some b => if SeqAt.shaped a = true ∧ SeqAt.shaped b = true then .ok (if neg then !PyData.eqv a b else PyData.eqv a b) else .bad
    | _, _ => .bad
def fB (f : D → D → Rn Unit Bool) (x y : D) : Rn Unit R := (f x y).bind fun b => .ok (.own (.p (.bl b)))
section
variable {K : PySem.W.Frag} {H : Hp}
theorem D.py_dp {x : D} {v : V} {fp : List Addr} {d : PyData} (r : RepD K H x v fp) (e : x.py? = some d) : Dp K H v d := by
  cases x with
  | p x =>
    obtain rfl : x.py = d := by simpa [D.py?] using e
    exact RepP.dp x v r.1
  | lst xs =>
    obtain rfl : PyData.list (P.pys xs) = d := by simpa [D.py?] using e
    obtain ⟨a, vs, rfl, q, _, r⟩ := r
    exact .lst (SqL.of q) (RepPs.dp xs vs r)
  | _ => cases e
theorem scal_ok {a b : P} {v u : V} (ra : RepP K H a v) (rb : RepP K H b u) (h : P.scal a b = true) : L2.scal v u = true ∧ decide (v = u) = P.seq a b := by
  cases a <;> cases b <;> first
    | (exfalso; revert h; simp [P.scal]; done)
    | (obtain rfl := (ra : v = _); obtain rfl := (rb : u = _); exact ⟨rfl, by simp [P.seq]⟩)
end
def rEqA (K : PySem.W.Frag) : R2 := fun x y H Q => rEq x y H Q ∨ rEqD K x y H Q
def rNeA (K : PySem.W.Frag) : R2 := fun x y H Q => rNe x y H Q ∨ rNeD K x y H Q
section
variable {K : PySem.W.Frag}
theorem og_eqx (neg : Bool) : OpG K (if neg then rNeA K else rEqA K) (fB (fEqB neg)) := by
  intro H x y v u fx fy Q E rx ry h
  have h' := Rn.wp_bind.mp h
  unfold fEqB at h'
  have dd : ∀ {a b : PyData}, x.py? = some a → y.py? = some b → (if SeqAt.shaped a = true ∧ SeqAt.shaped b = true then Rn.ok (if neg then !PyData.eqv a b else PyData.eqv a b) else Rn.bad : Rn Unit Bool).wp (fun b => ((Rn.ok (R.own (D.p (.bl b))) : Rn Unit R)).wp (fun r => ∀ v H', Same H H' → RepR K H H' r v → Q v H') E) E →
      (if neg then rNeA K else rEqA K) v u H Q := by
    intro a b ea eb q
    split at q
    · rename_i hs
      cases neg with
      | true => exact .inr ⟨a, b, D.py_dp rx ea, D.py_dp ry eb, hs.1, hs.2, RepP.up q rfl⟩
      | false => exact .inr ⟨a, b, D.py_dp rx ea, D.py_dp ry eb, hs.1, hs.2, RepP.up q rfl⟩
    · exact q.elim
  split at h'
  · rename_i a b
    split at h'
    · rename_i hs
      obtain ⟨z1, z2⟩ := scal_ok rx.1 ry.1 hs
      cases neg with
      | true => exact .inl ⟨z1, by rw [z2]; exact RepP.up h' rfl⟩
      | false => exact .inl ⟨z1, by rw [z2]; exact RepP.up h' rfl⟩
    · exact dd rfl rfl h'
  · split at h'
    · rename_i a b ea eb
      exact dd ea eb h'
    · exact h'.elim
theorem og_eq : OpG K (rEqA K) (fB (fEqB false)) := og_eqx (K := K) false
theorem og_ne : OpG K (rNeA K) (fB (fEqB true)) := og_eqx (K := K) true
/-- < and its kin of ints -/
def fIntB (g : Int → Int → Bool) : D → D → Rn Unit Bool
  | .p (.int i), .p (.int j) => .ok (g i j)
  | _, _ => .bad
theorem og_intB {g : Int → Int → Bool} : OpG K (rI0 fun i j => .bl (g i j)) (fB (fIntB g)) := by
  intro H x y v u fx fy Q E rx ry h
  have h' := Rn.wp_bind.mp h
  unfold fIntB at h'
  split at h'
  · rename_i i j
    obtain rfl : v = .int i := rx.1
    obtain rfl : u = .int j := ry.1
    exact ⟨i, j, rfl, rfl, RepP.up h' rfl⟩
  · exact h'.elim
abbrev fLt := fIntB fun i j => decide (i < j)
abbrev fLe := fIntB fun i j => decide (i ≤ j)
abbrev fGt := fIntB fun i j => decide (j < i)
abbrev fGe := fIntB fun i j => decide (j ≤ i)
/-- is None -/
def fIsN (neg : Bool) : D → D → Rn Unit Bool
  | x, .p .non => match x with
    | .p .non => .ok (!neg)
    | _ => .ok neg
  | _, _ => .bad
theorem RepD.notN {H : Hp} {x : D} {v : V} {fp : List Addr} (r : RepD K H x v fp) (h : x ≠ .p .non) : v ≠ .non := by
  cases x with
  | p x =>
    cases x with
    | non => exact absurd rfl h
    | bl b => obtain rfl : v = .bl b := r.1; exact fun z => nomatch z
    | int b => obtain rfl : v = .int b := r.1; exact fun z => nomatch z
    | str b => obtain rfl : v = .str b := r.1; exact fun z => nomatch z
    | tup b => obtain ⟨⟨a, _, rfl, _⟩, _⟩ := r; exact fun z => nomatch z
  | lst xs => obtain ⟨a, _, rfl, _⟩ := r; exact fun z => nomatch z
  | ls xs => obtain ⟨a, _, _, rfl, _⟩ := r; exact fun z => nomatch z
  | tp xs => obtain ⟨a, _, rfl, _⟩ := r; exact fun z => nomatch z
  | dic xs => obtain ⟨a, _, rfl, _⟩ := r; exact fun z => nomatch z
  | dit xs => obtain ⟨a, _, rfl, _⟩ := r; exact fun z => nomatch z
  | orc => obtain ⟨a, _, _, rfl, _⟩ := r; exact fun z => nomatch z
  | scr ns => obtain ⟨_, a, rfl, _⟩ := r; exact fun z => nomatch z
theorem og_isN : OpG K (fun x y H Q => y = .non ∧ Q (.bl (decide (x = .non))) H) (fB (fIsN false)) := by
  intro H x y v u fx fy Q E rx ry h
  have h' := Rn.wp_bind.mp h
  unfold fIsN at h'
  split at h'
  · obtain rfl : u = .non := ry.1
    refine ⟨rfl, ?_⟩
    split at h'
    · obtain rfl : v = .non := rx.1
      exact RepP.up h' rfl
    · rename_i hn
      rw [decide_eq_false (rx.notN hn)]
      exact RepP.up h' rfl
  · exact h'.elim
theorem og_notN : OpG K (fun x y H Q => y = .non ∧ Q (.bl (!decide (x = .non))) H) (fB (fIsN true)) := by
  intro H x y v u fx fy Q E rx ry h
  have h' := Rn.wp_bind.mp h
  unfold fIsN at h'
  split at h'
  · obtain rfl : u = .non := ry.1
    refine ⟨rfl, ?_⟩
    split at h'
    · obtain rfl : v = .non := rx.1
      exact RepP.up h' rfl
    · rename_i hn
      rw [decide_eq_false (rx.notN hn)]
      exact RepP.up h' rfl
  · exact h'.elim
end

/-! ### tests -/
def D.bool? : R → Rn Unit Bool := fun r => match r.d with
  | .p (.bl b) => .ok b
  | _ => .bad
/-- the bool that an expression gives -/
def gTB (g : GE) : GT := fun δ => (g δ).bind D.bool?
section
variable {W : WX} {X : Cx} {a b e : Expr} {ga gb gc : GE} {ta tb : GT} {pos : Pos}
theorem tDT_of {c : DC} {g : GE} {σ : L2.St} {H : Hp} {Q : Bool → Hp → Prop} (h : tDT c (gTB g) σ H Q) : tD c g σ H fun x H' => ∃ k, x = .bl k ∧ Q k H' := by
  obtain ⟨B, Rg, δ, S0, w⟩ := h
  refine ⟨B, Rg, δ, S0, Rn.wp_mono (Rn.wp_bind.mp w) (fun r q v H' s rv => ?_) fun _ _ q => q⟩
  unfold D.bool? at q
  split at q
  · rename_i k e
    obtain rfl : v = .bl k := rv.getP e
    exact ⟨k, rfl, q H' s⟩
  · exact q.elim
theorem de_cmp {op : CmpOp} {r : R2} {f : D → D → Rn Unit R} (ho : OpR X (compareOp op) r) (hf : OpG X.K r f) (ha : DE W X a ga) (hb : DE W X b gb) (hm : behindInMarks op b = false) : DE W X (.Compare a [op] [b] pos) (gOp2 f ga gb) :=
  PE.imp (pe_cmpR ho ha hb hm) (op2_of hf)
theorem dt_cmp {op : CmpOp} {r : R2} {f : D → D → Rn Unit R} (ho : OpR X (compareOp op) r) (hf : OpG X.K r f) (ha : DE W X a ga) (hb : DE W X b gb) (hm : behindInMarks op b = false) : DT W X (.Compare a [op] [b] pos) (gTB (gOp2 f ga gb)) :=
  PT.imp (pt_cmpR ho ha hb hm) fun σ H Q h => op2_of hf σ H _ (tDT_of h)
/-- a op b op' c -/
def gChain (f f' : D → D → Rn Unit Bool) (ga gb gc : GE) : GE := fun δ => (ga δ).bind fun x => (gb δ).bind fun y => (f x.d y.d).bind fun k => if k = true then (gc δ).bind fun z => fB f' y.d z.d else .ok (.own (.p (.bl false)))
theorem chain_of {r r' : R2} {f f' : D → D → Rn Unit Bool} (hf : OpG X.K r (fB f)) (hf' : OpG X.K r' (fB f')) (σ : L2.St) (H : Hp) (Q : VK) (h : tD (dc X W) (gChain f f' ga gb gc) σ H Q) :
    tChain r r' (tD (dc X W) ga) (tD (dc X W) gb) (tD (dc X W) gc) σ H Q := by
  obtain ⟨B, Rg, δ, S0, w⟩ := h
  refine tD_val S0 w fun r1 v1 H1 s1 rv1 S1 w1 => ?_
  refine tD_val S1 w1 fun r2 v2 H2 s2 rv2 S2 w2 => ?_
  obtain ⟨f1, q1⟩ := (rv1.grow s2).look
  obtain ⟨f2, q2⟩ := rv2.look
  refine hf H2 r1.d r2.d v1 v2 f1 f2 _ (fun cl _ => ∀ C H', (dc X W).mg cl = some (.ref C) → Same H2 H' → (dc X W).W (.ref C) none σ H') q1 q2 (Rn.wp_bind.mpr (Rn.wp_mono (Rn.wp_bind.mp w2) (fun k q v H3 s3 rv3 => ?_) fun _ _ q => q))
  obtain rfl : v = .bl k := rv3.getP rfl
  refine ⟨k, rfl, ?_⟩
  cases k with
  | false =>
    rw [if_neg (by decide)] at q ⊢
    exact q _ _ s3 (RepR.plain rfl)
  | true =>
    rw [if_pos rfl] at q ⊢
    refine tD_val (S2.grow s3) (Rn.wp_mono q (fun r q v H' s rv => q v H' (s3.trans s) (rv.back s3)) fun cl _ q C H' e s => q C H' e (s3.trans s)) fun r4 v4 H4 s4 rv4 S4 w4 => ?_
    obtain ⟨f4, q4⟩ := rv4.look
    obtain ⟨f2', q2'⟩ := ((rv2.grow s3).grow s4).look
    exact hf' H4 r2.d r4.d v2 v4 f2' f4 Q _ q2' q4 w4
theorem de_chain {op op' : CmpOp} {c : Expr} {r r' : R2} {f f' : D → D → Rn Unit Bool} (ho : OpR X (compareOp op) r) (hf : OpG X.K r (fB f)) (ho' : OpR X (compareOp op') r') (hf' : OpG X.K r' (fB f')) (ha : DE W X a ga) (hb : DE W X b gb) (hc : DE W X c gc)
    (hm : lastMarks [op, op'] [b, c] = false := by with_unfolding_all rfl) : DE W X (.Compare a [op, op'] [b, c] pos) (gChain f f' ga gb gc) := PE.imp (pe_chain ho ho' ha hb hc hm) (chain_of hf hf')
theorem dt_chain {op op' : CmpOp} {c : Expr} {r r' : R2} {f f' : D → D → Rn Unit Bool} (ho : OpR X (compareOp op) r) (hf : OpG X.K r (fB f)) (ho' : OpR X (compareOp op') r') (hf' : OpG X.K r' (fB f')) (ha : DE W X a ga) (hb : DE W X b gb) (hc : DE W X c gc)
    (hm : lastMarks [op, op'] [b, c] = false := by with_unfolding_all rfl) : DT W X (.Compare a [op, op'] [b, c] pos) (gTB (gChain f f' ga gb gc)) := PT.imp (pt_chain ho ho' ha hb hc hm) fun σ H Q h => chain_of hf hf' σ H _ (tDT_of h)
/-- truth of a value -/
def fTru : D → Rn Unit Bool
  | .p .non => .ok false
  | .p (.bl b) => .ok b
  | .p (.int i) => .ok (i != 0)
  | .p (.str x) => if x.length ≤ sizeLine then .ok ((x.length : Int) != 0) else .bad
  | .p (.tup xs) => .ok (!xs.isEmpty)
  | .lst xs => .ok (!xs.isEmpty)
  | .dic xs => .ok (!xs.isEmpty)
  | _ => .bad
def gTru (g : GE) : GT := fun δ => (g δ).bind fun r => fTru r.d
theorem RepPs.isEmpty {K : PySem.W.Frag} {H : Hp} {xs : List P} {vs : List V} (h : RepPs K H xs vs) : xs.isEmpty = vs.isEmpty := by
  have := h.len
  cases xs <;> cases vs <;> simp_all
theorem RepKs.isEmpty {K : PySem.W.Frag} {H : Hp} {κ : Type} {xs : List (κ × P)} {vs : List (κ × V)} (h : RepKs K H xs vs) : xs.isEmpty = vs.isEmpty := by
  cases xs with
  | nil => obtain rfl : vs = [] := h; rfl
  | cons x xs => obtain ⟨k, x⟩ := x; obtain ⟨_, _, rfl, _⟩ := h; rfl
theorem dt_tru (ha : DE W X a ga) (he : ∀ whole, isTrue a X.env whole = (do let v ← whole; standAt a.pos; holding [v] (truthy v)) := by intro _; rfl) : DT W X a (gTru ga) := by
  refine PT.imp (pt_truth ha he) fun σ H Q ⟨B, Rg, δ, S0, w⟩ => ?_
  refine tD_bool S0 w fun r1 v1 H1 s1 rv1 S1 w1 => ?_
  obtain ⟨f1, q1⟩ := rv1.look
  generalize r1.d = d at q1 w1
  unfold fTru at w1
  split at w1
  · obtain rfl : v1 = .non := q1.1
    exact ⟨_, rfl, w1 H1 (Same.refl _)⟩
  · rename_i b
    obtain rfl : v1 = .bl b := q1.1
    exact ⟨_, rfl, w1 H1 (Same.refl _)⟩
  · rename_i b
    obtain rfl : v1 = .int b := q1.1
    exact ⟨_, rfl, w1 H1 (Same.refl _)⟩
  · rename_i b
    obtain rfl : v1 = .str b := q1.1
    split at w1
    · rename_i hz
      exact ⟨_, ⟨hz, rfl⟩, w1 H1 (Same.refl _)⟩
    · exact w1.elim
  · rename_i xs
    obtain ⟨⟨p, vs, rfl, q, r⟩, _⟩ := q1
    exact ⟨_, .inr (.inl ⟨vs, q, by rw [r.isEmpty]⟩), w1 H1 (Same.refl _)⟩
  · rename_i xs
    obtain ⟨p, vs, rfl, q, _, r⟩ := q1
    exact ⟨_, .inl ⟨vs, SqL.of q, by rw [r.isEmpty]⟩, w1 H1 (Same.refl _)⟩
  · rename_i xs
    obtain ⟨p, vs, rfl, q, _, r⟩ := q1
    exact ⟨_, .inr (.inr ⟨vs, q, by rw [r.isEmpty]⟩), w1 H1 (Same.refl _)⟩
  · exact w1.elim
def gAnd (ta tb : GT) : GT := fun δ => (ta δ).bind fun k => if k = true then tb δ else .ok false
def gOr (ta tb : GT) : GT := fun δ => (ta δ).bind fun k => if k = true then .ok true else tb δ
def gNot (ta : GT) : GT := fun δ => (ta δ).bind fun k => .ok (!k)
theorem and_of {c : DC} (σ : L2.St) (H : Hp) (Q : Bool → Hp → Prop) (h : tDT c (gAnd ta tb) σ H Q) : tAnd (tDT c ta) (tDT c tb) σ H Q := by
  obtain ⟨B, Rg, δ, S0, w⟩ := h
  refine tDT_seq (Qa := fun b _ H' => Q b H') S0 (fun _ _ _ _ q => q) w fun k H1 s1 S1 w1 => ?_
  cases k with
  | true =>
    rw [if_pos rfl] at w1 ⊢
    exact ⟨B, Rg, δ, S1, w1⟩
  | false =>
    rw [if_neg (by decide)] at w1 ⊢
    exact w1 H1 (Same.refl _)
theorem or_of {c : DC} (σ : L2.St) (H : Hp) (Q : Bool → Hp → Prop) (h : tDT c (gOr ta tb) σ H Q) : tOr (tDT c ta) (tDT c tb) σ H Q := by
  obtain ⟨B, Rg, δ, S0, w⟩ := h
  refine tDT_seq (Qa := fun b _ H' => Q b H') S0 (fun _ _ _ _ q => q) w fun k H1 s1 S1 w1 => ?_
  cases k with
  | true =>
    rw [if_pos rfl] at w1 ⊢
    exact w1 H1 (Same.refl _)
  | false =>
    rw [if_neg (by decide)] at w1 ⊢
    exact ⟨B, Rg, δ, S1, w1⟩
theorem dw_and1 (ha : DT W X a ta) : DW W X (.BoolOp .And [a] pos) ta := pw_and1 ha
theorem dw_or1 (ha : DT W X a ta) : DW W X (.BoolOp .Or [a] pos) ta := pw_or1 ha
theorem dw_and {rest : List Expr} (ha : DT W X a ta) (hb : DW W X (.BoolOp .And (b :: rest) pos) tb) : DW W X (.BoolOp .And (a :: b :: rest) pos) (gAnd ta tb) := PW.imp (pw_and ha hb) and_of
theorem dw_or {rest : List Expr} (ha : DT W X a ta) (hb : DW W X (.BoolOp .Or (b :: rest) pos) tb) : DW W X (.BoolOp .Or (a :: b :: rest) pos) (gOr ta tb) := PW.imp (pw_or ha hb) or_of
theorem dt_w (h : DW W X a ta) : DT W X a ta := h.pt
theorem dt_not (ha : DT W X a ta) : DT W X (.UnaryOp .Not a pos) (gNot ta) := by
  refine PT.imp (pt_not ha) fun σ H Q ⟨B, Rg, δ, S0, w⟩ => ?_
  exact tDT_seq (Qa := fun b _ H' => Q b H') S0 (fun _ _ _ _ q => q) w fun k H1 s1 S1 w1 => w1 H1 (Same.refl _)
/-- .. as values -/
def gAndV (ga gb : GE) : GE := fun δ => (ga δ).bind fun r => (D.bool? r).bind fun k => if k = true then gb δ else .ok (.own (.p (.bl false)))
def gOrV (ga gb : GE) : GE := fun δ => (ga δ).bind fun r => (D.bool? r).bind fun k => if k = true then .ok (.own (.p (.bl true))) else gb δ
def gNotV (ga : GE) : GE := fun δ => (ga δ).bind fun r => (D.bool? r).bind fun k => .ok (.own (.p (.bl !k)))
theorem bool_cases {K : PySem.W.Frag} {H H1 : Hp} {r : R} {v : V} {α : Type} {f : Bool → Rn Unit α} {Q : α → Prop} {E : Str → Unit → Prop} (rv : RepR K H H1 r v) (h : ((D.bool? r).bind f).wp Q E) : ∃ k, v = .bl k ∧ (f k).wp Q E := by
  unfold D.bool? at h
  split at h
  · rename_i k e
    exact ⟨k, rv.getP e, h⟩
  · exact h.elim
theorem de_one {op} (ha : DE W X a ga) : DE W X (.BoolOp op [a] pos) ga := pe_one ha
theorem de_and {rest : List Expr} (ha : DE W X a ga) (hb : DE W X (.BoolOp .And (b :: rest) pos) gb) : DE W X (.BoolOp .And (a :: b :: rest) pos) (gAndV ga gb) := by
  refine PE.imp (pe_and ha hb) fun σ H Q ⟨B, Rg, δ, S0, w⟩ => ?_
  refine tD_val S0 w fun r1 v1 H1 s1 rv1 S1 w1 => ?_
  obtain ⟨k, rfl, w1⟩ := bool_cases rv1 w1
  refine ⟨k, rfl, ?_⟩
  cases k with
  | true =>
    rw [if_pos rfl] at w1 ⊢
    exact ⟨B, Rg, δ, S1, w1⟩
  | false =>
    rw [if_neg (by decide)] at w1 ⊢
    exact RepP.up w1 rfl
theorem de_or {rest : List Expr} (ha : DE W X a ga) (hb : DE W X (.BoolOp .Or (b :: rest) pos) gb) : DE W X (.BoolOp .Or (a :: b :: rest) pos) (gOrV ga gb) := by
  refine PE.imp (pe_or ha hb) fun σ H Q ⟨B, Rg, δ, S0, w⟩ => ?_
  refine tD_val S0 w fun r1 v1 H1 s1 rv1 S1 w1 => ?_
  obtain ⟨k, rfl, w1⟩ := bool_cases rv1 w1
  refine ⟨k, rfl, ?_⟩
  cases k with
  | true =>
    rw [if_pos rfl] at w1 ⊢
    exact RepP.up w1 rfl
  | false =>
    rw [if_neg (by decide)] at w1 ⊢
    exact ⟨B, Rg, δ, S1, w1⟩
theorem de_not (ha : DE W X a ga) : DE W X (.UnaryOp .Not a pos) (gNotV ga) := by
  refine PE.imp (pe_not ha) fun σ H Q ⟨B, Rg, δ, S0, w⟩ => ?_
  refine tD_val S0 w fun r1 v1 H1 s1 rv1 S1 w1 => ?_
  obtain ⟨k, rfl, w1⟩ := bool_cases rv1 w1
  exact ⟨k, rfl, RepP.up w1 rfl⟩
def gIf (t : GT) (ga gb : GE) : GE := fun δ => (t δ).bind fun k => if k = true then ga δ else gb δ
theorem de_if {c : Expr} (hc : DT W X c ta) (ha : DE W X a ga) (hb : DE W X b gb) : DE W X (.IfExp c a b pos) (gIf ta ga gb) := by
  refine PE.imp (pe_ifExp hc ha hb) fun σ H Q ⟨B, Rg, δ, S0, w⟩ => ?_
  refine tDT_seq (Qa := fun r H H' => ∀ v, RepR (dc X W).K H H' r v → Q v H') S0 (fun r H1 H2 s q v rv => q v (rv.back s)) (Rn.wp_mono w (fun r q H' s v rv => q v H' s rv) fun _ _ q => q) fun k H1 s1 S1 w1 => ?_
  have w2 := Rn.wp_mono (Q' := fun r => ∀ v H', Same H1 H' → RepR (dc X W).K H1 H' r v → Q v H') w1 (fun r q v H' s rv => q H' s v rv) fun _ _ q => q
  cases k with
  | true =>
    rw [if_pos rfl] at w2 ⊢
    exact ⟨B, Rg, δ, S1, w2⟩
  | false =>
    rw [if_neg (by decide)] at w2 ⊢
    exact ⟨B, Rg, δ, S1, w2⟩
end
end DL
/-! DLd: derivations of arguments, displays, subscripts, slices, built-ins by name. -/
namespace DL
open PySem PySem.Spec PyProof.Rows L2

def LookL (K : PySem.W.Frag) (H : Hp) : List D → List V → Prop
  | [], vs => vs = []
  | d :: ds, vs => ∃ v r, vs = v :: r ∧ (∃ fp, RepD K H d v fp) ∧ LookL K H ds r
section
variable {K : PySem.W.Frag} {H H' : Hp}
theorem RepRs.look : ∀ {rs : List R} {vs : List V} {fp : List Addr}, RepRs K H rs vs fp → LookL K H (rs.map R.d) vs
  | [], _, _, h => h.1
  | .own d :: rs, _, _, h => by
    obtain ⟨v, r, f, g, rfl, rfl, h1, h2⟩ := h
    exact ⟨v, r, rfl, ⟨f, h1⟩, RepRs.look h2⟩
  | .vw d :: rs, _, _, h => by
    obtain ⟨v, r, f, rfl, h1, h2⟩ := h
    exact ⟨v, r, rfl, ⟨f, h1⟩, RepRs.look h2⟩
theorem RepRs.grow (s : Same H H') : ∀ {rs : List R} {vs : List V} {fp : List Addr}, RepRs K H rs vs fp → RepRs K H' rs vs fp
  | [], _, _, h => h
  | .own d :: rs, _, _, h => by
    obtain ⟨v, r, f, g, rfl, rfl, h1, h2⟩ := h
    exact ⟨v, r, f, g, rfl, rfl, RepD.kt (Same.kt s) d v f (fun a _ o e => s a o e) h1, RepRs.grow s h2⟩
  | .vw d :: rs, _, _, h => by
    obtain ⟨v, r, f, rfl, h1, h2⟩ := h
    exact ⟨v, r, f, rfl, RepD.kt (Same.kt s) d v f (fun a _ o e => s a o e) h1, RepRs.grow s h2⟩
theorem RepA.grow {H0 : Hp} {rs : List R} {vs : List V} (h : RepA K H0 H rs vs) (s : Same H H') : RepA K H0 H' rs vs := by
  obtain ⟨fp, q, n, f⟩ := h
  exact ⟨fp, q.grow s, n, f⟩
theorem RepA.back {H0 H1 : Hp} {rs : List R} {vs : List V} (h : RepA K H1 H rs vs) (s : Same H0 H1) : RepA K H0 H rs vs := by
  obtain ⟨fp, q, n, f⟩ := h
  exact ⟨fp, q, n, fun a ha => s.free (f a ha)⟩
end
section
variable {K : PySem.W.Frag} {H : Hp}
mutual
theorem RepD.mem : ∀ {x : D} {v : V} {fp : List Addr}, RepD K H x v fp → ∀ a ∈ fp, H a ≠ none
  | .p x, v, fp, h => fun a ha => by rw [h.2] at ha; cases ha
  | .lst xs, v, fp, h => fun b hb => by
    obtain ⟨a, vs, e, q, rfl, r⟩ := h
    obtain rfl : b = a := by simpa using hb
    rw [q]; exact fun z => nomatch z
  | .ls xs, v, fp, h => fun b hb => by
    obtain ⟨a, vs, f, e, q, rfl, r⟩ := h
    rcases List.mem_cons.mp hb with rfl | hb
    · rw [q]; exact fun z => nomatch z
    · exact RepDs.mem r b hb
  | .tp xs, v, fp, h => by
    obtain ⟨a, vs, e, q, r⟩ := h
    exact RepDs.mem r
  | .dic kvs, v, fp, h => fun b hb => by
    obtain ⟨a, vs, e, q, rfl, r⟩ := h
    obtain rfl : b = a := by simpa using hb
    rw [q]; exact fun z => nomatch z
  | .dit kvs, v, fp, h => fun b hb => by
    obtain ⟨a, vs, e, q, rfl, r⟩ := h
    obtain rfl : b = a := by simpa using hb
    rw [q]; exact fun z => nomatch z
  | .scr ns, v, fp, h => fun a ha => by rw [h.1] at ha; cases ha
  | .orc, v, fp, h => fun b hb => by
    obtain ⟨a, z, ns, e, rfl, q1, q2⟩ := h
    rcases List.mem_cons.mp hb with rfl | hb
    · rw [q1]; exact fun z => nomatch z
    · obtain rfl : b = z := by simpa using hb
      rw [q2]; exact fun z => nomatch z
theorem RepDs.mem : ∀ {xs : List D} {vs : List V} {fp : List Addr}, RepDs K H xs vs fp → ∀ a ∈ fp, H a ≠ none
  | [], vs, fp, h => fun a ha => by rw [h.2] at ha; cases ha
  | x :: xs, vs, fp, h => fun b hb => by
    obtain ⟨v, r, f, g, e, rfl, h1, h2⟩ := h
    rcases List.mem_append.mp hb with z | z
    · exact RepD.mem h1 b z
    · exact RepDs.mem h2 b z
end
end
section
variable {K : PySem.W.Frag} {H : Hp}
/-- what stands for ever -/
def Fast (H : Hp) (a : Addr) : Prop := (∃ xs, H a = some (.tup xs)) ∨ ∃ o u, H a = some (.frz o u)
theorem not_fast {a : Addr} {o : HO} (h : H a = some o) (hm : Mut (some o)) : ¬ Fast H a := fun q => by
  rcases q with ⟨_, q⟩ | ⟨_, _, q⟩ <;> (rw [h] at q; cases q; exact hm)
mutual
theorem RepD.ntup : ∀ {x : D} {v : V} {fp : List Addr}, RepD K H x v fp → ∀ a ∈ fp, ¬ Fast H a
  | .p x, v, fp, h => fun a ha => by rw [h.2] at ha; cases ha
  | .lst xs, v, fp, h => fun b hb => by
    obtain ⟨a, vs, e, q, rfl, r⟩ := h
    obtain rfl : b = a := by simpa using hb
    exact not_fast q trivial
  | .ls xs, v, fp, h => fun b hb => by
    obtain ⟨a, vs, f, e, q, rfl, r⟩ := h
    rcases List.mem_cons.mp hb with rfl | hb
    · exact not_fast q trivial
    · exact RepDs.ntup r b hb
  | .tp xs, v, fp, h => by
    obtain ⟨a, vs, e, q, r⟩ := h
    exact RepDs.ntup r
  | .dic kvs, v, fp, h => fun b hb => by
    obtain ⟨a, vs, e, q, rfl, r⟩ := h
    obtain rfl : b = a := by simpa using hb
    exact not_fast q trivial
  | .dit kvs, v, fp, h => fun b hb => by
    obtain ⟨a, vs, e, q, rfl, r⟩ := h
    obtain rfl : b = a := by simpa using hb
    exact not_fast q trivial
  | .scr ns, v, fp, h => fun a ha => by rw [h.1] at ha; cases ha
  | .orc, v, fp, h => fun b hb => by
    obtain ⟨a, z, ns, e, rfl, q1, q2⟩ := h
    rcases List.mem_cons.mp hb with rfl | hb
    · exact not_fast q1 trivial
    · obtain rfl : b = z := by simpa using hb
      exact not_fast q2 trivial
theorem RepDs.ntup : ∀ {xs : List D} {vs : List V} {fp : List Addr}, RepDs K H xs vs fp → ∀ a ∈ fp, ¬ Fast H a
  | [], vs, fp, h => fun a ha => by rw [h.2] at ha; cases ha
  | x :: xs, vs, fp, h => fun b hb => by
    obtain ⟨v, r, f, g, e, rfl, h1, h2⟩ := h
    rcases List.mem_append.mp hb with z | z
    · exact RepD.ntup h1 b z
    · exact RepDs.ntup h2 b z
end
end
section
variable {W : WX} {X : Cx} {a b e : Expr} {es : List Expr} {ga gb gc : GE} {gs : GA} {pos : Pos}
def gNil : GA := fun _ => .ok []
def gCons (ga : GE) (gs : GA) : GA := fun δ => (ga δ).bind fun r => (gs δ).bind fun rs => .ok (r :: rs)
theorem da_nil : DA W X [] gNil := PA.imp pa_nil fun σ H Q ⟨B, Rg, δ, S0, w⟩ => w [] H (Same.refl H) ⟨[], ⟨rfl, rfl⟩, List.nodup_nil, fun _ z => nomatch z⟩
theorem da_cons (ha : DE W X a ga) (hs : DA W X es gs) (he : starEach (a :: es) X.env = (false, eval a X.env) :: starEach es X.env := by rfl) : DA W X (a :: es) (gCons ga gs) := by
  refine PA.imp (pa_cons ha hs he) fun σ H Q ⟨B, Rg, δ, S0, w⟩ => ?_
  refine ⟨B, Rg, δ, S0, Rn.wp_mono (Rn.wp_bind.mp w) (fun r q v H1 s1 rv => ?_) fun _ _ q => q⟩
  refine ⟨B, Rg, δ, S0.grow s1, Rn.wp_mono (Rn.wp_bind.mp q) (fun rs q vs H2 s2 ra => q (v :: vs) H2 (s1.trans s2) ?_) fun cl _ q C H' e s => q C H' e (s1.trans s)⟩
  obtain ⟨fp, q1, n1, f1⟩ := ra
  cases r with
  | vw d =>
    obtain ⟨g, q2⟩ := rv.grow s2
    exact ⟨fp, ⟨v, vs, g, rfl, q2, q1⟩, n1, fun a ha => s1.free (f1 a ha)⟩
  | own d =>
    obtain ⟨g, q2, n2, f2⟩ := rv
    refine ⟨g ++ fp, ⟨v, vs, g, fp, rfl, rfl, RepD.kt (Same.kt s2) d v g (fun a _ o e => s2 a o e) q2, q1⟩, ?_, fun a ha => ?_⟩
    · rw [List.nodup_append]
      refine ⟨n2, n1, fun a ha b hb e => ?_⟩
      subst e
      exact q2.mem a ha (f1 a hb)
    · rcases List.mem_append.mp ha with z | z
      · exact f2 a z
      · exact s1.free (f1 a z)
/-! ### displays -/
def plains : List R → Option (List P)
  | [] => some []
  | r :: rs => match r.d, plains rs with
    | .p x, some xs => some (x :: xs)
    | _, _ => none
def owns : List R → Option (List D)
  | [] => some []
  | .own d :: rs => (owns rs).map (d :: ·)
  | .vw (.p x) :: rs => (owns rs).map (.p x :: ·)
  | .vw _ :: _ => none
theorem plains_ok {K : PySem.W.Frag} {H : Hp} : ∀ {rs : List R} {vs : List V} {fp : List Addr} {xs : List P}, RepRs K H rs vs fp → plains rs = some xs → RepPs K H xs vs
  | [], _, _, _, h, e => by
    obtain rfl : ([] : List P) = _ := by simpa [plains] using e
    exact h.1
  | r :: rs, vs, fp, xs, h, e => by
    unfold plains at e
    split at e
    · rename_i x ys e1 e2
      obtain rfl := Option.some.inj e
      cases r with
      | own d =>
        obtain rfl : d = .p x := e1
        obtain ⟨v, r, f, g, rfl, rfl, h1, h2⟩ := h
        exact ⟨v, r, rfl, h1.1, plains_ok h2 e2⟩
      | vw d =>
        obtain rfl : d = .p x := e1
        obtain ⟨v, r, f, rfl, h1, h2⟩ := h
        exact ⟨v, r, rfl, h1.1, plains_ok h2 e2⟩
    · cases e
theorem owns_ok {K : PySem.W.Frag} {H : Hp} : ∀ {rs : List R} {vs : List V} {fp : List Addr} {xs : List D}, RepRs K H rs vs fp → owns rs = some xs → RepDs K H xs vs fp
  | [], _, _, _, h, e => by
    obtain rfl : ([] : List D) = _ := by simpa [owns] using e
    exact h
  | .own d :: rs, vs, fp, xs, h, e => by
    unfold owns at e
    cases e2 : owns rs with
    | none => rw [e2] at e; cases e
    | some ys =>
      rw [e2] at e
      obtain rfl := Option.some.inj e
      obtain ⟨v, r, f, g, rfl, rfl, h1, h2⟩ := h
      exact ⟨v, r, f, g, rfl, rfl, h1, owns_ok h2 e2⟩
  | .vw d :: rs, vs, fp, xs, h, e => by
    cases d with
    | p x =>
      simp only [owns] at e
      cases e2 : owns rs with
      | none => rw [e2] at e; cases e
      | some ys =>
        rw [e2] at e
        obtain rfl := Option.some.inj e
        obtain ⟨v, r, f, rfl, h1, h2⟩ := h
        exact ⟨v, r, [], fp, rfl, rfl, ⟨h1.1, rfl⟩, owns_ok h2 e2⟩
    | _ => simp [owns] at e
theorem RepRs.len {K : PySem.W.Frag} {H : Hp} : ∀ {rs : List R} {vs : List V} {fp : List Addr}, RepRs K H rs vs fp → vs.length = rs.length
  | [], _, _, h => by
    obtain ⟨rfl, _⟩ := h
    rfl
  | .own d :: rs, _, _, h => by
    obtain ⟨v, r, f, g, rfl, rfl, h1, h2⟩ := h
    simp [RepRs.len h2]
  | .vw d :: rs, _, _, h => by
    obtain ⟨v, r, f, rfl, h1, h2⟩ := h
    simp [RepRs.len h2]
def gTup (gs : GA) : GE := fun δ => (gs δ).bind fun rs => if rs.length ≤ 1000 then match plains rs with
  | some xs => .ok (.own (.p (.tup xs)))
  | none => match owns rs with
    | some ds => .ok (.own (.tp ds))
    | none => .bad else .bad
def gLst (gs : GA) : GE := fun δ => (gs δ).bind fun rs => if rs.length ≤ 1000 then match plains rs with
  | some xs => .ok (.own (.lst xs))
  | none => match owns rs with
    | some ds => .ok (.own (.ls ds))
    | none => .bad else .bad
theorem de_tup {k : Nat} (hs : DA W X es gs) : DE W X (.Tuple es k pos) (gTup gs) := by
  refine PE.imp (pe_tup hs) fun σ H Q ⟨B, Rg, δ, S0, w⟩ => ?_
  refine ⟨B, Rg, δ, S0, Rn.wp_mono (Rn.wp_bind.mp w) (fun rs q vs H1 s1 ra => ?_) fun _ _ q => q⟩
  obtain ⟨fp, q1, n1, f1⟩ := ra
  split at q
  · rename_i hz
    refine ⟨by rw [q1.len, sizeLine_eq]; omega, fun p hp => ?_⟩
    split at q
    · rename_i xs e
      exact q _ _ (s1.trans (Same.new hp)) (RepR.plain ⟨p, vs, rfl, .inl (.inl upd_same), RepPs.kt (Same.kt (Same.new hp)) _ _ (plains_ok q1 e)⟩)
    · split at q
      · rename_i ds e
        refine q _ _ (s1.trans (Same.new hp)) ⟨fp, ⟨p, vs, rfl, .inl (.inl upd_same), RepDs.kt (Same.kt (Same.new hp)) _ _ _ (fun a _ o e => Same.new hp a o e) (owns_ok q1 e)⟩, n1, f1⟩
      · exact q.elim
  · exact q.elim
theorem de_lst (hs : DA W X es gs) : DE W X (.List es pos) (gLst gs) := by
  refine PE.imp (pe_lst hs) fun σ H Q ⟨B, Rg, δ, S0, w⟩ => ?_
  refine ⟨B, Rg, δ, S0, Rn.wp_mono (Rn.wp_bind.mp w) (fun rs q vs H1 s1 ra => ?_) fun _ _ q => q⟩
  obtain ⟨fp, q1, n1, f1⟩ := ra
  split at q
  · rename_i hz
    refine ⟨by rw [q1.len, sizeLine_eq]; omega, fun p hp => ?_⟩
    split at q
    · rename_i xs e
      exact q _ _ (s1.trans (Same.new hp)) ⟨[p], ⟨p, vs, rfl, upd_same, rfl, RepPs.kt (Same.kt (Same.new hp)) _ _ (plains_ok q1 e)⟩, by simp, fun b hb => by
        obtain rfl : b = p := by simpa using hb
        exact s1.free hp⟩
    · split at q
      · rename_i ds e
        have r2 := owns_ok q1 e
        refine q _ _ (s1.trans (Same.new hp)) ⟨p :: fp, ⟨p, vs, fp, rfl, upd_same, rfl, RepDs.kt (Same.kt (Same.new hp)) _ _ _ (fun a _ o e => Same.new hp a o e) r2⟩, ?_, fun b hb => ?_⟩
        · rw [List.nodup_cons]
          exact ⟨fun z => RepDs.mem r2 p z hp, n1⟩
        · rcases List.mem_cons.mp hb with rfl | hb
          · exact s1.free hp
          · exact f1 b hb
      · exact q.elim
  · exact q.elim
end
end DL
/-! DLe: subscripts, slices, built-ins by name. -/
namespace DL
open PySem PySem.Spec PyProof.Rows L2

section
variable {K : PySem.W.Frag} {H : Hp}
/-! ### subscripts -/
def keyP : P → Option Key
  | .int i => some (.inl i)
  | .str x => some (.inr x)
  | _ => none
def valP {κ : Type} [DecidableEq κ] (kvs : List (κ × P)) (k : κ) : Option P := (kvs.find? fun kv => decide (kv.1 = k)).map (·.2)
theorem keyP_kV {x : P} {v : V} {k : Key} (r : RepP K H x v) (e : keyP x = some k) : v = kV k := by
  cases x with
  | int i =>
    obtain rfl := Option.some.inj e
    exact r
  | str i =>
    obtain rfl := Option.some.inj e
    exact r
  | _ => cases e
theorem RepKs.get {κ : Type} [DecidableEq κ] {k : κ} : ∀ {kvs : List (κ × P)} {ws : List (κ × V)}, RepKs K H kvs ws → match valP kvs k with
    | some x => ∃ v, valV ws k = some v ∧ RepP K H x v
    | none => valV ws k = none
  | [], ws, h => by
    obtain rfl : ws = [] := h
    rfl
  | (c, x) :: kvs, ws, h => by
    obtain ⟨v, r, rfl, h1, h2⟩ := h
    by_cases e : c = k
    · have e1 : valP ((c, x) :: kvs) k = some x := by simp [valP, List.find?_cons, e]
      rw [e1]
      exact ⟨v, valV_pos e, h1⟩
    · have e1 : valP ((c, x) :: kvs) k = valP kvs k := by simp [valP, List.find?_cons, e]
      rw [e1, valV_neg (p := (c, v)) e]
      exact RepKs.get h2
def fIx : D → D → Rn Unit R
  | .p (.tup xs), .p (.int i) => match atI xs i with
    | some x => .ok (.own (.p x))
    | none => .bad
  | .p (.str z), .p (.int i) => if z.length ≤ sizeLine then match atI z.cps.toList i with
    | some c => .ok (.own (.p (.str ⟨#[c]⟩)))
    | none => .bad else .bad
  | .lst xs, .p (.int i) => match atI xs i with
    | some x => .ok (.own (.p x))
    | none => .bad
  | .ls xs, .p (.int i) => match atI xs i with
    | some x => .ok (.vw x)
    | none => .bad
  | .tp xs, .p (.int i) => match atI xs i with
    | some x => .ok (.vw x)
    | none => .bad
  | .dic kvs, .p x => match keyP x with
    | some k => match valP kvs k with
      | some y => .ok (.own (.p y))
      | none => .bad
    | none => .bad
  | _, _ => .bad
theorem RepPs.at {xs : List P} {vs : List V} {i : Int} {x : P} (h : RepPs K H xs vs) (e : atI xs i = some x) : ∃ v, atI vs i = some v ∧ RepP K H x v := by
  unfold atI at e ⊢
  rw [h.len]
  cases z : ixN xs.length i with
  | none => rw [z] at e; cases e
  | some j =>
    rw [z] at e
    exact RepPs.get h e
theorem RepDs.len : ∀ {xs : List D} {vs : List V} {fp : List Addr}, RepDs K H xs vs fp → vs.length = xs.length
  | [], _, _, h => by
    obtain ⟨rfl, _⟩ := h
    rfl
  | x :: xs, _, _, h => by
    obtain ⟨v, r, f, g, rfl, rfl, h1, h2⟩ := h
    simp [RepDs.len h2]
theorem RepDs.get : ∀ {xs : List D} {vs : List V} {fp : List Addr} {i : Nat} {x : D}, RepDs K H xs vs fp → xs[i]? = some x → ∃ v f, vs[i]? = some v ∧ RepD K H x v f
  | [], _, _, i, _, _, e => by simp at e
  | x :: xs, _, _, 0, y, h, e => by
    obtain ⟨v, r, f, g, rfl, rfl, h1, h2⟩ := h
    obtain rfl : x = y := by simpa using e
    exact ⟨v, f, rfl, h1⟩
  | x :: xs, _, _, i + 1, y, h, e => by
    obtain ⟨v, r, f, g, rfl, rfl, h1, h2⟩ := h
    obtain ⟨u, f', q1, q2⟩ := RepDs.get (i := i) h2 (by simpa using e)
    exact ⟨u, f', by simpa using q1, q2⟩
theorem RepDs.at {xs : List D} {vs : List V} {fp : List Addr} {i : Int} {x : D} (h : RepDs K H xs vs fp) (e : atI xs i = some x) : ∃ v f, atI vs i = some v ∧ RepD K H x v f := by
  unfold atI at e ⊢
  rw [h.len]
  cases z : ixN xs.length i with
  | none => rw [z] at e; cases e
  | some j =>
    rw [z] at e
    exact RepDs.get h e
end
def rIxA (K : PySem.W.Frag) : R2 := fun x y H Q => rIx K x y H Q ∨ ∃ a v, x = .ref a ∧ DGet H a y (some v) ∧ Q v H
theorem ix_dict {X : Cx} (hu : X.A.units + 1 < cLine) : IxR X (fun x y H Q => ∃ a v, x = .ref a ∧ DGet H a y (some v) ∧ Q v H) := by
  intro value slice pins s σ H x y v u Q I rx ry h hs
  obtain ⟨a, w, rfl, g, q⟩ := h
  obtain rfl : v = Value.ref a := rx
  exact tail_any (dict_typeIs I g) PySem.F.slot_dict_getitem.lookup (d_getItem hu I g ry fun w' s3 I3 rw' => ⟨w, H, I3, rw', q⟩) hs
theorem og_ix {K : PySem.W.Frag} : OpG K (rIxA K) fIx := by
  intro H x y v u fx fy Q E rx ry h
  unfold fIx at h
  split at h
  · rename_i xs i
    obtain ⟨⟨a, vs, rfl, q, r⟩, _⟩ := rx
    obtain rfl : u = .int i := ry.1
    split at h
    · rename_i x e
      obtain ⟨w, e1, r1⟩ := r.at e
      exact .inl (.inr (.inl ⟨a, vs, i, w, rfl, rfl, q, e1, RepP.up h r1⟩))
    · exact h.elim
  · rename_i z i
    obtain rfl : v = .str z := rx.1
    obtain rfl : u = .int i := ry.1
    split at h
    · rename_i hz
      split at h
      · rename_i c e
        exact .inl (.inr (.inr ⟨z, i, c, rfl, rfl, hz, e, RepP.up h rfl⟩))
      · exact h.elim
    · exact h.elim
  · rename_i xs i
    obtain ⟨a, vs, rfl, q, _, r⟩ := rx
    obtain rfl : u = .int i := ry.1
    split at h
    · rename_i x e
      obtain ⟨w, e1, r1⟩ := r.at e
      exact .inl (.inl ⟨a, vs, i, w, rfl, rfl, SqL.of q, e1, RepP.up h r1⟩)
    · exact h.elim
  · rename_i xs i
    obtain ⟨a, vs, f, rfl, q, _, r⟩ := rx
    obtain rfl : u = .int i := ry.1
    split at h
    · rename_i x e
      obtain ⟨w, f', e1, r1⟩ := r.at e
      exact .inl (.inl ⟨a, vs, i, w, rfl, rfl, SqL.of q, e1, h w H (Same.refl H) ⟨f', r1⟩⟩)
    · exact h.elim
  · rename_i xs i
    obtain ⟨a, vs, rfl, q, r⟩ := rx
    obtain rfl : u = .int i := ry.1
    split at h
    · rename_i x e
      obtain ⟨w, f', e1, r1⟩ := r.at e
      exact .inl (.inr (.inl ⟨a, vs, i, w, rfl, rfl, q, e1, h w H (Same.refl H) ⟨f', r1⟩⟩))
    · exact h.elim
  · rename_i kvs x
    obtain ⟨a, ws, rfl, q, _, r⟩ := rx
    split at h
    · rename_i k ek
      obtain rfl : u = kV k := keyP_kV ry.1 ek
      split at h
      · rename_i y ey
        have g := RepKs.get (k := k) r
        rw [ey] at g
        obtain ⟨w, e1, r1⟩ := g
        exact .inr ⟨a, w, rfl, by rw [← e1]; exact DGet.k q, RepP.up h r1⟩
      · exact h.elim
    · exact h.elim
  · exact h.elim
section
variable {W : WX} {X : Cx} {a b e : Expr} {es : List Expr} {ga gb gc : GE} {gs : GA} {pos : Pos}
theorem de_ix (hu : X.A.units + 1 < cLine) (ha : DE W X a ga) (hb : DE W X b gb) (hs : PlainIx b := by exact fun _ _ => rfl) : DE W X (.Subscript a b pos) (gOp2 fIx ga gb) :=
  PE.imp (pe_ix (ix_seq.or (ix_dict hu)) ha hb hs) (op2_of og_ix)

/-! ### slices -/
abbrev GO := Sl → Rn Unit (Option Int)
def gNoPart : GO := fun _ => .ok none
def gPart (g : GE) : GO := fun δ => (g δ).bind fun r => match r.d with
  | .p (.int i) => .ok (some i)
  | _ => .bad
def tDO (c : DC) (g : GO) : TO := fun σ H Q => ∃ (B : Hp) (Rg : Rgs c.ex) (δ : Sl), SRel c.K B Rg σ H δ ∧ (g δ).wp (fun o => ∀ H', Same H H' → Q o H') fun cl _ => ∀ C H', c.mg cl = some (.ref C) → Same H H' → c.W (.ref C) none σ H'
def DO (W : WX) (X : Cx) (o : Option Expr) (g : GO) : Prop := PO X o (tDO (dc X W) g)
theorem PO.imp {X : Cx} {o : Option Expr} {t t' : TO} (h : PO X o t) (m : ∀ σ H Q, t' σ H Q → t σ H Q) : PO X o t' := ⟨fun pins s σ H Q I q => h.run pins s σ H Q I (m σ H Q q)⟩
theorem do_none : DO W X none gNoPart := PO.imp po_none fun σ H Q ⟨B, Rg, δ, S0, w⟩ => w H (Same.refl H)
theorem do_some (h : DE W X e ga) : DO W X (some e) (gPart ga) := by
  refine PO.imp (po_some h) fun σ H Q ⟨B, Rg, δ, S0, w⟩ => ?_
  refine ⟨B, Rg, δ, S0, Rn.wp_mono (Rn.wp_bind.mp w) (fun r q v H1 s1 rv => ?_) fun _ _ q => q⟩
  split at q
  · rename_i i e
    obtain rfl : v = .int i := rv.getP e
    exact ⟨i, rfl, q H1 s1⟩
  · exact q.elim
def cutP {α : Type} (xs : List α) (lo hi : Option Int) : List α := (xs.drop (HT.sIx xs.length 0 lo)).take (HT.sIx xs.length xs.length hi - HT.sIx xs.length 0 lo)
def fSl : D → Option Int → Option Int → Rn Unit R
  | .p (.tup xs), lo, hi => .ok (.own (.p (.tup (cutP xs lo hi))))
  | .p (.str z), lo, hi => if z.length ≤ sizeLine then .ok (.own (.p (.str (cutS z lo hi)))) else .bad
  | .lst xs, lo, hi => .ok (.own (.lst (cutP xs lo hi)))
  | _, _, _ => .bad
def gSl (ga : GE) (gl gh : GO) : GE := fun δ => (ga δ).bind fun r => (gl δ).bind fun lo => (gh δ).bind fun hi => fSl r.d lo hi
theorem RepPs.cut {K : PySem.W.Frag} {H : Hp} {xs : List P} {vs : List V} (h : RepPs K H xs vs) (lo hi : Option Int) : RepPs K H (cutP xs lo hi) (cutV vs lo hi) := by
  unfold cutP cutV
  rw [h.len]
  exact (h.drop _).take _
theorem cut_whole {α : Type} (xs : List α) {lo hi : Option Int} (h : HT.sIx xs.length 0 lo = 0 ∧ HT.sIx xs.length xs.length hi = xs.length) : cutP xs lo hi = xs := by
  unfold cutP
  rw [h.1, h.2, Nat.sub_zero, List.drop_zero, List.take_length]
theorem de_slice {lo hi : Option Expr} {gl gh : GO} {p2 : Pos} (ha : DE W X e ga) (hl : DO W X lo gl) (hh : DO W X hi gh) : DE W X (.Subscript e (.Slice lo hi none p2) pos) (gSl ga gl gh) := by
  refine PE.imp (pe_slice (sl_list.or (sl_tupA.or sl_str)) ha hl hh) fun σ H Q ⟨B, Rg, δ, S0, w⟩ => ?_
  refine ⟨B, Rg, δ, S0, Rn.wp_mono (Rn.wp_bind.mp w) (fun r q v H1 s1 rv => ?_) fun _ _ q => q⟩
  refine ⟨B, Rg, δ, S0.grow s1, Rn.wp_mono (Rn.wp_bind.mp q) (fun lo q H2 s2 => ?_) fun cl _ q C H' e s => q C H' e (s1.trans s)⟩
  refine ⟨B, Rg, δ, (S0.grow s1).grow s2, Rn.wp_mono (Rn.wp_bind.mp q) (fun hi q H3 s3 => ?_) fun cl _ q C H' e s => q C H' e (s1.trans (s2.trans s))⟩
  have s13 := s1.trans (s2.trans s3)
  obtain ⟨fp, q1⟩ := ((rv.grow s2).grow s3).look
  generalize r.d = d at q1 q
  unfold fSl at q
  split at q
  · rename_i lo hi xs
    obtain ⟨⟨p, vs, rfl, q2, r2⟩, _⟩ := q1
    refine .inr (.inl ⟨p, vs, rfl, q2, fun z => ?_, fun _ p' hp => ?_⟩)
    · rw [r2.len] at z
      rw [cut_whole xs z] at q
      exact q _ H3 s13 (RepR.plain ⟨p, vs, rfl, q2, r2⟩)
    · exact q _ _ (s13.trans (Same.new hp)) (RepR.plain ⟨p', _, rfl, .inl (.inl upd_same), RepPs.kt (Same.kt (Same.new hp)) _ _ (r2.cut _ _)⟩)
  · rename_i lo hi z
    obtain rfl : v = .str z := q1.1
    split at q
    · rename_i hz
      exact .inr (.inr ⟨z, rfl, hz, q _ H3 s13 (RepR.plain rfl)⟩)
    · exact q.elim
  · rename_i lo hi xs
    obtain ⟨p, vs, rfl, q2, _, r2⟩ := q1
    refine .inl ⟨p, vs, rfl, SqL.of q2, fun p' hp => ?_⟩
    exact q _ _ (s13.trans (Same.new hp)) ⟨[p'], ⟨p', _, rfl, upd_same, rfl, RepPs.kt (Same.kt (Same.new hp)) _ _ (r2.cut _ _)⟩, by simp, fun b hb => by
      obtain rfl : b = p' := by simpa using hb
      exact s13.free hp⟩
  · exact q.elim

/-! ### built-ins by name -/
def CallG (K : PySem.W.Frag) (r : List V → Hp → VK → Prop) (f : List D → Rn Unit R) : Prop := ∀ (H : Hp) (ds : List D) (vs : List V) (Q : VK) (E : Str → Unit → Prop), LookL K H ds vs →
  (f ds).wp (fun r => ∀ v H', Same H H' → RepR K H H' r v → Q v H') E → r vs H Q
def gCall (f : List D → Rn Unit R) (gs : GA) : GE := fun δ => (gs δ).bind fun rs => f (rs.map R.d)
theorem call_of {r : List V → Hp → VK → Prop} {f : List D → Rn Unit R} (hf : CallG X.K r f) (σ : L2.St) (H : Hp) (Q : VK) (h : tD (dc X W) (gCall f gs) σ H Q) : tCB r (tDA (dc X W) gs) σ H Q := by
  obtain ⟨B, Rg, δ, S0, w⟩ := h
  refine ⟨B, Rg, δ, S0, Rn.wp_mono (Rn.wp_bind.mp w) (fun rs q vs H1 s1 ra => ?_) fun _ _ q => q⟩
  obtain ⟨fp, q1, _⟩ := ra
  exact hf H1 _ vs Q (fun cl _ => ∀ C H', (dc X W).mg cl = some (.ref C) → Same H H' → (dc X W).W (.ref C) none σ H') q1.look (Rn.wp_mono q (fun r q v H' s rv => q v H' (s1.trans s) (rv.back s1)) fun _ _ q => q)
theorem de_callB {id : String} {x : Str} {p : Pos} {r : List V → Hp → VK → Prop} {f : List D → Rn Unit R} (hc : CallR X (.builtin id) r) (hf : CallG X.K r f) (hm : X.mg x = none) (hv : bootBuiltins x = some (.builtin id)) (ha : DA W X (e :: es) gs)
    (hg : Gl X x := by rfl) (hn : x ≠ "__name__" := by decide) (hdb : (x == ("__debug__" : Str)) = false := by decide) (he : starEach (e :: es) X.env = (false, eval e X.env) :: starEach es X.env := by rfl) (hpl : (backTo pos (starEach es X.env)).any (·.1) = false := by rfl) :
    DE W X (.Call (.Name x p) (e :: es) [] pos) (gCall f gs) := PE.imp (pe_callB hc hg hm hv ha hn hdb he hpl) (call_of hf)
theorem de_callTy {T : String} {x : Str} {p : Pos} {r : List V → Hp → VK → Prop} {f : List D → Rn Unit R} (hc : CallR X (.type T) r) (hf : CallG X.K r f) (hm : X.mg x = none) (hv : bootBuiltins x = some (.type T)) (ha : DA W X (e :: es) gs)
    (hg : Gl X x := by rfl) (hn : x ≠ "__name__" := by decide) (hdb : (x == ("__debug__" : Str)) = false := by decide) (he : starEach (e :: es) X.env = (false, eval e X.env) :: starEach es X.env := by rfl) (hpl : (backTo pos (starEach es X.env)).any (·.1) = false := by rfl) :
    DE W X (.Call (.Name x p) (e :: es) [] pos) (gCall f gs) := PE.imp (pe_callTy hc hg hm hv ha hn hdb he hpl) (call_of hf)
end
section
variable {K : PySem.W.Frag} {H : Hp}
theorem LookL.one {d : D} {vs : List V} (h : LookL K H [d] vs) : ∃ v fp, vs = [v] ∧ RepD K H d v fp := by
  obtain ⟨v, r, rfl, ⟨fp, q⟩, rfl⟩ := h
  exact ⟨v, fp, rfl, q⟩
theorem LookL.two {d e : D} {vs : List V} (h : LookL K H [d, e] vs) : ∃ v u fp gp, vs = [v, u] ∧ RepD K H d v fp ∧ RepD K H e u gp := by
  obtain ⟨v, r, rfl, ⟨fp, q⟩, u, r', rfl, ⟨gp, q'⟩, rfl⟩ := h
  exact ⟨v, u, fp, gp, rfl, q, q'⟩
def fLen : List D → Rn Unit R
  | [.p (.str z)] => if z.length ≤ sizeLine then .ok (.own (.p (.int z.length))) else .bad
  | [.p (.tup xs)] => .ok (.own (.p (.int xs.length)))
  | [.lst xs] => .ok (.own (.p (.int xs.length)))
  | [.ls xs] => .ok (.own (.p (.int xs.length)))
  | [.tp xs] => .ok (.own (.p (.int xs.length)))
  | [.dic xs] => .ok (.own (.p (.int xs.length)))
  | _ => .bad
theorem RepKs.len {κ : Type} : ∀ {xs : List (κ × P)} {vs : List (κ × V)}, RepKs K H xs vs → vs.length = xs.length
  | [], vs, h => by
    obtain rfl : vs = [] := h
    rfl
  | (k, x) :: xs, vs, h => by
    obtain ⟨v, r, rfl, _, h2⟩ := h
    simp [RepKs.len h2]
theorem call_lenA {X : Cx} : CallR X (.builtin "len") (fun xs H Q => (∃ x n, xs = [x] ∧ LenV X.K x H n ∧ Q (.int n) H) ∨ ∃ a kvs, xs = [V.ref a] ∧ H a = some (.dK kvs) ∧ Q (.int kvs.length) H) := call_len.or call_lenD
theorem cg_len : CallG K (fun xs H Q => (∃ x n, xs = [x] ∧ LenV K x H n ∧ Q (.int n) H) ∨ ∃ a kvs, xs = [V.ref a] ∧ H a = some (.dK kvs) ∧ Q (.int kvs.length) H) fLen := by
  intro H ds vs Q E hl h
  unfold fLen at h
  split at h
  · rename_i z
    obtain ⟨v, fp, rfl, r⟩ := hl.one
    obtain rfl : v = .str z := r.1
    split at h
    · rename_i hz
      exact .inl ⟨.str z, z.length, rfl, ⟨hz, rfl⟩, RepP.up h rfl⟩
    · exact h.elim
  · rename_i xs
    obtain ⟨v, fp, rfl, r⟩ := hl.one
    obtain ⟨⟨a, vs, rfl, q, r⟩, _⟩ := r
    exact .inl ⟨.ref a, xs.length, rfl, .inr ⟨vs, q, r.len.symm⟩, RepP.up h rfl⟩
  · rename_i xs
    obtain ⟨v, fp, rfl, r⟩ := hl.one
    obtain ⟨a, vs, rfl, q, _, r⟩ := r
    exact .inl ⟨.ref a, xs.length, rfl, .inl ⟨vs, SqL.of q, r.len.symm⟩, RepP.up h rfl⟩
  · rename_i xs
    obtain ⟨v, fp, rfl, r⟩ := hl.one
    obtain ⟨a, vs, _, rfl, q, _, r⟩ := r
    exact .inl ⟨.ref a, xs.length, rfl, .inl ⟨vs, SqL.of q, r.len.symm⟩, RepP.up h rfl⟩
  · rename_i xs
    obtain ⟨v, fp, rfl, r⟩ := hl.one
    obtain ⟨a, vs, rfl, q, r⟩ := r
    exact .inl ⟨.ref a, xs.length, rfl, .inr ⟨vs, q, r.len.symm⟩, RepP.up h rfl⟩
  · rename_i xs
    obtain ⟨v, fp, rfl, r⟩ := hl.one
    obtain ⟨a, vs, rfl, q, _, r⟩ := r
    exact .inr ⟨a, vs, rfl, q, by rw [r.len]; exact RepP.up h rfl⟩
  · exact h.elim
theorem up_lst {xs : List P} {vs : List V} {Q : VK} (h : ∀ v H', Same H H' → RepR K H H' (.own (.lst xs)) v → Q v H') (r : RepPs K H xs vs) {p : Addr} (hp : H p = none) : Q (.ref p) (upd H p (.lst vs)) :=
  h _ _ (Same.new hp) ⟨[p], ⟨p, vs, rfl, upd_same, rfl, RepPs.kt (Same.kt (Same.new hp)) _ _ r⟩, by simp, fun b hb => by
    obtain rfl : b = p := by simpa using hb
    exact hp⟩
theorem up_tup {xs : List P} {vs : List V} {Q : VK} (h : ∀ v H', Same H H' → RepR K H H' (.own (.p (.tup xs))) v → Q v H') (r : RepPs K H xs vs) {p : Addr} (hp : H p = none) : Q (.ref p) (upd H p (.tup vs)) :=
  h _ _ (Same.new hp) (RepR.plain ⟨p, vs, rfl, .inl (.inl upd_same), RepPs.kt (Same.kt (Same.new hp)) _ _ r⟩)
def fTuple : List D → Rn Unit R
  | [.p (.tup xs)] => .ok (.own (.p (.tup xs)))
  | [.lst xs] => .ok (.own (.p (.tup xs)))
  | _ => .bad
theorem cg_tuple : CallG K (fun xs H Q => ∃ p ys, xs = [.ref p] ∧ ((SqL K H p ys ∧ ∀ l, H l = none → Q (.ref l) (upd H l (.tup ys))) ∨ (SqT K H p ys ∧ Q (.ref p) H))) fTuple := by
  intro H ds vs Q E hl h
  unfold fTuple at h
  split at h
  · rename_i xs
    obtain ⟨v, fp, rfl, r⟩ := hl.one
    obtain ⟨⟨a, vs, rfl, q, r⟩, _⟩ := r
    exact ⟨a, vs, rfl, .inr ⟨q, RepP.up h ⟨a, vs, rfl, q, r⟩⟩⟩
  · rename_i xs
    obtain ⟨v, fp, rfl, r⟩ := hl.one
    obtain ⟨a, vs, rfl, q, _, r⟩ := r
    exact ⟨a, vs, rfl, .inl ⟨SqL.of q, fun l hl => up_tup h r hl⟩⟩
  · exact h.elim
def fList : List D → Rn Unit R
  | [.p (.tup xs)] => .ok (.own (.lst xs))
  | [.lst xs] => .ok (.own (.lst xs))
  | _ => .bad
theorem cg_list : CallG K (fun xs H Q => ∃ p ys, xs = [.ref p] ∧ (SqL K H p ys ∨ SqT K H p ys) ∧ ∀ l, H l = none → Q (.ref l) (upd H l (.lst ys))) fList := by
  intro H ds vs Q E hl h
  unfold fList at h
  split at h
  · rename_i xs
    obtain ⟨v, fp, rfl, r⟩ := hl.one
    obtain ⟨⟨a, vs, rfl, q, r⟩, _⟩ := r
    exact ⟨a, vs, rfl, .inr q, fun l hl => up_lst h r hl⟩
  · rename_i xs
    obtain ⟨v, fp, rfl, r⟩ := hl.one
    obtain ⟨a, vs, rfl, q, _, r⟩ := r
    exact ⟨a, vs, rfl, .inl (SqL.of q), fun l hl => up_lst h r hl⟩
  · exact h.elim
def fAbs : List D → Rn Unit R
  | [.p (.int i)] => .ok (.own (.p (.int (if i < 0 then -i else i))))
  | _ => .bad
theorem cg_abs : CallG K (fun xs H Q => ∃ i, xs = [.int i] ∧ Q (.int (if i < 0 then -i else i)) H) fAbs := by
  intro H ds vs Q E hl h
  unfold fAbs at h
  split at h
  · rename_i i
    obtain ⟨v, fp, rfl, r⟩ := hl.one
    obtain rfl : v = .int i := r.1
    exact ⟨i, rfl, RepP.up h rfl⟩
  · exact h.elim
def fInt1 : List D → Rn Unit R
  | [.p (.int i)] => .ok (.own (.p (.int i)))
  | [.p (.bl k)] => .ok (.own (.p (.int (if k then 1 else 0))))
  | _ => .bad
theorem cg_int : CallG K (fun xs H Q => (∃ i, xs = [.int i] ∧ Q (.int i) H) ∨ ∃ k, xs = [.bl k] ∧ Q (.int (if k then 1 else 0)) H) fInt1 := by
  intro H ds vs Q E hl h
  unfold fInt1 at h
  split at h
  · rename_i i
    obtain ⟨v, fp, rfl, r⟩ := hl.one
    obtain rfl : v = .int i := r.1
    exact .inl ⟨i, rfl, RepP.up h rfl⟩
  · rename_i i
    obtain ⟨v, fp, rfl, r⟩ := hl.one
    obtain rfl : v = .bl i := r.1
    exact .inr ⟨i, rfl, RepP.up h rfl⟩
  · exact h.elim
def fMax2 : List D → Rn Unit R
  | [.p (.int i), .p (.int j)] => .ok (.own (.p (.int (if j > i then j else i))))
  | _ => .bad
def fMin2 : List D → Rn Unit R
  | [.p (.int i), .p (.int j)] => .ok (.own (.p (.int (if j < i then j else i))))
  | _ => .bad
theorem cg_max2 : CallG K (fun xs H Q => ∃ i j, xs = [.int i, .int j] ∧ Q (.int (if j > i then j else i)) H) fMax2 := by
  intro H ds vs Q E hl h
  unfold fMax2 at h
  split at h
  · rename_i i j
    obtain ⟨v, u, fp, gp, rfl, r, r'⟩ := hl.two
    obtain rfl : v = .int i := r.1
    obtain rfl : u = .int j := r'.1
    exact ⟨i, j, rfl, RepP.up h rfl⟩
  · exact h.elim
theorem cg_min2 : CallG K (fun xs H Q => ∃ i j, xs = [.int i, .int j] ∧ Q (.int (if j < i then j else i)) H) fMin2 := by
  intro H ds vs Q E hl h
  unfold fMin2 at h
  split at h
  · rename_i i j
    obtain ⟨v, u, fp, gp, rfl, r, r'⟩ := hl.two
    obtain rfl : v = .int i := r.1
    obtain rfl : u = .int j := r'.1
    exact ⟨i, j, rfl, RepP.up h rfl⟩
  · exact h.elim
/-- the ints of plain data -/
def pInts : List P → Option (List Int)
  | [] => some []
  | .int i :: xs => (pInts xs).map (i :: ·)
  | _ => none
theorem pInts_ok : ∀ {xs : List P} {ns : List Int}, pInts xs = some ns → xs = ns.map P.int
  | [], ns, e => by
    obtain rfl : ([] : List Int) = ns := by simpa [pInts] using e
    rfl
  | x :: xs, ns, e => by
    cases x with
    | int i =>
      simp only [pInts] at e
      cases z : pInts xs with
      | none => rw [z] at e; cases e
      | some ms =>
        rw [z] at e
        obtain rfl := Option.some.inj e
        rw [pInts_ok z]
        rfl
    | _ => simp [pInts] at e
@[simp] theorem pInts_map (ns : List Int) : pInts (ns.map P.int) = some ns := by
  induction ns with
  | nil => rfl
  | cons n ns ih => simp [pInts, ih]
def pBls : List P → Option (List Bool)
  | [] => some []
  | .bl i :: xs => (pBls xs).map (i :: ·)
  | _ => none
theorem pBls_ok : ∀ {xs : List P} {ns : List Bool}, pBls xs = some ns → xs = ns.map P.bl
  | [], ns, e => by
    obtain rfl : ([] : List Bool) = ns := by simpa [pBls] using e
    rfl
  | x :: xs, ns, e => by
    cases x with
    | bl i =>
      simp only [pBls] at e
      cases z : pBls xs with
      | none => rw [z] at e; cases e
      | some ms =>
        rw [z] at e
        obtain rfl := Option.some.inj e
        rw [pBls_ok z]
        rfl
    | _ => simp [pBls] at e
@[simp] theorem pBls_map (ns : List Bool) : pBls (ns.map P.bl) = some ns := by
  induction ns with
  | nil => rfl
  | cons n ns ih => simp [pBls, ih]
def pStrs : List P → Option (List Str)
  | [] => some []
  | .str i :: xs => (pStrs xs).map (i :: ·)
  | _ => none
theorem pStrs_ok : ∀ {xs : List P} {ns : List Str}, pStrs xs = some ns → xs = ns.map P.str
  | [], ns, e => by
    obtain rfl : ([] : List Str) = ns := by simpa [pStrs] using e
    rfl
  | x :: xs, ns, e => by
    cases x with
    | str i =>
      simp only [pStrs] at e
      cases z : pStrs xs with
      | none => rw [z] at e; cases e
      | some ms =>
        rw [z] at e
        obtain rfl := Option.some.inj e
        rw [pStrs_ok z]
        rfl
    | _ => simp [pStrs] at e
@[simp] theorem pStrs_map (ns : List Str) : pStrs (ns.map P.str) = some ns := by
  induction ns with
  | nil => rfl
  | cons n ns ih => simp [pStrs, ih]
def fSum : List D → Rn Unit R
  | [.lst xs] => match pInts xs with
    | some ns => .ok (.own (.p (.int ns.sum)))
    | none => .bad
  | _ => .bad
theorem cg_sum : CallG K (rSum K) fSum := by
  intro H ds vs Q E hl h
  unfold fSum at h
  split at h
  · rename_i xs
    split at h
    · rename_i ns e
      obtain ⟨v, fp, rfl, r⟩ := hl.one
      obtain ⟨a, vs, rfl, q, _, r⟩ := r
      obtain rfl := pInts_ok e
      obtain rfl := r.int
      exact ⟨a, ns, rfl, SqL.of q, RepP.up h rfl⟩
    · exact h.elim
  · exact h.elim
def fAnyAll (f : List Bool → Bool) : List D → Rn Unit R
  | [.lst xs] => match pBls xs with
    | some ns => .ok (.own (.p (.bl (f ns))))
    | none => .bad
  | _ => .bad
theorem cg_any : CallG K (rAny K) (fAnyAll fun bs => bs.any id) := by
  intro H ds vs Q E hl h
  unfold fAnyAll at h
  split at h
  · rename_i xs
    split at h
    · rename_i ns e
      obtain ⟨v, fp, rfl, r⟩ := hl.one
      obtain ⟨a, vs, rfl, q, _, r⟩ := r
      obtain rfl := pBls_ok e
      obtain rfl := r.bl
      exact ⟨a, ns, rfl, SqL.of q, RepP.up h rfl⟩
    · exact h.elim
  · exact h.elim
theorem cg_all : CallG K (rAll K) (fAnyAll fun bs => bs.all id) := by
  intro H ds vs Q E hl h
  unfold fAnyAll at h
  split at h
  · rename_i xs
    split at h
    · rename_i ns e
      obtain ⟨v, fp, rfl, r⟩ := hl.one
      obtain ⟨a, vs, rfl, q, _, r⟩ := r
      obtain rfl := pBls_ok e
      obtain rfl := r.bl
      exact ⟨a, ns, rfl, SqL.of q, RepP.up h rfl⟩
    · exact h.elim
  · exact h.elim
/-- the greatest, the least of ints -/
def maxL : List Int → Int
  | [] => 0
  | x :: xs => xs.foldl (fun a b => if b > a then b else a) x
def minL : List Int → Int
  | [] => 0
  | x :: xs => xs.foldl (fun a b => if b < a then b else a) x
theorem maxL_fold (xs : List Int) : ∀ x m, m ∈ x :: xs → (∀ y ∈ x :: xs, y ≤ m) → xs.foldl (fun a b => if b > a then b else a) x = m := by
  induction xs with
  | nil => intro x m h1 h2; simp at h1; exact h1.symm
  | cons y xs ih =>
    intro x m h1 h2
    rw [List.foldl_cons]
    refine ih _ m ?_ fun z hz => ?_
    · have hx := h2 x (by simp)
      have hy := h2 y (by simp)
      simp only [List.mem_cons] at h1 ⊢
      rcases h1 with h | h | h
      · by_cases c : y > x
        · omega
        · rw [if_neg c]; exact .inl h
      · by_cases c : y > x
        · rw [if_pos c]; exact .inl h
        · rw [if_neg c]; left; omega
      · exact .inr h
    · have hx := h2 x (by simp)
      have hy := h2 y (by simp)
      simp only [List.mem_cons] at hz
      rcases hz with h | h
      · subst h
        by_cases c : y > x
        · rw [if_pos c]; exact hy
        · rw [if_neg c]; exact hx
      · exact h2 z (by simp [h])
theorem minL_fold (xs : List Int) : ∀ x m, m ∈ x :: xs → (∀ y ∈ x :: xs, m ≤ y) → xs.foldl (fun a b => if b < a then b else a) x = m := by
  induction xs with
  | nil => intro x m h1 h2; simp at h1; exact h1.symm
  | cons y xs ih =>
    intro x m h1 h2
    rw [List.foldl_cons]
    refine ih _ m ?_ fun z hz => ?_
    · have hx := h2 x (by simp)
      have hy := h2 y (by simp)
      simp only [List.mem_cons] at h1 ⊢
      rcases h1 with h | h | h
      · by_cases c : y < x
        · omega
        · rw [if_neg c]; exact .inl h
      · by_cases c : y < x
        · rw [if_pos c]; exact .inl h
        · rw [if_neg c]; left; omega
      · exact .inr h
    · have hx := h2 x (by simp)
      have hy := h2 y (by simp)
      simp only [List.mem_cons] at hz
      rcases hz with h | h
      · subst h
        by_cases c : y < x
        · rw [if_pos c]; exact hy
        · rw [if_neg c]; exact hx
      · exact h2 z (by simp [h])
def fMaxL : List D → Rn Unit R
  | [.lst xs] => match pInts xs with
    | some ns => if 0 < ns.length then .ok (.own (.p (.int (maxL ns)))) else .bad
    | none => .bad
  | ds => fMax2 ds
def fMinL : List D → Rn Unit R
  | [.lst xs] => match pInts xs with
    | some ns => if 0 < ns.length then .ok (.own (.p (.int (minL ns)))) else .bad
    | none => .bad
  | ds => fMin2 ds
theorem cg_max : CallG K (fun xs H Q => rMax K xs H Q ∨ ∃ i j, xs = [.int i, .int j] ∧ Q (.int (if j > i then j else i)) H) fMaxL := by
  intro H ds vs Q E hl h
  unfold fMaxL at h
  split at h
  · rename_i xs
    split at h
    · rename_i ns e
      split at h
      · rename_i hn
        obtain ⟨v, fp, rfl, r⟩ := hl.one
        obtain ⟨a, vs, rfl, q, _, r⟩ := r
        obtain rfl := pInts_ok e
        obtain rfl := r.int
        refine .inl ⟨a, ns, rfl, SqL.of q, hn, fun m h1 h2 => ?_⟩
        cases ns with
        | nil => cases h1
        | cons x ns =>
          rw [← maxL_fold ns x m h1 h2]
          exact RepP.up h rfl
      · exact h.elim
    · exact h.elim
  · exact .inr (cg_max2 H ds vs Q E hl h)
theorem cg_min : CallG K (fun xs H Q => rMin K xs H Q ∨ ∃ i j, xs = [.int i, .int j] ∧ Q (.int (if j < i then j else i)) H) fMinL := by
  intro H ds vs Q E hl h
  unfold fMinL at h
  split at h
  · rename_i xs
    split at h
    · rename_i ns e
      split at h
      · rename_i hn
        obtain ⟨v, fp, rfl, r⟩ := hl.one
        obtain ⟨a, vs, rfl, q, _, r⟩ := r
        obtain rfl := pInts_ok e
        obtain rfl := r.int
        refine .inl ⟨a, ns, rfl, SqL.of q, hn, fun m h1 h2 => ?_⟩
        cases ns with
        | nil => cases h1
        | cons x ns =>
          rw [← minL_fold ns x m h1 h2]
          exact RepP.up h rfl
      · exact h.elim
    · exact h.elim
  · exact .inr (cg_min2 H ds vs Q E hl h)
end
section
variable {W : WX} {X : Cx} {a b e : Expr} {es : List Expr} {ga gb gc : GE} {gs : GA} {pos p : Pos}
theorem de_len (hm : X.mg "len" = none) (ha : DA W X (e :: es) gs) (hg : Gl X "len" := by rfl) (he : starEach (e :: es) X.env = (false, eval e X.env) :: starEach es X.env := by rfl) (hpl : (backTo pos (starEach es X.env)).any (·.1) = false := by rfl) : DE W X (.Call (.Name "len" p) (e :: es) [] pos) (gCall fLen gs) :=
  de_callB call_lenA cg_len hm PySem.boot_len ha hg (he := he) (hpl := hpl)
end
end DL
/-! DLf: statements, defs, calls. -/
namespace DL
open PySem PySem.Spec PyProof.Rows L2

section
variable {K : PySem.W.Frag} {B H H' : Hp} {ex : Option Addr} {Rg : Rgs ex}
theorem SlotsR.mem : ∀ {δ : Sl} {σ : L2.St} {fp : List Addr}, SlotsR K Rg H δ σ fp → ∀ a ∈ fp, H a ≠ none
  | [], _, _, h => fun a ha => by rw [h.2] at ha; cases ha
  | s :: δ, _, _, h => fun b hb => by
    obtain ⟨ov, r, f, g, rfl, rfl, h1, h2⟩ := h
    rcases List.mem_append.mp hb with z | z
    · cases s with
      | no => rw [h1] at z; cases z
      | own d => obtain ⟨v, _, q⟩ := h1; exact q.mem b z
      | bor t d => rw [h1.1] at z; cases z
      | exn => rw [h1.1] at z; cases z
    · exact SlotsR.mem h2 b z
theorem SlotsR.ntup : ∀ {δ : Sl} {σ : L2.St} {fp : List Addr}, SlotsR K Rg H δ σ fp → ∀ a ∈ fp, ¬ Fast H a
  | [], _, _, h => fun a ha => by rw [h.2] at ha; cases ha
  | s :: δ, _, _, h => fun b hb => by
    obtain ⟨ov, r, f, g, rfl, rfl, h1, h2⟩ := h
    rcases List.mem_append.mp hb with z | z
    · cases s with
      | no => rw [h1] at z; cases z
      | own d => obtain ⟨v, _, q⟩ := h1; exact q.ntup b z
      | bor t d => rw [h1.1] at z; cases z
      | exn => rw [h1.1] at z; cases z
    · exact SlotsR.ntup h2 b z
/-- a name is stored: new data -/
theorem SRel.set {σ : L2.St} {δ : Sl} {i : Nat} {v : V} {d : D} {fp : List Addr} (S0 : SRel K B Rg σ H δ) (s : Same H H') (r : RepD K H' d v fp) (n : fp.Nodup) (f : ∀ a ∈ fp, H a = none) : SRel K B Rg (σ.set i (some v)) H' (δ.set i (.own d)) := by
  have S1 := S0.grow s
  obtain ⟨b, u, gp, q, gn, gf⟩ := S1
  have hl := q.len
  by_cases hi : i < δ.length
  · obtain ⟨b0, u0, fp0, z0, n0, f0⟩ := S0
    have z1 := z0.kt (Same.kt s) (fun _ a _ o e => s a o e) (fun a _ o e => s a o e)
    obtain ⟨fp', q1, q2, q3⟩ := SlotsR.set (v := some v) (s := .own d) (f' := fp) ⟨v, rfl, r⟩ i hi z1 n0 n (fun a ha hb => z0.mem a hb (f a ha))
    refine ⟨b, u, fp', q1, q2, fun a ha => ?_⟩
    rcases q3 a ha with z | z
    · exact f0 a z
    · exact b0.free (f a z)
  · rw [List.set_eq_of_length_le (by omega), List.set_eq_of_length_le (by omega)]
    exact ⟨b, u, gp, q, gn, gf⟩
/-- a slot is forgotten -/
theorem SlotsR.drop1 : ∀ {δ : Sl} {σ : L2.St} {fp : List Addr} (i : Nat), SlotsR K Rg H δ σ fp → fp.Nodup → ∃ fp', SlotsR K Rg H (δ.set i .no) σ fp' ∧ fp'.Nodup ∧ ∀ a ∈ fp', a ∈ fp
  | [], _, _, i, h, n => ⟨_, by simpa using h, n, fun _ z => z⟩
  | s :: δ, _, _, 0, h, n => by
    obtain ⟨ov, r, f, g, rfl, rfl, h1, h2⟩ := h
    rw [List.nodup_append] at n
    exact ⟨g, ⟨ov, r, [], g, rfl, rfl, rfl, h2⟩, n.2.1, fun a ha => by simp [ha]⟩
  | s :: δ, _, _, i + 1, h, n => by
    obtain ⟨ov, r, f, g, rfl, rfl, h1, h2⟩ := h
    rw [List.nodup_append] at n
    obtain ⟨fp', q1, q2, q3⟩ := SlotsR.drop1 i h2 n.2.1
    refine ⟨f ++ fp', ⟨ov, r, f, fp', rfl, rfl, h1, q1⟩, ?_, fun a ha => ?_⟩
    · rw [List.nodup_append]
      exact ⟨n.1, q2, fun a ha b hb e => n.2.2 a ha b (q3 b hb) e⟩
    · rcases List.mem_append.mp ha with z | z
      · simp [z]
      · simp [q3 a z]
/-- a slot's data is changed in place -/
theorem SlotsR.change {d : D} : ∀ {δ : Sl} {σ : L2.St} {fp : List Addr} (i : Nat), SlotsR K Rg H δ σ fp → fp.Nodup → δ[i]? = some (.own d) →
    (∀ t a, Rg t a ≠ none → a ∉ fp) →
    ∃ v f, σ[i]? = some (some v) ∧ RepD K H d v f ∧ (∀ a ∈ f, a ∈ fp) ∧ f.Nodup ∧
      ∀ (H' : Hp) (d' : D) (f' : List Addr), KT H H' → (∀ a o, a ∉ f → H a = some o → H' a = some o) → RepD K H' d' v f' → f'.Nodup → (∀ a ∈ f', a ∈ f ∨ H a = none) →
        ∃ fp', SlotsR K Rg H' (δ.set i (.own d')) σ fp' ∧ fp'.Nodup ∧ ∀ a ∈ fp', a ∈ fp ∨ a ∈ f'
  | [], _, _, i, _, _, e, _ => by simp at e
  | s :: δ, _, _, 0, h, n, e, hr => by
    obtain ⟨ov, r, f, g, rfl, rfl, h1, h2⟩ := h
    obtain rfl : s = .own d := by simpa using e
    obtain ⟨v, rfl, rd⟩ := h1
    rw [List.nodup_append] at n
    refine ⟨v, f, rfl, rd, fun a ha => by simp [ha], n.1, fun H' d' f' kt kp rd' n' hf => ?_⟩
    have h2' : SlotsR K Rg H' δ r g := SlotsR.kt kt (fun t a ra o e => kp a o (fun z => hr t a ra (by simp [z])) e) (fun a ha o e => kp a o (fun z => n.2.2 a z a ha rfl) e) h2
    refine ⟨f' ++ g, ⟨some v, r, f', g, rfl, rfl, ⟨v, rfl, rd'⟩, h2'⟩, ?_, fun a ha => ?_⟩
    · rw [List.nodup_append]
      refine ⟨n', n.2.1, fun a ha b hb e => ?_⟩
      subst e
      rcases hf a ha with z | z
      · exact n.2.2 a z a hb rfl
      · exact h2.mem a hb z
    · rcases List.mem_append.mp ha with z | z
      · exact .inr z
      · exact .inl (by simp [z])
  | s :: δ, _, _, i + 1, h, n, e, hr => by
    obtain ⟨ov, r, f, g, rfl, rfl, h1, h2⟩ := h
    rw [List.nodup_append] at n
    obtain ⟨v, fi, e1, rd, sub, ni, k⟩ := SlotsR.change i h2 n.2.1 (by simpa using e) (fun t a ra z => hr t a ra (by simp [z]))
    refine ⟨v, fi, by simpa using e1, rd, fun a ha => by simp [sub a ha], ni, fun H' d' f' kt kp rd' n' hf => ?_⟩
    obtain ⟨fp', q1, q2, q3⟩ := k H' d' f' kt kp rd' n' hf
    have h1' : SlotR K Rg H' s ov f := SlotR.kt kt (fun t a ra o e => kp a o (fun z => hr t a ra (by simp [sub a z])) e) (fun a ha o e => kp a o (fun z => n.2.2 a ha a (sub a z) rfl) e) h1
    refine ⟨f ++ fp', ⟨ov, r, f, fp', rfl, rfl, h1', q1⟩, ?_, fun a ha => ?_⟩
    · rw [List.nodup_append]
      refine ⟨n.1, q2, fun a ha b hb e => ?_⟩
      subst e
      rcases q3 a hb with z | z
      · exact n.2.2 a ha a z rfl
      · rcases hf a z with z | z
        · exact n.2.2 a ha a (sub a z) rfl
        · cases s with
          | no => rw [h1] at ha; cases ha
          | own d => obtain ⟨_, _, q⟩ := h1; exact q.mem a ha z
          | bor t d => rw [h1.1] at ha; cases ha
          | exn => rw [h1.1] at ha; cases ha
    · rcases List.mem_append.mp ha with z | z
      · exact .inl (by simp [z])
      · rcases q3 a z with z | z
        · exact .inl (by simp [z])
        · exact .inr z
/-- slot i's data is changed in place, at its addresses f alone -/
theorem SRel.change {σ : L2.St} {δ : Sl} {i : Nat} {d : D} (S0 : SRel K B Rg σ H δ) (e : δ[i]? = some (.own d)) : ∃ v f, σ[i]? = some (some v) ∧ RepD K H d v f ∧ f.Nodup ∧ (∀ a ∈ f, B a = none) ∧
    ∀ (H' : Hp) (d' : D) (f' : List Addr), KT H H' → (∀ a o, a ∉ f → H a = some o → H' a = some o) → RepD K H' d' v f' → f'.Nodup → (∀ a ∈ f', a ∈ f ∨ H a = none) → SRel K B Rg σ H' (δ.set i (.own d')) := by
  obtain ⟨b, u, fp, q, n, f⟩ := S0
  have hr : ∀ t a, Rg t a ≠ none → a ∉ fp := fun t a ra z => by
    cases e : Rg t a with
    | none => exact ra e
    | some o => have := u t a o e; rw [f a z] at this; cases this
  obtain ⟨v, fi, e1, rd, sub, ni, k⟩ := SlotsR.change i q n e hr
  refine ⟨v, fi, e1, rd, ni, fun a ha => f a (sub a ha), fun H' d' f' kt kp rd' n' hf => ?_⟩
  obtain ⟨fp', q1, q2, q3⟩ := k H' d' f' kt kp rd' n' hf
  refine ⟨fun a o z => kp a o (fun y => by rw [f a (sub a y)] at z; cases z) (b a o z), u, fp', q1, q2, fun a ha => ?_⟩
  rcases q3 a ha with z | z
  · exact f a z
  · rcases hf a z with z | z
    · exact f a (sub a z)
    · exact b.free z
end
end DL
/-! DLg: statements, defs, calls. -/
namespace DL
open PySem PySem.Spec PyProof.Rows L2

inductive Fl where
  | nx (δ : Sl) | ret (d : D) | bk (δ : Sl) | ct (δ : Sl)
abbrev GS := Sl → Rn Sl Fl
def postR (K : PySem.W.Frag) (B : Hp) (d : D) (Q : VK) : Prop := ∀ v H', Same B H' → (∃ fp, RepD K H' d v fp ∧ fp.Nodup ∧ ∀ a ∈ fp, B a = none) → Q v H'
def postF (K : PySem.W.Frag) (B : Hp) {ex : Option Addr} (Rg : Rgs ex) (D : Ends) : Fl → Prop
  | .nx δ => ∀ σ H, SRel K B Rg σ H δ → D.nx σ H
  | .bk δ => ∀ σ H, SRel K B Rg σ H δ → D.bk σ H
  | .ct δ => ∀ σ H, SRel K B Rg σ H δ → D.ct σ H
  | .ret d => postR K B d D.rt
def postE (c : DC) (B : Hp) (Rg : Rgs c.ex) : Str → Sl → Prop := fun cl δ => ∀ C σ H, c.mg cl = some (.ref C) → SRel c.K B Rg σ H δ → c.W (.ref C) none σ H
def tDS (c : DC) (g : GS) : TS := fun D σ H => ∃ (B : Hp) (Rg : Rgs c.ex) (δ : Sl), SRel c.K B Rg σ H δ ∧ (g δ).wp (postF c.K B Rg D) (postE c B Rg)
def DS (W : WX) (X : Cx) (st : Stmt) (g : GS) : Prop := PS X st (tDS (dc X W) g)
def DSs (W : WX) (X : Cx) (sts : List Stmt) (g : GS) : Prop := PSs X sts (tDS (dc X W) g)
/-- an expression's run within a statement -/
def lift {α : Type} (w : Rn Unit α) (δ : Sl) : Rn Sl α := w.mapErr fun _ => δ
section
variable {c : DC} {σ : L2.St} {H B : Hp} {Rg : Rgs c.ex} {δ : Sl} {D : Ends}
theorem tDS_val {g : GE} {f : R → Rn Sl Fl} (S : SRel c.K B Rg σ H δ) (h : ((lift (g δ) δ).bind f).wp (postF c.K B Rg D) (postE c B Rg)) {Q' : VK}
    (k : ∀ r v H1, Same H H1 → RepR c.K H H1 r v → SRel c.K B Rg σ H1 δ → (f r).wp (postF c.K B Rg D) (postE c B Rg) → Q' v H1) : tD c g σ H Q' :=
  ⟨B, Rg, δ, S, Rn.wp_mono (Rn.wp_mapErr.mp (Rn.wp_bind.mp h)) (fun r q v H1 s1 rv => k r v H1 s1 rv (S.grow s1) q) fun cl _ q C H' e s => q C σ H' e (S.grow s)⟩
theorem tDS_bool {g : GT} {f : Bool → Rn Sl Fl} (S : SRel c.K B Rg σ H δ) (h : ((lift (g δ) δ).bind f).wp (postF c.K B Rg D) (postE c B Rg)) {Q' : Bool → Hp → Prop}
    (k : ∀ b H1, Same H H1 → SRel c.K B Rg σ H1 δ → (f b).wp (postF c.K B Rg D) (postE c B Rg) → Q' b H1) : tDT c g σ H Q' :=
  ⟨B, Rg, δ, S, Rn.wp_mono (Rn.wp_mapErr.mp (Rn.wp_bind.mp h)) (fun r q H1 s1 => k r H1 s1 (S.grow s1) q) fun cl _ q C H' e s => q C σ H' e (S.grow s)⟩
theorem tDS_args {g : GA} {f : List R → Rn Sl Fl} (S : SRel c.K B Rg σ H δ) (h : ((lift (g δ) δ).bind f).wp (postF c.K B Rg D) (postE c B Rg)) {Q' : List V → Hp → Prop}
    (k : ∀ rs vs H1, Same H H1 → RepA c.K H H1 rs vs → SRel c.K B Rg σ H1 δ → (f rs).wp (postF c.K B Rg D) (postE c B Rg) → Q' vs H1) : tDA c g σ H Q' :=
  ⟨B, Rg, δ, S, Rn.wp_mono (Rn.wp_mapErr.mp (Rn.wp_bind.mp h)) (fun r q vs H1 s1 rv => k r vs H1 s1 rv (S.grow s1) q) fun cl _ q C H' e s => q C σ H' e (S.grow s)⟩
end
def gNext : GS := fun δ => .ok (.nx δ)
def gSeq (a b : GS) : GS := fun δ => (a δ).bind fun
  | .nx δ' => b δ'
  | fl => .ok fl
section
variable {W : WX} {X : Cx} {a b e : Expr} {es : List Expr} {ga gb gc : GE} {gs : GA} {gt : GT} {g1 g2 : GS} {st : Stmt} {sts : List Stmt} {pos : Pos}
theorem dss_nil : DSs W X [] gNext := PSs.imp pss_nil fun D σ H ⟨B, Rg, δ, S0, w⟩ => w σ H S0
theorem dss_cons (h1 : DS W X st g1) (h2 : DSs W X sts g2) : DSs W X (st :: sts) (gSeq g1 g2) := by
  refine PSs.imp (pss_cons h1 h2) fun D σ H ⟨B, Rg, δ, S0, w⟩ => ?_
  refine ⟨B, Rg, δ, S0, Rn.wp_mono (Rn.wp_bind.mp w) (fun fl q => ?_) fun _ _ q => q⟩
  cases fl with
  | nx δ' => exact fun σ' H' S' => ⟨B, Rg, δ', S', q⟩
  | ret d => exact q
  | bk δ' => exact q
  | ct δ' => exact q
theorem dss_one (h1 : DS W X st g1) : DSs W X [st] g1 := pss_one h1
theorem ds_pass : DS W X (.Pass pos) gNext := PS.imp ps_pass fun D σ H ⟨B, Rg, δ, S0, w⟩ => w σ H S0
def gBk : GS := fun δ => .ok (.bk δ)
def gCt : GS := fun δ => .ok (.ct δ)
theorem ds_break : DS W X (.Break pos) gBk := PS.imp ps_break fun D σ H ⟨B, Rg, δ, S0, w⟩ => w σ H S0
theorem ds_continue : DS W X (.Continue pos) gCt := PS.imp ps_continue fun D σ H ⟨B, Rg, δ, S0, w⟩ => w σ H S0
def gIfS (t : GT) (a b : GS) : GS := fun δ => (lift (t δ) δ).bind fun k => if k = true then a δ else b δ
theorem ds_if {s1 s2 : List Stmt} (hc : DT W X e gt) (ha : DSs W X s1 g1) (hb : DSs W X s2 g2) : DS W X (.If e s1 s2 pos) (gIfS gt g1 g2) := by
  refine PS.imp (ps_if hc ha hb) fun D σ H ⟨B, Rg, δ, S0, w⟩ => ?_
  refine tDS_bool S0 w fun k H1 s1 S1 q => ?_
  cases k with
  | true => rw [if_pos rfl] at q ⊢; exact ⟨B, Rg, δ, S1, q⟩
  | false => rw [if_neg (by decide)] at q ⊢; exact ⟨B, Rg, δ, S1, q⟩
def gRet (ga : GE) : GS := fun δ => (lift (ga δ) δ).bind fun
  | .own d => .ok (.ret d)
  | .vw _ => .bad
theorem ds_ret (ha : DE W X e ga) : DS W X (.Return (some e) pos) (gRet ga) := by
  refine PS.imp (ps_ret ha) fun D σ H ⟨B, Rg, δ, S0, w⟩ => ?_
  refine tDS_val S0 w fun r v H1 s1 rv S1 q => ?_
  cases r with
  | own d =>
    obtain ⟨fp, q1, n, f⟩ := rv
    exact q v H1 S1.same ⟨fp, q1, n, fun a ha => S0.same.free (f a ha)⟩
  | vw d => exact q.elim
def gRetV (i : Nat) : GS := fun δ => match δ[i]? with
  | some (.own d) => .ok (.ret d)
  | some (.bor _ (.p x)) => .ok (.ret (.p x))
  | _ => .bad
theorem ds_retV {i : Nat} {x : Str} {p : Pos} (hN : X.N[i]? = some x) (hv : Vis X.env.scope x) (hd : (x == ("__debug__" : Str)) = false := by decide) (hcd : (x == ("__classdict__" : Str)) = false := by decide) :
    DS W X (.Return (some (.Name x p)) pos) (gRetV i) := by
  refine PS.imp (ps_ret (pe_var hN hv hd hcd)) fun D σ H ⟨B, Rg, δ, S0, w⟩ => ?_
  unfold gRetV at w
  split at w
  · rename_i d e
    obtain ⟨v, f, e1, r, n, ff, _⟩ := S0.change e
    exact ⟨v, e1, w v H S0.same ⟨f, r, n, ff⟩⟩
  · rename_i t x e
    obtain ⟨v, g, e1, r⟩ := S0.slot e (.inr ⟨t, rfl⟩)
    exact ⟨v, e1, w v H S0.same ⟨[], ⟨r.1, rfl⟩, List.nodup_nil, fun _ z => nomatch z⟩⟩
  · exact w.elim
theorem ds_retN : DS W X (.Return none pos) (fun _ => .ok (.ret (.p .non))) := by
  refine PS.imp ps_retN fun D σ H ⟨B, Rg, δ, S0, w⟩ => ?_
  exact w .non H S0.same ⟨[], ⟨rfl, rfl⟩, List.nodup_nil, fun _ z => nomatch z⟩
def gSet (i : Nat) (ga : GE) : GS := fun δ => (lift (ga δ) δ).bind fun
  | .own d => .ok (.nx (δ.set i (.own d)))
  | .vw _ => .bad
theorem ds_set {i : Nat} {x : Str} {p : Pos} (hN : X.N.Nodup) (hi : X.N[i]? = some x) (hx : Loc X.env.scope x) (ha : DE W X e ga) (hs : swapsWith e (some (.Name x p)) pos.line X.env = pure false := by rfl)
    (hf : X.fn x = true ∨ X.env.scope.names.lookup x = some .local := by first | exact .inl rfl | exact .inr rfl | assumption) : DS W X (.Assign [.Name x p] e pos) (gSet i ga) := by
  refine PS.imp (ps_set hN hi hx ha hs hf) fun D σ H ⟨B, Rg, δ, S0, w⟩ => ?_
  refine tDS_val S0 w fun r v H1 s1 rv S1 q => ?_
  cases r with
  | own d =>
    obtain ⟨fp, q1, n, f⟩ := rv
    exact q _ _ (S0.set s1 q1 n f)
  | vw d => exact q.elim
def gExpr (ga : GE) : GS := fun δ => (lift (ga δ) δ).bind fun _ => .ok (.nx δ)
theorem ds_expr (ha : DE W X e ga) (hs : swapsWith e none pos.line X.env = pure false := by rfl) : DS W X (.Expr e pos) (gExpr ga) := by
  refine PS.imp (ps_expr ha hs) fun D σ H ⟨B, Rg, δ, S0, w⟩ => ?_
  exact tDS_val S0 w fun r v H1 s1 rv S1 q => q _ _ S1
end
end DL
/-! DLh: targets, loops. -/
namespace DL
open PySem PySem.Spec PyProof.Rows L2

/-! ### targets -/
inductive Tg where
  | one (i : Nat) | tup (is : List Nat)
def gNms : List Nat → TGs
  | [] => L2.gNil
  | i :: is => L2.gCons (gName i) (gNms is)
def Tg.g (K : PySem.W.Frag) : Tg → TG
  | .one i => gName i
  | .tup is => L2.gTup K is.length (gNms is)
def setAll : List Nat → List D → Sl → Sl
  | i :: is, d :: ds, δ => setAll is ds (δ.set i (.own d))
  | _, _, δ => δ
/-- the slots behind a store of d -/
def Tg.set : Tg → D → Sl → Option Sl
  | .one i, d, δ => some (δ.set i (.own d))
  | .tup is, .p (.tup xs), δ => if xs.length = is.length then some (setAll is (xs.map D.p) δ) else none
  | .tup is, .tp ds, δ => if ds.length = is.length then some (setAll is ds δ) else none
  | _, _, _ => none
section
variable {K : PySem.W.Frag} {B H H' : Hp} {ex : Option Addr} {Rg : Rgs ex}
theorem RepPs.ds : ∀ {xs : List P} {vs : List V}, RepPs K H xs vs → RepDs K H (xs.map D.p) vs []
  | [], _, h => ⟨h, rfl⟩
  | x :: xs, _, h => by
    obtain ⟨v, r, rfl, h1, h2⟩ := h
    exact ⟨v, r, [], [], rfl, rfl, ⟨h1, rfl⟩, RepPs.ds h2⟩
theorem setAll_ok : ∀ (is : List Nat) (ds : List D) (vs : List V) (gp : List Addr) (σ : L2.St) (δ : Sl) (fp : List Addr) (Q : L2.St → Hp → Prop), ds.length = is.length → SlotsR K Rg H δ σ fp → RepDs K H ds vs gp → (fp ++ gp).Nodup →
    (∀ σ' fp', SlotsR K Rg H (setAll is ds δ) σ' fp' → fp'.Nodup → (∀ a ∈ fp', a ∈ fp ++ gp) → Q σ' H) → gNms is vs σ H Q
  | [], [], vs, gp, σ, δ, fp, Q, _, S0, r, n, k => by
    obtain ⟨rfl, rfl⟩ := r
    exact ⟨rfl, k σ fp S0 (by simpa using n) (fun a ha => by simp [ha])⟩
  | i :: is, d :: ds, vs, gp, σ, δ, fp, Q, hl, S0, r, n, k => by
    obtain ⟨v, r, f, g, rfl, rfl, h1, h2⟩ := r
    refine ⟨v, r, rfl, ?_⟩
    have n' := n
    rw [List.nodup_append] at n'
    obtain ⟨n1, n2, n3⟩ := n'
    rw [List.nodup_append] at n2
    by_cases hi : i < δ.length
    · obtain ⟨fp', q1, q2, q3⟩ := SlotsR.set (v := some v) (s := .own d) (f' := f) ⟨v, rfl, h1⟩ i hi S0 n1 n2.1 (fun a ha hb => n3 a hb a (by simp [ha]) rfl)
      refine setAll_ok is ds r g _ _ fp' Q (by simpa using hl) q1 h2 ?_ fun σ' fp'' z1 z2 z3 => k σ' fp'' z1 z2 fun a ha => ?_
      · rw [List.nodup_append]
        refine ⟨q2, n2.2.1, fun a ha b hb e => ?_⟩
        subst e
        rcases q3 a ha with z | z
        · exact n3 a z a (by simp [hb]) rfl
        · exact n2.2.2 a z a hb rfl
      · rcases List.mem_append.mp (z3 a ha) with z | z
        · rcases q3 a z with z | z
          · simp [z]
          · simp [z]
        · simp [z]
    · have hls := S0.len
      have e1 : σ.set i (some v) = σ := List.set_eq_of_length_le (by omega)
      have e2 : δ.set i (.own d) = δ := List.set_eq_of_length_le (by omega)
      show gNms is r (σ.set i (some v)) H Q
      rw [e1]
      refine setAll_ok is ds r g _ _ fp Q (by simpa using hl) S0 h2 ?_ fun σ' fp'' z1 z2 z3 => k σ' fp'' (by show SlotsR K Rg H (setAll is ds (δ.set i (.own d))) σ' fp''; rw [e2]; exact z1) z2 fun a ha => ?_
      · rw [List.nodup_append]
        exact ⟨n1, n2.2.1, fun a ha b hb e => n3 a ha b (by simp [hb]) e⟩
      · rcases List.mem_append.mp (z3 a ha) with z | z
        · simp [z]
        · simp [z]
  | [], d :: ds, _, _, _, _, _, _, hl, _, _, _, _ => by simp at hl
  | i :: is, [], _, _, _, _, _, _, hl, _, _, _, _ => by simp at hl
/-- a store of what was made from H on -/
theorem Tg.ok {t : Tg} {d : D} {δ δ' : Sl} {σ : L2.St} {v : V} {gp : List Addr} {Q : L2.St → Hp → Prop} (S0 : SRel K B Rg σ H δ) (s : Same H H') (r : RepD K H' d v gp) (n : gp.Nodup) (f : ∀ a ∈ gp, H a = none)
    (e : t.set d δ = some δ') (k : ∀ σ', SRel K B Rg σ' H' δ' → Q σ' H') : t.g K v σ H' Q := by
  cases t with
  | one i =>
    obtain rfl := Option.some.inj e
    exact k _ (S0.set s r n f)
  | tup is =>
    have S1 := S0.grow s
    obtain ⟨b, u, fp, q, qn, qf⟩ := S0
    have q1 := q.kt (Same.kt s) (fun _ a _ o e => s a o e) (fun a _ o e => s a o e)
    have nn : (fp ++ gp).Nodup := by
      rw [List.nodup_append]
      exact ⟨qn, n, fun a ha b hb e => by subst e; exact q.mem a ha (f a hb)⟩
    have fin : ∀ σ' fp', SlotsR K Rg H' δ' σ' fp' → fp'.Nodup → (∀ a ∈ fp', a ∈ fp ++ gp) → Q σ' H' := fun σ' fp' z1 z2 z3 => k σ' ⟨b.trans s, u, fp', z1, z2, fun a ha => by
      rcases List.mem_append.mp (z3 a ha) with z | z
      · exact qf a z
      · exact b.free (f a z)⟩
    unfold Tg.set at e
    split at e
    · rename_i e0; cases e0
    · rename_i is' δ'' xs e0
      cases e0
      split at e
      · rename_i hl
        obtain rfl := Option.some.inj e
        obtain ⟨⟨a, vs, rfl, qa, ra⟩, rfl⟩ := r
        exact ⟨a, vs, rfl, qa, by rw [ra.len, hl], setAll_ok is _ vs [] σ _ fp Q (by simpa using hl) q1 ra.ds nn fin⟩
      · cases e
    · rename_i is' δ'' ds e0
      cases e0
      split at e
      · rename_i hl
        obtain rfl := Option.some.inj e
        obtain ⟨a, vs, rfl, qa, ra⟩ := r
        exact ⟨a, vs, rfl, qa, by rw [ra.len, hl], setAll_ok is _ vs gp σ _ fp Q hl q1 ra nn fin⟩
      · cases e
    · cases e
end

theorem gNms_mono {Q Q' : L2.St → Hp → Prop} (k : ∀ σ H, Q σ H → Q' σ H) : ∀ (is : List Nat) (vs : List V) (σ : L2.St) (H : Hp), gNms is vs σ H Q → gNms is vs σ H Q'
  | [], _, _, _, h => ⟨h.1, k _ _ h.2⟩
  | i :: is, _, _, _, h => by
    obtain ⟨v, r, e, h⟩ := h
    exact ⟨v, r, e, gNms_mono k is r _ _ h⟩
theorem Tg.g_mono {K : PySem.W.Frag} {H : Hp} {t : Tg} {v : V} {σ : L2.St} {Q Q' : L2.St → Hp → Prop} (k : ∀ σ H, Q σ H → Q' σ H) (h : t.g K v σ H Q) : t.g K v σ H Q' := by
  cases t with
  | one i => exact k _ _ h
  | tup is =>
    obtain ⟨a, xs, e1, e2, e3, h⟩ := h
    exact ⟨a, xs, e1, e2, e3, gNms_mono k is xs σ H h⟩

/-! ### what a loop walks -/
def Runs (K : PySem.W.Frag) (G : Hp) (J : It) (xs : List P) : Prop := ∀ H', Same G H' → ∀ i, (∀ p, xs[i]? = some p → J.go i H' ∧ ∀ x H'', J.yld i H' x H'' → Same H' H'' ∧ RepP K H'' p x) ∧ (xs.length ≤ i → J.stop i H')
structure Walk (K : PySem.W.Frag) (H0 H : Hp) (J : It) (xs : List P) : Prop where
  ex : ∃ G, Same G H ∧ (∀ a, G a ≠ none → H0 a = none ∨ Fast H a) ∧ Runs K G J xs
/-- the tuples that stand, and what is locked -/
def tupG (H : Hp) : Hp := fun b => match H b with
  | some (.tup xs) => some (.tup xs)
  | some (.frz o u) => some (.frz o u)
  | _ => none
theorem tupG_same (H : Hp) : Same (tupG H) H := fun b o e => by
  unfold tupG at e
  split at e
  · rename_i h; rw [h]; exact e
  · rename_i h; rw [h]; exact e
  · cases e
theorem tupG_rd {H : Hp} {a : Addr} (h : tupG H a ≠ none) : Fast H a := by
  unfold tupG at h
  split at h
  · rename_i xs e; exact .inl ⟨xs, e⟩
  · rename_i o u e; exact .inr ⟨o, u, e⟩
  · exact absurd rfl h
theorem tupG_kt {H H' : Hp} (s : Same (tupG H) H') : KT H H' := ⟨fun a xs h => by
  rcases h with h | ⟨o, h⟩
  · exact .inl (s a _ (by unfold tupG; rw [h]))
  · exact .inr ⟨o, s a _ (by unfold tupG; rw [h])⟩, fun a o u h => s a _ (by unfold tupG; rw [h])⟩
section
variable {K : PySem.W.Frag} {H H0 : Hp}
theorem Walk.range (lo : Int) (n : Nat) : Walk K H0 H (Itr lo n) ((List.range n).map fun (i : Nat) => P.int (lo + (i : Int))) := by
  refine ⟨fun _ => none, (fun _ _ z => by cases z), (fun _ z => absurd rfl z), fun H' _ i => ⟨fun p e => ?_, fun h => (by have h' : n ≤ i := (by simpa using h); exact h')⟩⟩
  simp only [List.getElem?_map, Option.map_eq_some_iff] at e
  obtain ⟨j, ej, rfl⟩ := e
  obtain ⟨hj, ej⟩ := List.getElem?_eq_some_iff.mp ej
  simp at hj ej
  subst ej
  refine ⟨hj, fun x H'' y => ?_⟩
  obtain ⟨rfl, rfl⟩ := y
  exact ⟨Same.refl _, rfl⟩
theorem runs_list {a : Addr} {vs : List V} {xs : List P} (h : H a = some (.lst vs)) (r : RepPs K H xs vs) : ∃ G, Same G H ∧ (∀ b, G b ≠ none → b = a ∨ Fast H b) ∧ Runs K G (Itl K a) xs := by
  refine ⟨upd (tupG H) a (.lst vs), fun b o e => ?_, fun b hb => ?_, fun H' s i => ?_⟩
  · unfold upd at e
    split at e
    · rename_i z; subst z; rw [h]; exact e
    · exact tupG_same H b o e
  · unfold upd at hb
    split at hb
    · rename_i z; exact .inl z
    · exact .inr (tupG_rd hb)
  · have ha : H' a = some (.lst vs) := s a _ upd_same
    have kt : KT H H' := tupG_kt fun b o e => by
      by_cases z : b = a
      · subst z
        have := tupG_same H b o e
        rw [h] at this
        cases this
        exact ha
      · exact s b o (by rw [upd_ne z]; exact e)
    have r' := RepPs.kt kt _ _ r
    refine ⟨fun p ep => ?_, fun hi => ⟨vs, SqL.of ha, by rw [r.len]; exact hi⟩⟩
    obtain ⟨w, e2, q⟩ := r'.get ep
    refine ⟨⟨vs, w, SqL.of ha, e2⟩, fun x H'' y => ?_⟩
    obtain ⟨rfl, y⟩ := y
    have e := y vs (SqL.of ha)
    rw [e] at e2
    obtain rfl := Option.some.inj e2
    exact ⟨Same.refl _, q⟩
theorem Walk.list {a : Addr} {vs : List V} {xs : List P} (h : H a = some (.lst vs)) (h0 : H0 a = none) (r : RepPs K H xs vs) : Walk K H0 H (Itl K a) xs := by
  obtain ⟨G, g1, g2, g3⟩ := runs_list h r
  exact ⟨G, g1, fun b hb => (g2 b hb).imp (fun e => by rw [e]; exact h0) id, g3⟩
theorem Walk.tup {a : Addr} {vs : List V} {xs : List P} (h : SqT K H a vs) (r : RepPs K H xs vs) : Walk K H0 H (Itt K a) xs := by
  refine ⟨tupG H, tupG_same H, fun b hb => .inr (tupG_rd hb), fun H' s i => ?_⟩
  have kt : KT H H' := tupG_kt s
  have ha := kt.sqt h
  have r' := RepPs.kt kt _ _ r
  refine ⟨fun p ep => ?_, fun hi => ⟨vs, ha, by rw [r.len]; exact hi⟩⟩
  obtain ⟨w, e2, q⟩ := r'.get ep
  refine ⟨⟨vs, w, ha, e2⟩, fun x H'' y => ?_⟩
  obtain ⟨rfl, y⟩ := y
  have e := y vs ha
  rw [e] at e2
  obtain rfl := Option.some.inj e2
  exact ⟨Same.refl _, q⟩
def signs (z : Str) : List P := z.cps.toList.map fun c => P.str ⟨#[c]⟩
theorem Walk.str (z : Str) : Walk K H0 H (Its z) (signs z) := by
  refine ⟨fun _ => none, (fun _ _ z => by cases z), (fun _ z => absurd rfl z), fun H' _ i => ⟨fun p e => ?_, fun h => (by have h' : z.cps.size ≤ i := (by simpa [signs] using h); exact h')⟩⟩
  simp only [signs, List.getElem?_map, Option.map_eq_some_iff] at e
  obtain ⟨c, ec, rfl⟩ := e
  rw [Array.getElem?_toList] at ec
  refine ⟨(Array.getElem?_eq_some_iff.mp ec).1, fun x H'' y => ?_⟩
  obtain ⟨rfl, c', e', rfl⟩ := y
  rw [ec] at e'
  obtain rfl := Option.some.inj e'
  exact ⟨Same.refl _, rfl⟩
end

/-! ### loops -/
def gForL (t : Tg) (g : GS) : List P → GS
  | [], δ => .ok (.nx δ)
  | x :: xs, δ => match t.set (.p x) δ with
    | some δ1 => (g δ1).bind fun
      | .nx δ' => gForL t g xs δ'
      | .ct δ' => gForL t g xs δ'
      | .bk δ' => .ok (.nx δ')
      | .ret d => .ok (.ret d)
    | none => .bad
section
variable {c : DC} {B : Hp} {Rg : Rgs c.ex} {G : Hp} {D : Ends} {t : Tg} {g : GS} {J : It}
theorem loop_core {σ0 : L2.St} {H0 : Hp} {δ0 : Sl} {xs : List P} (hG : Same G B) (hR : Runs c.K G J xs) (S0 : SRel c.K B Rg σ0 H0 δ0) (w0 : (gForL t g xs δ0).wp (postF c.K B Rg D) (postE c B Rg)) :
    ∃ W : Nat → Nat → L2.St → Hp → Prop, (∃ m, W 0 m σ0 H0) ∧ ∀ i m σ H, W i m σ H → (J.stop i H ∧ D.nx σ H) ∨
      (J.go i H ∧ ∃ N : L2.St → Hp → Prop, (∀ σ' H', N σ' H' → ∃ m', m' < m ∧ W (i + 1) m' σ' H') ∧ ∀ x H', J.yld i H x H' → t.g c.K x σ H' fun σ2 H2 => tDS c g { D with nx := N, ct := N, bk := D.nx } σ2 H2) := by
  refine ⟨fun i m σ H => m = xs.length - i ∧ i ≤ xs.length ∧ ∃ δ, SRel c.K B Rg σ H δ ∧ (gForL t g (xs.drop i) δ).wp (postF c.K B Rg D) (postE c B Rg), ⟨xs.length, by simp, Nat.zero_le _, δ0, S0, by simpa using w0⟩, ?_⟩
  rintro i m σ H ⟨rfl, hi, δ, S1, w⟩
  obtain ⟨r1, r2⟩ := hR H (hG.trans S1.same) i
  by_cases hlt : i < xs.length
  · have ep := List.getElem?_eq_getElem hlt
    obtain ⟨go, yl⟩ := r1 _ ep
    rw [List.drop_eq_getElem_cons hlt] at w
    refine .inr ⟨go, fun σ H => ∃ δ, SRel c.K B Rg σ H δ ∧ (gForL t g (xs.drop (i + 1)) δ).wp (postF c.K B Rg D) (postE c B Rg), fun σ' H' q => ⟨xs.length - (i + 1), by omega, rfl, hlt, q⟩, fun x H' y => ?_⟩
    obtain ⟨s, rp⟩ := yl x H' y
    unfold gForL at w
    split at w
    · rename_i δ1 e1
      refine Tg.ok S1 s (gp := []) (d := .p xs[i]) ⟨rp, rfl⟩ List.nodup_nil (fun _ z => nomatch z) e1 fun σ' S2 => ?_
      refine ⟨B, Rg, δ1, S2, Rn.wp_mono (Rn.wp_bind.mp w) (fun fl q => ?_) fun _ _ q => q⟩
      cases fl with
      | nx δ' => exact fun σ H S => ⟨δ', S, q⟩
      | ct δ' => exact fun σ H S => ⟨δ', S, q⟩
      | bk δ' => exact q
      | ret d => exact q
    · exact w.elim
  · have hn : xs.length ≤ i := by omega
    rw [List.drop_eq_nil_of_le hn] at w
    exact .inl ⟨r2 hn, w σ H S1⟩
/-- more is held -/
theorem SRel.hold {K : PySem.W.Frag} {σ : L2.St} {H0 H : Hp} {δ : Sl} (S0 : SRel K B Rg σ H0 δ) (s : Same H0 H) (hG : Same G H) (hf : ∀ a, G a ≠ none → H0 a = none ∨ Fast H a ∨ B a ≠ none) :
    ∃ B', Same B B' ∧ Same G B' ∧ SRel K B' Rg σ H δ := by
  have S1 := S0.grow s
  obtain ⟨b0, u0, fp, q0, n, f⟩ := S0
  have q1 := q0.kt (Same.kt s) (fun _ a _ o e => s a o e) (fun a _ o e => s a o e)
  refine ⟨fun a => match G a with | some o => some o | none => B a, fun a o e => ?_, fun a o e => by simp only [e], ⟨fun a o e => ?_, fun t a o e => ?_, fp, q1, n, fun a ha => ?_⟩⟩
  · show (match G a with | some o => some o | none => B a) = some o
    cases z : G a with
    | none => exact e
    | some o' =>
      have h1 := hG a o' z
      have h2 := S1.same a o e
      rw [h1] at h2
      exact h2
  · have e' : (match G a with | some o => some o | none => B a) = some o := e
    cases z : G a with
    | none => rw [z] at e'; exact S1.same a o e'
    | some o' => rw [z] at e'; obtain rfl := Option.some.inj e'; exact hG a _ z
  · show (match G a with | some o => some o | none => B a) = some o
    cases z : G a with
    | none => exact u0 t a o e
    | some o' =>
      have h1 := hG a o' z
      have h2 := S1.same a o (u0 t a o e)
      rw [h1] at h2
      exact h2
  · show (match G a with | some o => some o | none => B a) = none
    cases z : G a with
    | none => exact f a ha
    | some o' =>
      exfalso
      rcases hf a (by rw [z]; exact fun z => nomatch z) with y | y | y
      · exact q0.mem a ha y
      · exact q1.ntup a ha y
      · exact y (f a ha)
theorem SRel.unhold {K : PySem.W.Frag} {B' : Hp} {σ : L2.St} {H : Hp} {δ : Sl} (S : SRel K B' Rg σ H δ) (b : Same B B') (u : ∀ t, Same (Rg t) B) : SRel K B Rg σ H δ := by
  obtain ⟨b1, u1, fp, q, n, f⟩ := S
  exact ⟨b.trans b1, u, fp, q, n, fun a ha => b.free (f a ha)⟩
theorem postF_hold {K : PySem.W.Frag} {B' : Hp} (b : Same B B') (u : ∀ t, Same (Rg t) B) {fl : Fl} (q : postF K B Rg D fl) : postF K B' Rg D fl := by
  cases fl with
  | nx δ => exact fun σ H S => q σ H (S.unhold b u)
  | bk δ => exact fun σ H S => q σ H (S.unhold b u)
  | ct δ => exact fun σ H S => q σ H (S.unhold b u)
  | ret d => exact fun v H' s ⟨fp, r, n, f⟩ => q v H' (b.trans s) ⟨fp, r, n, fun a ha => b.free (f a ha)⟩
theorem postE_hold {B' : Hp} (b : Same B B') (u : ∀ t, Same (Rg t) B) {cl : Str} {δ : Sl} (q : postE c B Rg cl δ) : postE c B' Rg cl δ := fun C σ H e S => q C σ H e (S.unhold b u)
end
/-- what a for or a comprehension walks, as data -/
abbrev GI := Sl → Rn Unit (List P)
def tDI (c : DC) (g : GI) : TI := fun σ H R => ∃ (B : Hp) (Rg : Rgs c.ex) (δ : Sl), SRel c.K B Rg σ H δ ∧
  (g δ).wp (fun xs => ∀ J H', Same H H' → Walk c.K H H' J xs → R J H') fun cl _ => ∀ C H', c.mg cl = some (.ref C) → Same H H' → c.W (.ref C) none σ H'
def DI (W : WX) (X : Cx) (tg iter : Expr) (g : GI) : Prop := PI X tg iter (tDI (dc X W) g)
theorem PI.imp {X : Cx} {tg iter : Expr} {t t' : TI} (h : PI X tg iter t) (m : ∀ σ H R, t' σ H R → t σ H R) : PI X tg iter t' := ⟨fun pins s σ H R I q => h.run pins s σ H R I (m σ H R q)⟩
section
variable {W : WX} {X : Cx} {a b e tg iter : Expr} {es : List Expr} {ga gb gc : GE} {gs : GA} {gt : GT} {gi : GI} {g1 g2 : GS} {st : Stmt} {sts body : List Stmt} {pos p : Pos}
def iSeq (K : PySem.W.Frag) (tl : TE) : TI := fun σ H R => tl σ H fun x H1 => (∃ a, x = .ref a ∧ (∃ xs, SqL K H1 a xs) ∧ R (Itl K a) H1) ∨ (∃ a, x = .ref a ∧ (∃ xs, SqT K H1 a xs) ∧ R (Itt K a) H1) ∨ ∃ z, x = .str z ∧ R (Its z) H1
theorem pi_seq {l : Expr} {tl : TE} (hl : PE X l tl) : PI X tg l (iSeq X.K tl) := by
  refine ⟨fun pins s σ H R I h => ?_⟩
  refine thn (hl.run pins s σ H _ I h) fun v s1 ⟨x, H1, I1, r1, q1⟩ => ?_
  rcases q1 with ⟨a, rfl, ⟨xs, hq⟩, q⟩ | ⟨a, rfl, ⟨xs, hq⟩, q⟩ | ⟨z, rfl, q⟩
  · cases r1
    obtain ⟨its, rv, p, hz⟩ := I1.list hq
    refine wpAny_pyIter_list p.isList ?_
    exact pi_one (tk := s1.toks) I1 _ (turn_list a _) ⟨_, Heap.get?_push_size _ rfl, rfl, rfl⟩ q
  · cases r1
    obtain ⟨its, rv, p, hz⟩ := I1.tuple hq
    refine wpAny_pyIter_tuple (show s1.heap.IsTuple a its.toArray from p) ?_
    exact pi_one (tk := s1.toks) I1 _ (turn_tuple a _) ⟨_, Heap.get?_push_size _ rfl, rfl, rfl⟩ q
  · obtain ⟨t, rfl⟩ := r1
    cases ha : z.cps.all (· < 128)
    · exact wpAny_pyIter_wide ha (pi_one (tk := s1.toks) I1 _ (turn_str _ z t "str_iterator" (.inr rfl)) ⟨_, Heap.get?_push_size _ rfl, rfl, rfl⟩ q)
    · exact wpAny_pyIter_ascii ha (pi_one (tk := s1.toks) I1 _ (turn_str _ z t "str_ascii_iterator" (.inl rfl)) ⟨_, Heap.get?_push_size _ rfl, rfl, rfl⟩ q)
def R.items : R → Option (List P)
  | .own (.p (.tup xs)) => some xs
  | .vw (.p (.tup xs)) => some xs
  | .own (.p (.str z)) => some (signs z)
  | .vw (.p (.str z)) => some (signs z)
  | .own (.lst xs) => some xs
  | _ => none
def gSeqI (ga : GE) : GI := fun δ => (ga δ).bind fun r => match r.items with
  | some xs => .ok xs
  | none => .bad
theorem di_seq (ha : DE W X e ga) : DI W X tg e (gSeqI ga) := by
  refine PI.imp (pi_seq ha) fun σ H Rk ⟨B, Rg, δ, S0, w⟩ => ?_
  refine ⟨B, Rg, δ, S0, Rn.wp_mono (Rn.wp_bind.mp w) (fun r q v H1 s1 rv => ?_) fun _ _ q => q⟩
  split at q
  · rename_i xs e
    unfold R.items at e
    split at e
    · obtain rfl := Option.some.inj e
      obtain ⟨a, vs, rfl, qa, ra⟩ := rv.getP rfl
      exact .inr (.inl ⟨a, rfl, ⟨vs, qa⟩, q _ H1 s1 (.tup qa ra)⟩)
    · obtain rfl := Option.some.inj e
      obtain ⟨a, vs, rfl, qa, ra⟩ := rv.getP rfl
      exact .inr (.inl ⟨a, rfl, ⟨vs, qa⟩, q _ H1 s1 (.tup qa ra)⟩)
    · rename_i z
      obtain rfl := Option.some.inj e
      obtain rfl : v = .str z := rv.getP rfl
      exact .inr (.inr ⟨z, rfl, q _ H1 s1 (.str z)⟩)
    · rename_i z
      obtain rfl := Option.some.inj e
      obtain rfl : v = .str z := rv.getP rfl
      exact .inr (.inr ⟨z, rfl, q _ H1 s1 (.str z)⟩)
    · obtain rfl := Option.some.inj e
      obtain ⟨fp, ⟨a, vs, rfl, qa, rfl, ra⟩, n, f⟩ := rv
      exact .inl ⟨a, rfl, ⟨vs, SqL.of qa⟩, q _ H1 s1 (.list qa (f a (by simp)) ra)⟩
    · cases e
  · exact q.elim
def rangeP (lo hi : Int) : List P := (List.range (hi - lo).toNat).map fun (i : Nat) => P.int (lo + (i : Int))
def fRange1 : List D → Rn Unit (List P)
  | [.p (.int j)] => if -(2 ^ 62) ≤ j ∧ j < 2 ^ 62 then .ok (rangeP 0 j) else .bad
  | _ => .bad
def fRange2 : List D → Rn Unit (List P)
  | [.p (.int i), .p (.int j)] => if -(2 ^ 62) ≤ i ∧ i < 2 ^ 62 ∧ -(2 ^ 62) ≤ j ∧ j < 2 ^ 62 then .ok (rangeP i j) else .bad
  | _ => .bad
def gRangeI (f : List D → Rn Unit (List P)) (gs : GA) : GI := fun δ => (gs δ).bind fun rs => f (rs.map R.d)
theorem di_range1 (hm : X.mg "range" = none) (ha : DA W X [a] gs) (hg : Gl X "range" := by rfl) (hs : starEach [a] X.env = [(false, eval a X.env)] := by rfl) : DI W X tg (.Call (.Name "range" p) [a] [] pos) (gRangeI fRange1 gs) := by
  refine PI.imp (pi_range1 hg hm ha hs) fun σ H Rk ⟨B, Rg, δ, S0, w⟩ => ?_
  refine ⟨B, Rg, δ, S0, Rn.wp_mono (Rn.wp_bind.mp w) (fun rs q vs H1 s1 ra => ?_) fun _ _ q => q⟩
  obtain ⟨fp, r, _⟩ := ra
  have lk := r.look
  generalize rs.map R.d = ds at lk q
  unfold fRange1 at q
  split at q
  · rename_i j
    obtain ⟨v, fp1, rfl, rr⟩ := lk.one
    obtain rfl : v = .int j := rr.1
    split at q
    · rename_i hz
      refine ⟨j, rfl, hz.1, hz.2, q _ H1 s1 ?_⟩
      have := Walk.range (K := X.K) (H0 := H) (H := H1) 0 j.toNat
      unfold rangeP
      rw [Int.sub_zero]
      exact this
    · exact q.elim
  · exact q.elim
theorem di_range2 (hm : X.mg "range" = none) (ha : DA W X [a, b] gs) (hg : Gl X "range" := by rfl) (hs : starEach [a, b] X.env = [(false, eval a X.env), (false, eval b X.env)] := by rfl) (hs2 : starEach [b] X.env = [(false, eval b X.env)] := by rfl) : DI W X tg (.Call (.Name "range" p) [a, b] [] pos) (gRangeI fRange2 gs) := by
  refine PI.imp (pi_range2 hg hm ha hs hs2) fun σ H Rk ⟨B, Rg, δ, S0, w⟩ => ?_
  refine ⟨B, Rg, δ, S0, Rn.wp_mono (Rn.wp_bind.mp w) (fun rs q vs H1 s1 ra => ?_) fun _ _ q => q⟩
  obtain ⟨fp, r, _⟩ := ra
  have lk := r.look
  generalize rs.map R.d = ds at lk q
  unfold fRange2 at q
  split at q
  · rename_i i j
    obtain ⟨v, u, fp1, gp, rfl, rr, rr'⟩ := lk.two
    obtain rfl : v = .int i := rr.1
    obtain rfl : u = .int j := rr'.1
    split at q
    · rename_i hz
      exact ⟨i, j, rfl, hz, q _ H1 s1 (Walk.range _ _)⟩
    · exact q.elim
  · exact q.elim
/-- for t in iter: body -/
def gFor (t : Tg) (gi : GI) (g : GS) : GS := fun δ => (lift (gi δ) δ).bind fun xs => gForL t g xs δ
theorem ds_for {t : Tg} (hp : PassesOwn (model X.prog X.w) X.A X.env X.xe) (hc : X.calm = true) (hi : DI W X tg iter gi) (hg : PG X tg (t.g X.K)) (hb : DSs W X body g1)
    (hs : ∀ x, foldedSetIterable iter X.env x = pure x := by intro _; rfl) : DS W X (.For tg iter body [] pos) (gFor t gi g1) := by
  refine PS.imp (ps_for hp hc hi hg hb hs) fun D σ H ⟨B, Rg, δ, S0, w⟩ => ?_
  refine ⟨B, Rg, δ, S0, Rn.wp_mono (Rn.wp_mapErr.mp (Rn.wp_bind.mp w)) (fun xs q J H1 s1 wk => ?_) fun cl _ q C H' e s => q C σ H' e (S0.grow s)⟩
  obtain ⟨G, hG, hf, hR⟩ := wk.ex
  obtain ⟨B', b1, b2, S1⟩ := S0.hold s1 hG (fun a ha => (hf a ha).imp id .inl)
  exact loop_core b2 hR S1 (Rn.wp_mono q (fun fl q => postF_hold b1 S0.sub q) fun cl δ q => postE_hold b1 S0.sub q)
end
end DL
/-! DLi: comprehensions; append, stores to places; unpacking; while; raise; defs and their calls. -/
namespace DL
open PySem PySem.Spec PyProof.Rows L2

/-! ### comprehensions -/
def Rn.noErr {α : Type} : Rn Unit α → Rn Unit α
  | .ok a => .ok a
  | .err _ _ => .bad
  | .bad => .bad
  | .pick n k => .pick n fun i => (k i).noErr
theorem Rn.wp_noErr {α : Type} {w : Rn Unit α} {Q : α → Prop} {E E' : Str → Unit → Prop} (h : w.noErr.wp Q E) : w.wp Q E' := by
  induction w with
  | ok a => exact h
  | err c e => exact h.elim
  | bad => exact h
  | pick n k ih => exact fun i hi => ih i (h i hi)
def wipeS (δ : Sl) : List Nat → Sl
  | [] => δ
  | v :: vs => (wipeS δ vs).set v .no
def Tg.idx : Tg → List Nat
  | .one i => [i]
  | .tup is => is
/-- the items of [elt for t in xs if test] -/
def lcL (t : Tg) (gt : GT) (ge : GE) (δ : Sl) : List P → List P → Rn Unit (List P)
  | [], acc => .ok acc
  | x :: xs, acc => match t.set (.p x) δ with
    | some δ1 => (gt δ1).noErr.bind fun k => if k = true then (ge δ1).noErr.bind fun r => match r.d with
        | .p y => if acc.length < sizeLine then lcL t gt ge δ xs (acc ++ [y]) else .bad
        | _ => .bad
      else lcL t gt ge δ xs acc
    | none => .bad
def gLc (t : Tg) (vs : List Nat) (gi : GI) (gt : GT) (ge : GE) : GE := fun δ => (gi δ).bind fun xs => (lcL t gt ge (wipeS δ vs) xs []).bind fun ys => .ok (.own (.lst ys))
def W0 : WX := fun _ _ _ _ => False
section
variable {K : PySem.W.Frag} {B H H' : Hp} {ex : Option Addr} {Rg : Rgs ex}
theorem SRel.drop1 {σ : L2.St} {δ : Sl} (S0 : SRel K B Rg σ H δ) (i : Nat) : SRel K B Rg σ H (δ.set i .no) := by
  obtain ⟨b, u, fp, q, n, f⟩ := S0
  obtain ⟨fp', q1, q2, q3⟩ := SlotsR.drop1 i q n
  exact ⟨b, u, fp', q1, q2, fun a ha => f a (q3 a ha)⟩
theorem SlotsR.wipe1 : ∀ {δ : Sl} {σ : L2.St} {fp : List Addr} (i : Nat) {v : Option V}, SlotsR K Rg H δ σ fp → fp.Nodup → ∃ fp', SlotsR K Rg H (δ.set i .no) (σ.set i v) fp' ∧ fp'.Nodup ∧ ∀ a ∈ fp', a ∈ fp
  | [], σ, _, i, v, h, n => ⟨_, by obtain ⟨rfl, rfl⟩ := h; exact ⟨rfl, rfl⟩, n, fun _ z => z⟩
  | s :: δ, _, _, 0, v, h, n => by
    obtain ⟨ov, r, f, g, rfl, rfl, h1, h2⟩ := h
    rw [List.nodup_append] at n
    exact ⟨g, ⟨v, r, [], g, rfl, rfl, rfl, h2⟩, n.2.1, fun a ha => by simp [ha]⟩
  | s :: δ, _, _, i + 1, v, h, n => by
    obtain ⟨ov, r, f, g, rfl, rfl, h1, h2⟩ := h
    rw [List.nodup_append] at n
    obtain ⟨fp', q1, q2, q3⟩ := SlotsR.wipe1 i (v := v) h2 n.2.1
    refine ⟨f ++ fp', ⟨ov, r.set i v, f, fp', rfl, rfl, h1, q1⟩, ?_, fun a ha => ?_⟩
    · rw [List.nodup_append]
      exact ⟨n.1, q2, fun a ha b hb e => n.2.2 a ha b (q3 b hb) e⟩
    · rcases List.mem_append.mp ha with z | z
      · simp [z]
      · simp [q3 a z]
theorem SRel.wipe {σ : L2.St} {δ : Sl} (S0 : SRel K B Rg σ H δ) : ∀ vs : List Nat, SRel K B Rg (L2.wipe σ vs) H (wipeS δ vs)
  | [] => S0
  | v :: vs => by
    obtain ⟨b, u, fp, q, n, f⟩ := SRel.wipe S0 vs
    obtain ⟨fp', q1, q2, q3⟩ := SlotsR.wipe1 v (v := none) q n
    exact ⟨b, u, fp', q1, q2, fun a ha => f a (q3 a ha)⟩
theorem wipe_set (σ : L2.St) (v : Option V) (i : Nat) : ∀ vs : List Nat, i ∈ vs → L2.wipe (σ.set i v) vs = L2.wipe σ vs
  | [], h => by cases h
  | w :: vs, h => by
    show (L2.wipe (σ.set i v) vs).set w none = (L2.wipe σ vs).set w none
    have com : ∀ (us : List Nat) (τ : L2.St), i ∉ us → L2.wipe (τ.set i v) us = (L2.wipe τ us).set i v := by
      intro us
      induction us with
      | nil => intro τ _; rfl
      | cons u us ih =>
        intro τ hu
        show (L2.wipe (τ.set i v) us).set u none = ((L2.wipe τ us).set u none).set i v
        rw [ih τ (fun z => hu (by simp [z])), List.set_comm _ _ (fun z => hu (by simp [z]))]
    by_cases hm : i ∈ vs
    · rw [wipe_set σ v i vs hm]
    · have e : i = w := by
        rcases List.mem_cons.mp h with z | z
        · exact z
        · exact absurd z hm
      subst e
      rw [com vs σ hm, List.set_set]
theorem wipe_wipe (σ : L2.St) : ∀ vs : List Nat, L2.wipe (L2.wipe σ vs) vs = L2.wipe σ vs := by
  intro vs
  have gen : ∀ (us vs : List Nat), (∀ u ∈ us, u ∈ vs) → L2.wipe (L2.wipe σ us) vs = L2.wipe σ vs := by
    intro us
    induction us with
    | nil => intro vs _; rfl
    | cons u us ih =>
      intro vs h
      show L2.wipe ((L2.wipe σ us).set u none) vs = _
      rw [wipe_set _ _ _ vs (h u (by simp)), ih vs fun w hw => h w (by simp [hw])]
  exact gen vs vs fun _ h => h
/-- the heap without D -/
def cutH (H : Hp) (D : Addr) : Hp := fun b => if b = D then none else H b
theorem cutH_same (H : Hp) (D : Addr) : Same (cutH H D) H := fun b o e => by
  unfold cutH at e
  split at e
  · cases e
  · exact e
theorem cutH_mono {H H' : Hp} (s : Same H H') (D : Addr) : Same (cutH H D) (cutH H' D) := fun b o e => by
  unfold cutH at e ⊢
  split at e
  · cases e
  · rename_i h; rw [if_neg h]; exact s b o e
theorem cutH_upd {H : Hp} {D : Addr} {o : HO} : cutH (upd H D o) D = cutH H D := by
  funext b
  unfold cutH
  split
  · rfl
  · rename_i h; rw [upd_ne h]
/-- the slots behind a target's store are forgotten -/
theorem gNms_wipe (vs : List Nat) : ∀ (is : List Nat) (ws : List V) (σ : L2.St) (H : Hp) (Q : L2.St → Hp → Prop), (∀ i ∈ is, i ∈ vs) → gNms is ws σ H Q → gNms is ws σ H fun σ' H' => L2.wipe σ' vs = L2.wipe σ vs ∧ Q σ' H'
  | [], ws, σ, H, Q, _, h => ⟨h.1, rfl, h.2⟩
  | i :: is, ws, σ, H, Q, hi, h => by
    obtain ⟨v, r, e, h⟩ := h
    refine ⟨v, r, e, ?_⟩
    have := gNms_wipe vs is r (σ.set i (some v)) H Q (fun j hj => hi j (by simp [hj])) h
    rw [wipe_set σ (some v) i vs (hi i (by simp))] at this
    exact this
theorem Tg.g_wipe {t : Tg} {vs : List Nat} {v : V} {σ : L2.St} {Q : L2.St → Hp → Prop} (ht : ∀ i ∈ t.idx, i ∈ vs) (h : t.g K v σ H Q) : t.g K v σ H fun σ' H' => L2.wipe σ' vs = L2.wipe σ vs ∧ Q σ' H' := by
  cases t with
  | one i => exact ⟨wipe_set σ (some v) i vs (ht i (by simp [Tg.idx])), h⟩
  | tup is =>
    obtain ⟨a, xs, e1, e2, e3, h⟩ := h
    exact ⟨a, xs, e1, e2, e3, gNms_wipe vs is xs σ H Q ht h⟩
end
section
variable {W : WX} {X : Cx} {e elt tg iter : Expr} {ifs : List Expr} {gi : GI} {gt : GT} {ge : GE} {scope : Scope} {own : List (Str × Nat)} {pos : Pos}
/-- the context of a block -/
abbrev dc0 (X : Cx) : DC := ⟨X.K, X.mg, W0, none⟩
theorem lc_of {t : Tg} {vs : List Nat} (hcal : X.calm = true) (ht : ∀ i ∈ t.idx, i ∈ vs) (σ : L2.St) (H : Hp) (Q : VK) (h : tD (dc X W) (gLc t vs gi gt ge) σ H Q) :
    tLc (tDI (dc X W) gi) (t.g X.K) (tDT (dc0 X) gt) (tD (dc0 X) ge) vs σ H Q := by
  rw [dc_calm hcal] at h ⊢
  obtain ⟨B, Rg, δ, S0, w⟩ := h
  refine ⟨B, Rg, δ, S0, Rn.wp_mono (Rn.wp_bind.mp w) (fun xs q J H1 s1 wk => ?_) fun _ _ q => q⟩
  intro Dp hD
  obtain ⟨G, hG, hf, hR⟩ := wk.ex
  obtain ⟨B', b1, b2, S1⟩ := S0.hold s1 hG (fun a ha => (hf a ha).imp id .inl)
  have S2 := S1.wipe vs
  have c1 : cutH H1 Dp = H1 := by
    funext b
    unfold cutH
    split
    · rename_i z; subst z; exact hD.symm
    · rfl
  refine ⟨fun i m H' => m = xs.length - i ∧ i ≤ xs.length ∧ ∃ acc vacc, H' Dp = some (.lst vacc) ∧ RepPs X.K H' acc vacc ∧ Same H1 (cutH H' Dp) ∧ SRel X.K B' Rg (L2.wipe σ vs) (cutH H' Dp) (wipeS δ vs) ∧
    ((lcL t gt ge (wipeS δ vs) (xs.drop i) acc).bind fun ys => .ok (.own (.lst ys))).wp (fun r => ∀ v H', Same H H' → RepR X.K H H' r v → Q v H') (fun cl _ => ∀ C H', X.mg cl = some (.ref C) → Same H H' → W (.ref C) none σ H'),
    ⟨xs.length, by simp, Nat.zero_le _, [], [], upd_same, rfl, by rw [cutH_upd, c1]; exact Same.refl _, by rw [cutH_upd, c1]; exact S2, by simpa using q⟩, ?_⟩
  rintro i m H2 ⟨rfl, hi, acc, vacc, eD, ra, sm, S3, w3⟩
  have S4 := S3.grow (cutH_same H2 Dp)
  have s02 : Same H H2 := s1.trans (sm.trans (cutH_same H2 Dp))
  obtain ⟨r1, r2⟩ := hR H2 (b2.trans S4.same) i
  by_cases hlt : i < xs.length
  · have ep := List.getElem?_eq_getElem hlt
    obtain ⟨go, yl⟩ := r1 _ ep
    rw [List.drop_eq_getElem_cons hlt] at w3
    refine .inr ⟨go, fun H' => ∃ acc vacc, H' Dp = some (.lst vacc) ∧ RepPs X.K H' acc vacc ∧ Same H1 (cutH H' Dp) ∧ SRel X.K B' Rg (L2.wipe σ vs) (cutH H' Dp) (wipeS δ vs) ∧
      ((lcL t gt ge (wipeS δ vs) (xs.drop (i + 1)) acc).bind fun ys => .ok (.own (.lst ys))).wp (fun r => ∀ v H', Same H H' → RepR X.K H H' r v → Q v H') (fun cl _ => ∀ C H', X.mg cl = some (.ref C) → Same H H' → W (.ref C) none σ H'),
      fun H' q => ⟨xs.length - (i + 1), by omega, rfl, hlt, q⟩, fun x H3 y => ?_⟩
    obtain ⟨s3, rp⟩ := yl x H3 y
    unfold lcL at w3
    split at w3
    · rename_i δ1 e1
      have gw := Tg.ok (K := X.K) (t := t) (d := .p xs[i]) (v := x) (gp := []) (Q := fun σ' H' => H' = H3 ∧ SRel X.K B' Rg σ' H3 δ1) S4 s3 ⟨rp, rfl⟩ List.nodup_nil (fun _ z => nomatch z) e1 fun σ' S5 => ⟨rfl, S5⟩
      have gw2 := Tg.g_wipe (vs := vs) ht gw
      refine Tg.g_mono (fun σ2 H2' ⟨ew, eh, S5⟩ => ?_) gw2
      subst eh
      refine ⟨by rw [ew, wipe_wipe], ?_⟩
      refine ⟨B', Rg, δ1, S5, Rn.wp_noErr (Rn.wp_mono (Rn.wp_bind.mp (Rn.wp_bind.mp w3)) (fun k q H4 s4 => ?_) fun _ _ q => q)⟩
      have S6 := S5.grow s4
      have s24 := s3.trans s4
      have eD4 : H4 Dp = some (.lst vacc) := s24 _ _ eD
      have smm : Same H1 (cutH H4 Dp) := sm.trans (cutH_mono s24 Dp)
      dsimp only
      cases k with
      | false =>
        rw [if_neg (by decide)] at q ⊢
        exact ⟨acc, vacc, eD4, RepPs.kt (Same.kt s24) _ _ ra, smm, S3.grow (cutH_mono s24 Dp), Rn.wp_bind.mpr q⟩
      | true =>
        rw [if_pos rfl] at q ⊢
        refine ⟨B', Rg, δ1, S6, Rn.wp_noErr (Rn.wp_mono (Rn.wp_bind.mp q) (fun r q v H5 s5 rv => ?_) fun _ _ q => q)⟩
        have s25 := s24.trans s5
        split at q
        · rename_i y ey
          split at q
          · rename_i hz
            have ry := rv.getP ey
            have ra5 := RepPs.kt (Same.kt s25) _ _ ra
            have kt5 : KT H5 (upd H5 Dp (.lst (vacc ++ [v]))) := KT.upd (s25 _ _ eD) trivial
            refine ⟨vacc, s25 _ _ eD, by rw [ra.len]; exact hz, acc ++ [y], vacc ++ [v], upd_same, RepPs.kt kt5 _ _ (RepPs.append (show RepPs X.K H5 [y] [v] from ⟨v, [], rfl, ry, rfl⟩) ra5), ?_, ?_, Rn.wp_bind.mpr q⟩
            · rw [cutH_upd]; exact sm.trans (cutH_mono s25 Dp)
            · rw [cutH_upd]; exact S3.grow (cutH_mono s25 Dp)
          · exact q.elim
        · exact q.elim
    · exact w3.elim
  · have hn : xs.length ≤ i := by omega
    rw [List.drop_eq_nil_of_le hn] at w3
    refine .inl ⟨r2 hn, w3 (.ref Dp) H2 s02 ⟨[Dp], ⟨Dp, vacc, rfl, eD, rfl, ra⟩, by simp, fun b hb => ?_⟩⟩
    obtain rfl : b = Dp := by simpa using hb
    exact s1.free hD
def DTs (W : WX) (X : Cx) (ifs : List Expr) (g : GT) : Prop := PTs X ifs (tDT (dc X W) g)
def gYes : GT := fun _ => .ok true
theorem dts_nil : DTs W X [] gYes := ⟨fun pins s σ H Q I ⟨B, Rg, δ, S0, w⟩ => pts_nil.run pins s σ H Q I (w H (Same.refl H))⟩
theorem dts_one (h : DT W X e gt) : DTs W X [e] gt := pts_one h
theorem de_lc {t : Tg} (hc : X.calm = true) (hN : X.N.Nodup) (hi : DI W X tg iter gi) (ok : BlkOk X.N X.env.scope scope own)
    (hg : ∀ (s : Shared) (H : Hp) (C : Addr) (cl : List (Str × Addr)) (fp : List Addr), PG (X.blk s H scope (compEnvC scope cl C X.env) fp) tg (t.g X.K))
    (ht : ∀ (s : Shared) (H : Hp) (C : Addr) (cl : List (Str × Addr)) (fp : List Addr), DTs W0 (X.blk s H scope (compEnvC scope cl C X.env) fp) ifs gt)
    (he : ∀ (s : Shared) (H : Hp) (C : Addr) (cl : List (Str × Addr)) (fp : List Addr), DE W0 (X.blk s H scope (compEnvC scope cl C X.env) fp) elt ge)
    (hx : ∀ i ∈ t.idx, i ∈ own.map (·.2) := by decide) (hs : ∀ x, foldedSetIterable iter X.env x = pure x := by intro _; rfl) :
    DE W X (.ListComp elt [⟨tg, iter, ifs, 0⟩] scope pos) (gLc t (own.map (·.2)) gi gt ge) :=
  PE.imp (pe_lc (tt := tDT (dc0 X) gt) (te := tD (dc0 X) ge) hc hN hi ok hg ht he hs) (lc_of hc hx)
theorem ds_setLc {i : Nat} {y : Str} {py spos : Pos} {t : Tg} (hc : X.calm = true) (hN : X.N.Nodup) (hy : X.N[i]? = some y) (hyl : X.env.scope.names.lookup y = some .local)
    (hsw : swapsWith (.ListComp elt [⟨tg, iter, ifs, 0⟩] scope pos) (some (.Name y py)) spos.line X.env = pure true) (hi : DI W X tg iter gi) (ok : BlkOk X.N X.env.scope scope own)
    (hg : ∀ (s : Shared) (H : Hp) (C : Addr) (cl : List (Str × Addr)) (fp : List Addr), PG (X.blk s H scope (compEnvC scope cl C X.env) fp) tg (t.g X.K))
    (ht : ∀ (s : Shared) (H : Hp) (C : Addr) (cl : List (Str × Addr)) (fp : List Addr), DTs W0 (X.blk s H scope (compEnvC scope cl C X.env) fp) ifs gt)
    (he : ∀ (s : Shared) (H : Hp) (C : Addr) (cl : List (Str × Addr)) (fp : List Addr), DE W0 (X.blk s H scope (compEnvC scope cl C X.env) fp) elt ge)
    (hx : ∀ i ∈ t.idx, i ∈ own.map (·.2) := by decide) (hs : ∀ x, foldedSetIterable iter X.env x = pure x := by intro _; rfl) :
    DS W X (.Assign [.Name y py] (.ListComp elt [⟨tg, iter, ifs, 0⟩] scope pos) spos) (gSet i (gLc t (own.map (·.2)) gi gt ge)) := by
  refine PS.imp (ps_setLc (tt := tDT (dc0 X) gt) (te := tD (dc0 X) ge) hc hN hy hyl hsw hi ok hg ht he hs) fun D σ H ⟨B, Rg, δ, S0, w⟩ => ?_
  refine lc_of hc hx σ H _ ?_
  refine tDS_val S0 w fun r v H1 s1 rv S1 q => ?_
  cases r with
  | own d =>
    obtain ⟨fp, q1, n, f⟩ := rv
    exact q _ _ (S0.set s1 q1 n f)
  | vw d => exact q.elim
end
end DL
/-! DLj: append, stores to places, unpacking, while, raise, defs and their calls. -/
namespace DL
open PySem PySem.Spec PyProof.Rows L2

/-! ### defs and calls -/
/-- a def as a function of data -/
abbrev Fn := List D → Rn Unit D
def startS (n : Nat) (ds : List D) : Sl := ds.map (S.bor none) ++ List.replicate (n - ds.length) S.no
def fnD (n : Nat) (g : GS) : Fn := fun ds => ((g (startS n ds)).mapErr fun _ => ()).bind fun
  | .ret d => .ok d
  | .nx _ => .ok (.p .non)
  | _ => .bad
/-- what a def promises -/
def spD (K : PySem.W.Frag) (mg : Str → Option Value) (n : Nat) (f : Fn) : Sp := fun vs H Q E => ∃ ds : List D, ds.length = n ∧ LookL K H ds vs ∧
  (f ds).wp (fun d => postR K H d Q) fun cl _ => ∀ C H', mg cl = some (.ref C) → Same H H' → E (.ref C) none H'
theorem LookL.len {K : PySem.W.Frag} {H : Hp} : ∀ {ds : List D} {vs : List V}, LookL K H ds vs → vs.length = ds.length
  | [], vs, h => by
    obtain rfl : vs = [] := h
    rfl
  | d :: ds, vs, h => by
    obtain ⟨v, r, rfl, _, h2⟩ := h
    simp [LookL.len h2]
theorem start_slots {K : PySem.W.Frag} {H : Hp} : ∀ {ds : List D} {vs : List V} (m : Nat), LookL K H ds vs → SlotsR K (ex := none) (fun t => if t = none then H else fun _ => none) H (ds.map (S.bor none) ++ List.replicate m S.no) (vs.map some ++ List.replicate m none) []
  | [], vs, m, h => by
    obtain rfl : vs = [] := h
    show SlotsR K _ H (List.replicate m S.no) (List.replicate m none) []
    induction m with
    | zero => exact ⟨rfl, rfl⟩
    | succ m ih => exact ⟨none, List.replicate m none, [], [], rfl, rfl, rfl, ih⟩
  | d :: ds, vs, m, h => by
    obtain ⟨v, r, rfl, ⟨g, q⟩, h2⟩ := h
    refine ⟨some v, r.map some ++ List.replicate m none, [], [], rfl, rfl, ⟨rfl, v, g, rfl, q, fun a ha => ?_⟩, start_slots m h2⟩
    show (if (none : Option Nat) = none then H else fun _ => none) a ≠ none
    rw [if_pos rfl]
    exact q.mem a ha
section
variable {P : Program} {w : World} {K : PySem.W.Frag} {mg : Str → Option Value} {base : Heap}
/-- a def keeps its promise -/
theorem fn_ok {x qual : Str} {st : Stmt} {f : Addr} {fd : FuncData} {N ps : List Str} {k : Nat} {g : GS} (F : Fun K x qual st f fd) (S : FnScope N ps (defScope st))
    (hb : ∀ (cdv : Value) (A : Around) (outer : List Env) (s : Shared) (H : Hp) (E : XK), Room k (A.deeper (envOfC qual (defScope st) s.heap.objs.size f cdv)) →
      DSs (fun cls d _ H => E cls d H) (cxOf (L2.CX P w) P w K mg base N qual (defScope st) f cdv A outer s H E) (defBody st) g) :
    FnOk P w K mg base (L2.CX P w) (k + 1) f fd ps (spD K mg ps.length (fnD N.length g)) := by
  refine F.okX S (fun vs H Q E ⟨ds, hl, lk, _⟩ => by rw [lk.len, hl]) fun cdv A outer s H vs Q E hr ⟨ds, hl, lk, w0⟩ => ⟨_, hb cdv A outer s H E hr, ?_⟩
  refine ⟨H, fun t => if t = none then H else fun _ => none, startS N.length ds, ⟨Same.refl H, fun t => ?_, [], ?_, List.nodup_nil, fun _ z => nomatch z⟩, ?_⟩
  · by_cases e : t = none
    · rw [if_pos e]; exact Same.refl H
    · rw [if_neg e]; exact fun _ _ z => nomatch z
  · have := start_slots (N.length - ds.length) lk
    unfold L2.start startS
    rw [lk.len]
    exact this
  · refine Rn.wp_mono (Rn.wp_mapErr.mp (Rn.wp_bind.mp w0)) (fun fl q => ?_) fun cl δ q C σ H' e S => q C H' e S.same
    cases fl with
    | ret d => exact q
    | nx δ => exact fun σ H' S => q .non H' S.same ⟨[], ⟨rfl, rfl⟩, List.nodup_nil, fun _ z => nomatch z⟩
    | bk δ => exact q.elim
    | ct δ => exact q.elim
end
/-- a def as its callers see it -/
structure FD (P : Program) (w : World) (K : PySem.W.Frag) (mg : Str → Option Value) (base : Heap) (k : Nat) (x : Str) (n : Nat) (f : Fn) : Prop where
  ex : ∃ (a : Addr) (fd : FuncData) (ps : List Str), mg x = some (.ref a) ∧ PySem.W.keepIn K (.ref a) = true ∧ Binds K fd ps [] ∧ FnOk P w K mg base (L2.CX P w) k a fd ps (spD K mg n f)
def gFn (n : Nat) (f : Fn) (gs : GA) : GE := fun δ => (gs δ).bind fun rs => if rs.length = n then (f (rs.map R.d)).bind fun d => .ok (.own d) else .bad
section
variable {W : WX} {X : Cx} {a b e tg iter : Expr} {es : List Expr} {ga gb gc : GE} {gs : GA} {gt : GT} {gi : GI} {g1 g2 : GS} {st : Stmt} {sts body : List Stmt} {pos p : Pos}
theorem de_call {x : Str} {k n : Nat} {f : Fn} (F : FD X.prog X.w X.K X.mg X.base k x n f) (hr : Room k X.A) (tk : Takes X W) (ha : DA W X (e :: es) gs)
    (hg : Gl X x := by rfl) (hdb : (x == ("__debug__" : Str)) = false := by decide) (he : starEach (e :: es) X.env = (false, eval e X.env) :: starEach es X.env := by rfl) (hpl : (backTo pos (starEach es X.env)).any (·.1) = false := by rfl) :
    DE W X (.Call (.Name x p) (e :: es) [] pos) (gFn n f gs) := by
  obtain ⟨a, fd, ps, hm, hk, hb, G⟩ := F.ex
  refine PE.imp (pe_callS G hr hg hm hk hb (fun σ => passAt tk σ) ha hdb he hpl) fun σ H Q ⟨B, Rg, δ, S0, w⟩ => ?_
  refine ⟨B, Rg, δ, S0, Rn.wp_mono (Rn.wp_bind.mp w) (fun rs q vs H1 s1 ra => ?_) fun _ _ q => q⟩
  obtain ⟨fp, r, _⟩ := ra
  split at q
  · rename_i hl
    exact ⟨rs.map R.d, by simpa using hl, r.look, Rn.wp_mono (Rn.wp_bind.mp q) (fun d q v H2 s2 ⟨fp, q1, n1, f1⟩ => q v H2 (s1.trans s2) ⟨fp, q1, n1, fun a ha => s1.free (f1 a ha)⟩) fun cl _ q C H' e s => q C H' e (s1.trans s)⟩
  · exact q.elim

/-! ### append, stores to places -/
def fApp : D → R → Option D
  | .lst xs, .own (.p x) => if xs.length < sizeLine then some (.lst (xs ++ [x])) else none
  | .lst xs, .vw (.p x) => if xs.length < sizeLine then some (.lst (xs ++ [x])) else none
  | .lst [], .own d => some (.ls [d])
  | .ls xs, .own d => if xs.length < sizeLine then some (.ls (xs ++ [d])) else none
  | _, _ => none
def D.isL : D → Bool
  | .lst _ => true
  | .ls _ => true
  | _ => false
def gApp (i : Nat) (ga : GE) : GS := fun δ => match δ[i]? with
  | some (.own d) => if d.isL = true then (lift (ga δ) δ).bind fun r => match fApp d r with
    | some d' => .ok (.nx (δ.set i (.own d')))
    | none => .bad else .bad
  | _ => .bad
theorem RepDs.append {K : PySem.W.Frag} {H : Hp} {ys : List D} {us : List V} {gp : List Addr} (hy : RepDs K H ys us gp) : ∀ {xs : List D} {vs : List V} {fp : List Addr}, RepDs K H xs vs fp → RepDs K H (xs ++ ys) (vs ++ us) (fp ++ gp)
  | [], _, _, h => by
    obtain ⟨rfl, rfl⟩ := h
    exact hy
  | x :: xs, _, _, h => by
    obtain ⟨v, r, f, g, rfl, rfl, h1, h2⟩ := h
    exact ⟨v, r ++ us, f, g ++ gp, rfl, by simp, h1, RepDs.append hy h2⟩
theorem fApp_ok {K : PySem.W.Frag} {H0 H : Hp} {d d' : D} {v u : V} {f : List Addr} {r : R} (rd : RepD K H d v f) (nf : f.Nodup) (hf : ∀ a ∈ f, H0 a ≠ none) (ru : RepR K H0 H r u) (e : fApp d r = some d') :
    ∃ a vs, v = .ref a ∧ a ∈ f ∧ H a = some (.lst vs) ∧ vs.length < sizeLine ∧ ∃ f', RepD K (upd H a (.lst (vs ++ [u]))) d' v f' ∧ f'.Nodup ∧ ∀ b ∈ f', b ∈ f ∨ H0 b = none := by
  unfold fApp at e
  have one : ∀ {xs : List P} {x : P}, RepD K H (.lst xs) v f → RepP K H x u → (if xs.length < sizeLine then some (D.lst (xs ++ [x])) else none) = some d' →
      ∃ a vs, v = .ref a ∧ a ∈ f ∧ H a = some (.lst vs) ∧ vs.length < sizeLine ∧ ∃ f', RepD K (upd H a (.lst (vs ++ [u]))) d' v f' ∧ f'.Nodup ∧ ∀ b ∈ f', b ∈ f ∨ H0 b = none := by
    intro xs x rd rx e
    split at e
    · rename_i hz
      obtain rfl := Option.some.inj e
      obtain ⟨a, vs, rfl, q, rfl, r⟩ := rd
      have kt : KT H (upd H a (.lst (vs ++ [u]))) := KT.upd q trivial
      exact ⟨a, vs, rfl, by simp, q, by rw [r.len]; exact hz, [a], ⟨a, vs ++ [u], rfl, upd_same, rfl, RepPs.kt kt _ _ (RepPs.append (show RepPs K H [x] [u] from ⟨u, [], rfl, rx, rfl⟩) r)⟩, by simp, fun b hb => .inl hb⟩
    · cases e
  split at e
  · rename_i xs x
    exact one rd (ru.getP rfl) e
  · rename_i xs x
    exact one rd (ru.getP rfl) e
  · rename_i d1 _
    obtain rfl := Option.some.inj e
    obtain ⟨a, vs, rfl, q, rfl, r⟩ := rd
    obtain rfl : vs = [] := r
    obtain ⟨g, rg, ng, fg⟩ := ru
    have kt : KT H (upd H a (.lst ([] ++ [u]))) := KT.upd q trivial
    have ha : a ∉ g := fun z => hf a (by simp) (fg a z)
    refine ⟨a, [], rfl, by simp, q, by rw [sizeLine_eq]; decide, a :: (g ++ []), ⟨a, [u], g ++ [], rfl, upd_same, rfl, u, [], g, [], rfl, rfl, RepD.kt kt _ _ _ (fun b hb o e => ?_) rg, rfl, rfl⟩, by simpa using ⟨ha, ng⟩, fun b hb => ?_⟩
    · rw [upd_ne (fun z => ha (by rw [← z]; exact hb))]; exact e
    · simp at hb
      rcases hb with rfl | hb
      · exact .inl (by simp)
      · exact .inr (fg b hb)
  · rename_i xs d1
    split at e
    · rename_i hz
      obtain rfl := Option.some.inj e
      obtain ⟨a, vs, f1, rfl, q, rfl, r⟩ := rd
      obtain ⟨g, rg, ng, fg⟩ := ru
      have kt : KT H (upd H a (.lst (vs ++ [u]))) := KT.upd q trivial
      have ha : a ∉ g := fun z => hf a (by simp) (fg a z)
      rw [List.nodup_cons] at nf
      have st : ∀ b, b ≠ a → ∀ o, H b = some o → upd H a (.lst (vs ++ [u])) b = some o := fun b hb o e => by rw [upd_ne hb]; exact e
      refine ⟨a, vs, rfl, by simp, q, by rw [r.len]; exact hz, a :: (f1 ++ (g ++ [])), ⟨a, vs ++ [u], f1 ++ (g ++ []), rfl, upd_same, rfl, RepDs.append (show RepDs K (upd H a (.lst (vs ++ [u]))) [d1] [u] (g ++ []) from ⟨u, [], g, [], rfl, rfl, RepD.kt kt _ _ _ (fun b hb => st b fun z => ha (by rw [← z]; exact hb)) rg, rfl, rfl⟩) (RepDs.kt kt _ _ _ (fun b hb => st b fun z => nf.1 (by rw [← z]; exact hb)) r)⟩, ?_, fun b hb => ?_⟩
      · rw [List.nodup_cons, List.append_nil, List.nodup_append]
        refine ⟨fun z => ?_, nf.2, ng, fun b hb b' hb' e => ?_⟩
        · rcases List.mem_append.mp z with z | z
          · exact nf.1 z
          · exact ha z
        · subst e
          exact hf b (by simp [hb]) (fg b hb')
      · rw [List.append_nil] at hb
        rcases List.mem_cons.mp hb with rfl | hb
        · exact .inl (by simp)
        · rcases List.mem_append.mp hb with z | z
          · exact .inl (by simp [z])
          · exact .inr (fg b z)
    · cases e
  · cases e
theorem ds_app {i : Nat} {x : Str} {apos cpos : Pos} (hN : X.N[i]? = some x) (hv : Vis X.env.scope x) (ha : DE W X e ga) (hd : (x == ("__debug__" : Str)) = false := by decide) (hcd : (x == ("__classdict__" : Str)) = false := by decide)
    (he : starEach (e :: []) X.env = (false, eval e X.env) :: starEach [] X.env := by rfl)
    (hbase : attributeBase (.Name x p) "append" X.env (eval (.Name x p) X.env) = eval (.Name x p) X.env := by rfl)
    (hfew : ((backTo cpos (starEach (e :: []) X.env)).all (fun x => !x.1) && (backToKw cpos (keywordEach [] X.env)).all (fun x => x.1.isSome)
      && decide ((e :: ([] : List Expr)).length + ([] : List Keyword).length + (if ([] : List Keyword).isEmpty then 0 else 1) < 30)) = true := by rfl)
    (hs : swapsWith (.Call (.Attribute (.Name x p) "append" apos) [e] [] cpos) none pos.line X.env = pure false := by rfl) (hline : (apos.endLine == cpos.line) = true := by rfl)
    (hpl : (backTo cpos (starEach ([] : List Expr) X.env)).any (·.1) = false := by rfl) :
    DS W X (.Expr (.Call (.Attribute (.Name x p) "append" apos) [e] [] cpos) pos) (gApp i ga) := by
  refine PS.imp (ps_expr (pe_bm PySem.F.plainAttrs_list PySem.F.slot_list_append PySem.F.type_list_append mt_append (pe_var hN hv hd hcd) (pa_cons ha pa_nil he) hbase hfew hline he hpl) hs) fun D σ H ⟨B, Rg, δ, S0, w⟩ => ?_
  unfold gApp at w
  split at w
  · rename_i d ed
    split at w
    · rename_i hl
      obtain ⟨v, f, e1, rd, nf, fB, k⟩ := S0.change ed
      refine ⟨v, e1, ?_⟩
      have tv : tyV X.K "list" v H := by
        cases d with
        | lst xs => obtain ⟨a, vs, rfl, q, _⟩ := rd; exact .inl ⟨rfl, vs, SqL.of q⟩
        | ls xs => obtain ⟨a, vs, _, rfl, q, _⟩ := rd; exact .inl ⟨rfl, vs, SqL.of q⟩
        | _ => cases hl
      refine ⟨tv, B, Rg, δ, S0, Rn.wp_mono (Rn.wp_mapErr.mp (Rn.wp_bind.mp w)) (fun r q u H1 s1 ru => ?_) fun cl _ q C H' e s => q C σ H' e (S0.grow s)⟩
      split at q
      · rename_i d' ea
        have rd1 := RepD.kt (Same.kt s1) d v f (fun a _ o e => s1 a o e) rd
        obtain ⟨a, vs, rfl, haf, qa, hz, f', rd', nf', hf'⟩ := fApp_ok rd1 nf rd.mem ru ea
        refine ⟨a, vs, u, rfl, rfl, qa, hz, ?_⟩
        exact q σ _ (k _ _ f' ((Same.kt s1).trans (KT.upd qa trivial)) (fun b o hb e => by rw [upd_ne (fun z => hb (by rw [z]; exact haf))]; exact s1 b o e) rd' nf' hf')
      · exact q.elim
    · exact w.elim
  · exact w.elim

/-- x[i] = e, a list or a dict in a slot -/
def putP {κ : Type} [DecidableEq κ] (kvs : List (κ × P)) (k : κ) (v : P) : List (κ × P) :=
  if (kvs.any fun kv => decide (kv.1 = k)) = true then kvs.map (fun kv => if kv.1 = k then (kv.1, v) else kv) else kvs ++ [(k, v)]
def fPut : D → P → P → Option D
  | .lst xs, .int k, v => match ixN xs.length k with
    | some j => some (.lst (xs.set j v))
    | none => none
  | .dic kvs, x, v => match keyP x with
    | some k => if kvs.length < sizeLine then some (.dic (putP kvs k v)) else none
    | none => none
  | _, _, _ => none
def gPut (i : Nat) (gk ge : GE) : GS := fun δ => match δ[i]? with
  | some (.own d) => (lift (ge δ) δ).bind fun r => (lift (gk δ) δ).bind fun k => match k.d, r.d with
    | .p x, .p v => match fPut d x v with
      | some d' => .ok (.nx (δ.set i (.own d')))
      | none => .bad
    | _, _ => .bad
  | _ => .bad
theorem map_put {K : PySem.W.Frag} {H : Hp} {κ : Type} [DecidableEq κ] {k : κ} {x : P} {v : V} (hx : RepP K H x v) : ∀ {xs : List (κ × P)} {ws : List (κ × V)}, RepKs K H xs ws →
    RepKs K H (xs.map fun kv => if kv.1 = k then (kv.1, x) else kv) (ws.map fun kv => if kv.1 = k then (kv.1, v) else kv)
  | [], ws, h => by obtain rfl : ws = [] := h; exact rfl
  | (c, y) :: xs, ws, h => by
    obtain ⟨u, r, rfl, h1, h2⟩ := h
    rw [List.map_cons, List.map_cons]
    by_cases e : c = k
    · simp only [e, if_true]
      exact ⟨v, _, rfl, hx, map_put hx h2⟩
    · simp only [e, if_false]
      exact ⟨u, _, rfl, h1, map_put hx h2⟩
theorem add_put {K : PySem.W.Frag} {H : Hp} {κ : Type} {k : κ} {x : P} {v : V} (hx : RepP K H x v) : ∀ {xs : List (κ × P)} {ws : List (κ × V)}, RepKs K H xs ws → RepKs K H (xs ++ [(k, x)]) (ws ++ [(k, v)])
  | [], ws, h => by obtain rfl : ws = [] := h; exact ⟨v, [], rfl, hx, rfl⟩
  | (c, y) :: xs, ws, h => by
    obtain ⟨u, r, rfl, h1, h2⟩ := h
    exact ⟨u, _, rfl, h1, add_put hx h2⟩
theorem RepPs.set {K : PySem.W.Frag} {H : Hp} {x : P} {v : V} (hx : RepP K H x v) : ∀ {xs : List P} {vs : List V} (j : Nat), RepPs K H xs vs → RepPs K H (xs.set j x) (vs.set j v)
  | [], vs, j, h => by
    obtain rfl : vs = [] := h
    exact rfl
  | y :: xs, vs, 0, h => by
    obtain ⟨u, r, rfl, _, h2⟩ := h
    exact ⟨v, r, rfl, hx, h2⟩
  | y :: xs, vs, j + 1, h => by
    obtain ⟨u, r, rfl, h1, h2⟩ := h
    exact ⟨u, r.set j v, rfl, h1, RepPs.set hx j h2⟩
theorem RepKs.any {K : PySem.W.Frag} {H : Hp} {κ : Type} [DecidableEq κ] {k : κ} : ∀ {xs : List (κ × P)} {ws : List (κ × V)}, RepKs K H xs ws → (xs.any fun kv => decide (kv.1 = k)) = ws.any fun kv => decide (kv.1 = k)
  | [], ws, h => by
    obtain rfl : ws = [] := h
    rfl
  | (c, x) :: xs, ws, h => by
    obtain ⟨v, r, rfl, _, h2⟩ := h
    simp only [List.any_cons, RepKs.any h2]
theorem RepKs.put {K : PySem.W.Frag} {H : Hp} {κ : Type} [DecidableEq κ] {k : κ} {x : P} {v : V} (hx : RepP K H x v) {xs : List (κ × P)} {ws : List (κ × V)} (h : RepKs K H xs ws) : RepKs K H (putP xs k x) (putK ws k v) := by
  unfold putP putK
  rw [h.any]
  split
  · exact map_put hx h
  · exact add_put hx h
theorem PSet.or {t t' : TSet} (h : PSet X t) (h' : PSet X t') : PSet X (fun o i v H Q => t o i v H Q ∨ t' o i v H Q) := by
  intro pins s σ H o i v ov iv u Q I ro ri rv q
  rcases q with q | q
  · exact h pins s σ H o i v ov iv u Q I ro ri rv q
  · exact h' pins s σ H o i v ov iv u Q I ro ri rv q
theorem ds_put {i : Nat} {x : Str} {ix : Expr} {gk : GE} {tpos : Pos} (hu : X.A.units + 1 < cLine) (hN : X.N[i]? = some x) (hv : Vis X.env.scope x) (hk : DE W X ix gk) (he : DE W X e ga)
    (hd : (x == ("__debug__" : Str)) = false := by decide) (hcd : (x == ("__classdict__" : Str)) = false := by decide)
    (ha : ∀ v, assign (.Subscript (.Name x p) ix tpos) X.env v = (do
      let ov ← holding [v] (eval (.Name x p) X.env)
      let iv ← holding [v, ov] (eval ix X.env)
      standAt tpos
      holding [v, ov, iv] (setItem ov iv v)
      release [v, ov, iv] []) := by intro _; rfl)
    (hs : swapsWithSole [.Subscript (.Name x p) ix tpos] e pos.line X.env = pure false := by rfl) (hw : swappedStores [.Subscript (.Name x p) ix tpos] e X.env = pure none := by rfl)
    (h1 : (assignEach [.Subscript (.Name x p) ix tpos] X.env).map (·.2) = [assign (.Subscript (.Name x p) ix tpos) X.env] := by rfl) :
    DS W X (.Assign [.Subscript (.Name x p) ix tpos] e pos) (gPut i gk ga) := by
  refine PS.imp (ps_asg he (pg_sub (pe_var hN hv hd hcd) hk (PSet.or set_list (set_dict hu)) ha) hs hw h1) fun D σ H ⟨B, Rg, δ, S0, w⟩ => ?_
  unfold gPut at w
  split at w
  · rename_i d ed
    refine tDS_val S0 w fun r v H1 s1 rv S1 q => ?_
    obtain ⟨ov, f, e1, rd, nf, fB, k⟩ := S1.change ed
    refine ⟨ov, e1, ?_⟩
    refine tDS_val S1 q fun r2 v2 H2 s2 rv2 S2 q => ?_
    split at q
    · rename_i x v0 ek ev
      split at q
      · rename_i d' ef
        have rd2 := RepD.kt (Same.kt s2) d ov f (fun a _ o e => s2 a o e) rd
        have rx := rv2.getP ek
        have rw' := RepP.kt (Same.kt s2) _ _ (rv.getP ev)
        cases d with
        | lst xs =>
          cases x with
          | int kk =>
            obtain rfl : v2 = .int kk := rx
            simp only [fPut] at ef
            split at ef
            · rename_i j ej
              obtain rfl := Option.some.inj ef
              obtain ⟨a, vs, rfl, qa, rfl, ra⟩ := rd2
              have kt : KT H2 (upd H2 a (.lst (vs.set j v))) := KT.upd qa trivial
              refine .inl ⟨a, vs, kk, j, rfl, rfl, qa, by rw [ra.len]; exact ej, ?_⟩
              exact q σ _ (k _ _ [a] ((Same.kt s2).trans kt) (fun b o hb e => by rw [upd_ne (by simpa using hb)]; exact s2 b o e) ⟨a, _, rfl, upd_same, rfl, RepPs.kt kt _ _ (RepPs.set rw' j ra)⟩ (by simp) fun b hb => .inl hb)
            · cases ef
          | _ => cases ef
        | dic kvs =>
          simp only [fPut] at ef
          split at ef
          · rename_i kk ekk
            split at ef
            · rename_i hz
              obtain rfl := Option.some.inj ef
              obtain rfl : v2 = kV kk := keyP_kV rx ekk
              obtain ⟨a, ws, rfl, qa, rfl, ra⟩ := rd2
              have kt : KT H2 (upd H2 a (.dK (putK ws kk v))) := KT.upd qa trivial
              refine .inr ⟨a, _, rfl, DPut.k qa (by rw [ra.len]; exact hz), ?_⟩
              exact q σ _ (k _ _ [a] ((Same.kt s2).trans kt) (fun b o hb e => by rw [upd_ne (by simpa using hb)]; exact s2 b o e) ⟨a, _, rfl, upd_same, rfl, RepKs.kt kt _ _ (RepKs.put rw' ra)⟩ (by simp) fun b hb => .inl hb)
            · cases ef
          · cases ef
        | _ => cases x <;> cases ef
      · exact q.elim
    · exact q.elim
  · exact w.elim
end
end DL
/-! DLk: unpacking, while, loops over a slot's list, raise, try, isinstance. -/
namespace DL
open PySem PySem.Spec PyProof.Rows L2
section
variable {W : WX} {X : Cx} {a b e tg iter : Expr} {es : List Expr} {ga gb gc : GE} {gs : GA} {gt : GT} {gi : GI} {g1 g2 : GS} {st : Stmt} {sts body : List Stmt} {pos p : Pos}
/-- a, b = e -/
def gUnp (t : Tg) (ga : GE) : GS := fun δ => (lift (ga δ) δ).bind fun r => match r with
  | .own d => match t.set d δ with
    | some δ' => .ok (.nx δ')
    | none => .bad
  | .vw _ => .bad
theorem ds_unp {t : Tg} (hg : PG X tg (t.g X.K)) (ha : DE W X e ga) (hs : swapsWithSole [tg] e pos.line X.env = pure false := by rfl) (hw : swappedStores [tg] e X.env = pure none := by rfl)
    (h1 : (assignEach [tg] X.env).map (·.2) = [assign tg X.env] := by rfl) : DS W X (.Assign [tg] e pos) (gUnp t ga) := by
  refine PS.imp (ps_asg ha hg hs hw h1) fun D σ H ⟨B, Rg, δ, S0, w⟩ => ?_
  refine tDS_val S0 w fun r v H1 s1 rv S1 q => ?_
  cases r with
  | own d =>
    dsimp only at q
    split at q
    · rename_i δ' e1
      obtain ⟨fp, q1, n, f⟩ := rv
      exact Tg.ok S0 s1 q1 n f e1 fun σ' S2 => q σ' H1 S2
    · exact q.elim
  | vw d => exact q.elim
/-- a, b = x, y -/
def gPar (i j : Nat) (gs : GA) : GS := fun δ => (lift (gs δ) δ).bind fun rs => match rs with
  | [.own (.p x), .own (.p y)] => .ok (.nx ((δ.set i (.own (.p x))).set j (.own (.p y))))
  | _ => .bad
theorem ds_par {i j : Nat} {x y : Str} {px py pt pt2 : Pos} {kt k2 : Nat} (hc : X.calm = true) (hN : X.N.Nodup) (hi : X.N[i]? = some x) (hj : X.N[j]? = some y) (hij : i ≠ j)
    (hx : X.env.scope.names.lookup x = some .local) (hy : X.env.scope.names.lookup y = some .local) (ha : DA W X [a, b] gs)
    (hw : swappedStores [.Tuple [.Name x px, .Name y py] kt pt] (.Tuple [a, b] k2 pt2) X.env = pure (some [x, y]))
    (hs : swapsWithSole [.Tuple [.Name x px, .Name y py] kt pt] (.Tuple [a, b] k2 pt2) pos.line X.env = pure false := by rfl) :
    DS W X (.Assign [.Tuple [.Name x px, .Name y py] kt pt] (.Tuple [a, b] k2 pt2) pos) (gPar i j gs) := by
  refine PS.imp (ps_par hc hN hi hj hij hx hy ha hw hs) fun D σ H ⟨B, Rg, δ, S0, w⟩ => ?_
  refine tDS_args S0 w fun rs vs H1 s1 ra S1 q => ?_
  split at q
  · rename_i x y
    obtain ⟨fp, r, _⟩ := ra
    obtain ⟨v, r1, f, g, rfl, rfl, h1, u, r2, f2, g2, rfl, rfl, h2, h3⟩ := r
    obtain ⟨rfl, rfl⟩ := h3
    refine ⟨v, u, rfl, ?_⟩
    exact q _ _ ((S1.set (Same.refl _) (fp := []) (d := .p x) ⟨h1.1, rfl⟩ List.nodup_nil (fun _ z => nomatch z)).set (Same.refl _) (fp := []) (d := .p y) ⟨h2.1, rfl⟩ List.nodup_nil (fun _ z => nomatch z))
  · exact q.elim

/-! ### while -/
def gWhile (gt : GT) (g : GS) : Nat → GS
  | 0, _ => .bad
  | n + 1, δ => (lift (gt δ) δ).bind fun k => if k = true then (g δ).bind fun
      | .nx δ' => gWhile gt g n δ'
      | .ct δ' => gWhile gt g n δ'
      | .bk δ' => .ok (.nx δ')
      | .ret d => .ok (.ret d)
    else .ok (.nx δ)
theorem ds_while {fuel : Sl → Nat} (hp : PassesOwn (model X.prog X.w) X.A X.env X.xe) (hc : DT W X e gt) (hb : DSs W X body g1) : DS W X (.While e body [] pos) (fun δ => gWhile gt g1 (fuel δ) δ) := by
  refine PS.imp (ps_while hp hc hb) fun D σ H ⟨B, Rg, δ, S0, w⟩ => ?_
  refine ⟨fun m σ H => ∃ δ, SRel X.K B Rg σ H δ ∧ (gWhile gt g1 m δ).wp (postF X.K B Rg D) (postE (dc X W) B Rg), ⟨fuel δ, δ, S0, w⟩, ?_⟩
  rintro m σ1 H1 ⟨δ1, S1, w1⟩
  cases m with
  | zero => exact w1.elim
  | succ m =>
    unfold gWhile at w1
    refine tDS_bool (c := dc X W) S1 w1 fun k H2 s2 S2 q => ?_
    cases k with
    | false =>
      rw [if_neg (by decide)] at q ⊢
      exact q _ _ S2
    | true =>
      rw [if_pos rfl] at q ⊢
      refine ⟨fun σ H => ∃ δ, SRel X.K B Rg σ H δ ∧ (gWhile gt g1 m δ).wp (postF X.K B Rg D) (postE (dc X W) B Rg), fun σ' H' q => ⟨m, Nat.lt_succ_self m, q⟩, ?_⟩
      refine ⟨B, Rg, δ1, S2, Rn.wp_mono (Rn.wp_bind.mp q) (fun fl q => ?_) fun _ _ q => q⟩
      cases fl with
      | nx δ' => exact fun σ H S => ⟨δ', S, q⟩
      | ct δ' => exact fun σ H S => ⟨δ', S, q⟩
      | bk δ' => exact q
      | ret d => exact q

/-! ### raise -/
structure ErrC (K : PySem.W.Frag) (mg : Str → Option Value) (c : Str) : Prop where
  ex : ∃ C, mg c = some (.ref C) ∧ PySem.W.excIn K C [.type "ValueError", .type "Exception", .type "BaseException", .type "object"] "ValueError.__new__" = true ∧ PySem.W.keepIn K (.ref C) = true ∧
    PySem.W.subIn K (.ref C) (.type "BaseException") = some true ∧ PySem.W.typeIn K (.ref C) = some (.type "type")
def gRaise (c : Str) : GS := fun δ => .err c δ
theorem ds_raise {x m : Str} {j : Nat} {p2 pos2 : Pos} (hc : X.calm = true) (tk : Takes X W) (ec : ErrC X.K X.mg x) (hg : Gl X x := by rfl) (hdb : (x == ("__debug__" : Str)) = false := by decide) :
    DS W X (.Raise (some (.Call (.Name x p) [.Constant (.str m) j p2] [] pos)) none pos2) (gRaise x) := by
  obtain ⟨C, hm, h1, h2, h3, h4⟩ := ec.ex
  refine PS.imp (ps_raise hc tk (pmk_own PySem.F.excBase_ValueError h1 hm h2 (raises_own h3 h4) hg hdb)) fun D σ H ⟨B, Rg, δ, S0, w⟩ => ?_
  exact w C σ H hm S0

/-! ### try -/
/-- what the module tells of its errors: is class c caught by a clause that names h? -/
def ErrT (K : PySem.W.Frag) (mg : Str → Option Value) (h : Value) (sub : Str → Option Bool) : Prop := ∀ c b C, sub c = some b → mg c = some (.ref C) → PySem.W.exmOne K (.ref C) h = some b
def Fl.map (f : Sl → Sl) : Fl → Fl
  | .nx δ => .nx (f δ)
  | .bk δ => .bk (f δ)
  | .ct δ => .ct (f δ)
  | .ret d => .ret d
def Rn.noErrS {ε α : Type} : Rn ε α → Rn ε α
  | .ok a => .ok a
  | .err _ _ => .bad
  | .bad => .bad
  | .pick n k => .pick n fun i => (k i).noErrS
theorem Rn.wp_noErrS {ε α : Type} {w : Rn ε α} {Q : α → Prop} {E E' : Str → ε → Prop} (h : w.noErrS.wp Q E) : w.wp Q E' := by
  induction w with
  | ok a => exact h
  | err c e => exact h.elim
  | bad => exact h
  | pick n k ih => exact fun i hi => ih i (h i hi)
def S.noExn : S → S
  | .exn => .no
  | s => s
/-- behind a suite: slot i, and what else held the exception, is empty -/
def outEx (i : Nat) (δ : Sl) : Sl := (δ.map S.noExn).set i .no
def gTryW (sub : Str → Option Bool) (i : Nat) (gsu : Str → GS) : Rn Sl Fl → Rn Sl Fl
  | .ok fl => .ok fl
  | .err c δ' => match sub c with
    | some true => ((gsu c (δ'.set i .exn)).noErrS).bind fun fl => .ok (fl.map (outEx i))
    | some false => .err c δ'
    | none => .bad
  | .bad => .bad
  | .pick n k => .pick n fun j => gTryW sub i gsu (k j)
def gTry (sub : Str → Option Bool) (i : Nat) (g : GS) (gsu : Str → GS) : GS := fun δ => gTryW sub i gsu (g δ)
theorem gTryW_wp {sub : Str → Option Bool} {i : Nat} {gsu : Str → GS} {Q : Fl → Prop} {E : Str → Sl → Prop} : ∀ {r : Rn Sl Fl}, (gTryW sub i gsu r).wp Q E →
    r.wp Q fun c δ' => (sub c = some true ∧ (((gsu c (δ'.set i .exn)).noErrS).bind fun fl => .ok (fl.map (outEx i))).wp Q E) ∨ (sub c = some false ∧ E c δ') := by
  intro r
  induction r with
  | ok fl => exact fun h => h
  | err c δ' =>
    intro h
    unfold gTryW at h
    split at h
    · rename_i e; exact .inl ⟨e, h⟩
    · rename_i e; exact .inr ⟨e, h⟩
    · exact h.elim
  | bad => exact fun h => h
  | pick n k ih => exact fun h j hj => ih j (h j hj)
end
section
variable {K : PySem.W.Frag} {B H : Hp}
theorem SlotsR.toEx {Rg : Option Nat → Hp} {a : Addr} : ∀ {δ : Sl} {σ : L2.St} {fp : List Addr}, SlotsR K (ex := none) Rg H δ σ fp → SlotsR K (ex := some a) Rg H δ σ fp
  | [], _, _, h => h
  | s :: δ, _, _, h => by
    obtain ⟨ov, r, f, g, e1, e2, h1, h2⟩ := h
    refine ⟨ov, r, f, g, e1, e2, ?_, SlotsR.toEx h2⟩
    cases s with
    | exn => obtain ⟨_, _, z, _⟩ := h1; cases z
    | no => exact h1
    | own d => exact h1
    | bor t d => exact h1
theorem SlotsR.offEx {Rg : Option Nat → Hp} {ex : Option Addr} : ∀ {δ : Sl} {σ : L2.St} {fp : List Addr}, SlotsR K (ex := ex) Rg H δ σ fp → SlotsR K (ex := none) Rg H (δ.map S.noExn) σ fp
  | [], _, _, h => h
  | s :: δ, _, _, h => by
    obtain ⟨ov, r, f, g, e1, e2, h1, h2⟩ := h
    refine ⟨ov, r, f, g, e1, e2, ?_, SlotsR.offEx h2⟩
    cases s with
    | exn => exact h1.1
    | no => exact h1
    | own d => exact h1
    | bor t d => exact h1
theorem SlotsR.setExn {Rg : Option Nat → Hp} {a : Addr} : ∀ {δ : Sl} {σ : L2.St} {fp : List Addr} (i : Nat), SlotsR K (ex := some a) Rg H δ σ fp → fp.Nodup → ∃ fp', SlotsR K (ex := some a) Rg H (δ.set i .exn) (σ.set i (some (.ref a))) fp' ∧ fp'.Nodup ∧ ∀ b ∈ fp', b ∈ fp
  | [], _, _, i, h, n => ⟨_, by obtain ⟨rfl, rfl⟩ := h; exact ⟨rfl, rfl⟩, n, fun _ z => z⟩
  | s :: δ, _, _, 0, h, n => by
    obtain ⟨ov, r, f, g, rfl, rfl, h1, h2⟩ := h
    rw [List.nodup_append] at n
    exact ⟨g, ⟨_, r, [], g, rfl, rfl, ⟨rfl, a, rfl, rfl⟩, h2⟩, n.2.1, fun a ha => by simp [ha]⟩
  | s :: δ, _, _, i + 1, h, n => by
    obtain ⟨ov, r, f, g, rfl, rfl, h1, h2⟩ := h
    rw [List.nodup_append] at n
    obtain ⟨fp', q1, q2, q3⟩ := SlotsR.setExn i h2 n.2.1
    refine ⟨f ++ fp', ⟨ov, _, f, fp', rfl, rfl, h1, q1⟩, ?_, fun a ha => ?_⟩
    · rw [List.nodup_append]
      exact ⟨n.1, q2, fun a ha b hb e => n.2.2 a ha b (q3 b hb) e⟩
    · rcases List.mem_append.mp ha with z | z
      · simp [z]
      · simp [q3 a z]
theorem SRel.outEx {Rg : Option Nat → Hp} {ex : Option Addr} {σ : L2.St} {δ : Sl} (i : Nat) (S0 : SRel K B (ex := ex) Rg σ H δ) : SRel K B (ex := none) Rg (σ.set i none) H (outEx i δ) := by
  obtain ⟨b, u, fp, q, n, f⟩ := S0
  obtain ⟨fp', q1, q2, q3⟩ := SlotsR.wipe1 i (v := none) q.offEx n
  exact ⟨b, u, fp', q1, q2, fun a ha => f a (q3 a ha)⟩
end
section
variable {W : WX} {X : Cx} {body suite : List Stmt} {b₀ : Stmt} {g1 : GS} {pos p np pos' : Pos}
/-- the wish of a try's body -/
theorem try_of {sub : Str → Option Bool} {i : Nat} {gsu : Str → GS} {c : Value} {ts : Addr → Value → Option Addr → TS}
    (hts : ts = fun a cls d D σ H => ∃ cl C, X.mg cl = some (.ref C) ∧ cls = .ref C ∧ d = none ∧ tDS ⟨X.K, X.mg, W0, some a⟩ (gsu cl) D σ H) (et : ErrT X.K X.mg c sub) (hc : X.calm = true)
    (D : Ends) (σ : L2.St) (H : Hp) (h : tDS (dc X W) (gTry sub i g1 gsu) D σ H) : tDS ⟨X.K, X.mg, wAs X.K c i ts W D, none⟩ g1 D σ H := by
  rw [dc_calm hc] at h
  obtain ⟨B, Rg, δ, S0, w⟩ := h
  refine ⟨B, Rg, δ, S0, Rn.wp_mono (gTryW_wp w) (fun _ q => q) fun cl δ' q C σ1 H1 hm S1 => ?_⟩
  rcases q with ⟨e, q⟩ | ⟨e, q⟩
  · refine ⟨true, et cl true C e hm, fun _ a ha => ?_, fun z => Bool.noConfusion z⟩
    subst hts
    refine ⟨cl, C, hm, rfl, rfl, ?_⟩
    obtain ⟨b, u, fp, r, n, f⟩ := S1
    obtain ⟨fp', q1, q2, q3⟩ := SlotsR.setExn i (r.toEx (a := a)) n
    refine ⟨B, Rg, δ'.set i .exn, ⟨b, u, fp', q1, q2, fun a ha => f a (q3 a ha)⟩, Rn.wp_noErrS (Rn.wp_mono (Rn.wp_bind.mp q) (fun fl q => ?_) fun _ _ q => q)⟩
    cases fl with
    | nx δ2 => exact fun σ2 H2 S2 => q _ _ (S2.outEx i)
    | bk δ2 => exact fun σ2 H2 S2 => q _ _ (S2.outEx i)
    | ct δ2 => exact fun σ2 H2 S2 => q _ _ (S2.outEx i)
    | ret d => exact q
  · exact ⟨false, et cl false C e hm, fun z => Bool.noConfusion z, fun _ => q C σ1 H1 hm S1⟩
theorem ds_tryAs {x n : Str} {c : Value} {sub : Str → Option Bool} {i : Nat} {gsu : Str → GS} (hs : X.stack = X.env :: X.outer) (hf : X.env.frame = some X.env.locals) (hcal : X.calm = true) (hN : X.N.Nodup) (hi : X.N[i]? = some n) (hln : X.env.kindOf n = some .local)
    (hc : Names X x c) (et : ErrT X.K X.mg c sub) (tk : Takes X W)
    (hb : ∀ (W' : WX) (pn : List (Addr × Obj)) (xe : Value → Shared → Prop), Takes (X.tr pn xe) W' → PassesOwn (model X.prog X.w) X.A X.env xe → DSs W' (X.tr pn xe) body g1)
    (hsu : ∀ (cl : Str) (C a : Addr) (oe : Obj) (pn : List (Addr × Obj)), X.mg cl = some (.ref C) → Zc (.ref C) none oe → (∃ vs, oe.data = .fields vs) → DSs W0 (X.suite a ((a, oe) :: pn)) (b₀ :: suite) (gsu cl)) :
    DS W X (.Try body [.ExceptHandler (some (.Name x np)) (some n) (b₀ :: suite) pos'] [] [] pos) (gTry sub i g1 gsu) := by
  refine PS.imp (ps_try_as (Wout := W) (tb := fun W' => tDS ⟨X.K, X.mg, W', none⟩ g1) (ts := fun a cls d D σ H => ∃ cl C, X.mg cl = some (.ref C) ∧ cls = .ref C ∧ d = none ∧ tDS ⟨X.K, X.mg, W0, some a⟩ (gsu cl) D σ H)
    hs hf hN hi hln hc tk (fun W' pn xe t1 t2 => ?_) fun a oe cls d pn hz hv => ?_) fun D σ H h => try_of rfl et hcal D σ H h
  · have := hb W' pn xe t1 t2
    unfold DSs at this
    rw [dc_calm (X := X.tr pn xe) hcal] at this
    exact this
  · refine ⟨fun pins s σ H D I ⟨cl, C, hm, e1, e2, h⟩ => ?_⟩
    subst e1 e2
    exact (hsu cl C a oe pn hm hz hv).run pins s σ H D I h
end
end DL
/-! DLl: in, isinstance, join, built-ins in short. -/
namespace DL
open PySem PySem.Spec PyProof.Rows L2
def P.flat : P → Bool
  | .tup _ => false
  | _ => true
def P.eqF : P → P → Bool
  | .non, .non => true
  | .bl a, .bl b => a == b
  | .bl a, .int b => (if a then 1 else 0) == b
  | .int a, .bl b => a == (if b then 1 else 0)
  | .int a, .int b => a == b
  | .str a, .str b => a == b
  | _, _ => false
def inP (x : P) (xs : List P) : Bool := xs.any fun y => P.eqF y x
def fIn (neg : Bool) : D → D → Rn Unit Bool
  | .p (.str x), .p (.str z) => match x.cps.toList with
    | [c] => .ok (if neg then !decide (c ∈ z.cps.toList) else decide (c ∈ z.cps.toList))
    | _ => .ok (if neg then !(!(Builtin.Str.occurrences z x 0 z.length 1).isEmpty) else !(Builtin.Str.occurrences z x 0 z.length 1).isEmpty)
  | .p x, .p (.tup xs) => if x.flat = true ∧ xs.all P.flat = true then .ok (if neg then !inP x xs else inP x xs) else .bad
  | .p x, .lst xs => if x.flat = true ∧ xs.all P.flat = true then .ok (if neg then !inP x xs else inP x xs) else .bad
  | .p x, .dic kvs => match keyP x with
    | some k => .ok (if neg then !(valP kvs k).isSome else (valP kvs k).isSome)
    | none => .bad
  | _, _ => .bad
section
variable {K : PySem.W.Frag} {H : Hp}
theorem flat_ok {x : P} {v : V} (r : RepP K H x v) (h : x.flat = true) : flatV v = true := by
  cases x <;> first | (cases h; done) | (obtain rfl := (r : v = _); rfl)
theorem eqF_ok {x y : P} {v u : V} (r : RepP K H x v) (r' : RepP K H y u) (h : x.flat = true) (h' : y.flat = true) : eqV v u = P.eqF x y := by
  cases x <;> cases y <;> first
    | (cases h; done)
    | (cases h'; done)
    | (obtain rfl := (r : v = _); obtain rfl := (r' : u = _); rfl)
theorem inP_ok {x : P} {v : V} (rx : RepP K H x v) (hx : x.flat = true) : ∀ {xs : List P} {vs : List V}, RepPs K H xs vs → xs.all P.flat = true → vs.all flatV = true ∧ inV v vs = inP x xs
  | [], vs, h, _ => by
    obtain rfl : vs = [] := h
    exact ⟨rfl, rfl⟩
  | y :: xs, vs, h, hf => by
    obtain ⟨u, r, rfl, h1, h2⟩ := h
    simp only [List.all_cons, Bool.and_eq_true] at hf
    obtain ⟨z1, z2⟩ := inP_ok rx hx h2 hf.2
    unfold inV at z2 ⊢
    unfold inP at z2 ⊢
    simp only [List.all_cons, List.any_cons, flat_ok h1 hf.1, z1, z2, eqF_ok h1 rx hf.1 hx, Bool.and_self, true_and]
end
theorem op_in_dict {X : Cx} (hu : X.A.units + 1 < cLine) : OpR X (compareOp .In) (fun x y H Q => ∃ a o, y = .ref a ∧ DGet H a x o ∧ Q (.bl o.isSome) H) := by
  intro pins s σ H x y v u Q I rx ry h
  obtain ⟨a, o, rfl, g, q⟩ := h
  obtain rfl : u = Value.ref a := ry
  exact d_in hu I g rx fun s3 I3 => ⟨.bl o.isSome, H, I3, rfl, q⟩
theorem op_notIn_dict {X : Cx} (hu : X.A.units + 1 < cLine) : OpR X (compareOp .NotIn) (fun x y H Q => ∃ a o, y = .ref a ∧ DGet H a x o ∧ Q (.bl (!o.isSome)) H) := by
  intro pins s σ H x y v u Q I rx ry h
  obtain ⟨a, o, rfl, g, q⟩ := h
  obtain rfl : u = Value.ref a := ry
  exact d_notIn hu I g rx fun s3 I3 => ⟨.bl (!o.isSome), H, I3, rfl, q⟩
def rInA (K : PySem.W.Frag) : R2 := fun x y H Q => rIn K false x y H Q ∨ (∃ a o, y = .ref a ∧ DGet H a x o ∧ Q (.bl o.isSome) H) ∨ (∃ (c : Nat) (z : Str), x = .str ⟨#[c]⟩ ∧ y = .str z ∧ Q (.bl (decide (c ∈ z.cps.toList))) H) ∨ ∃ i j, x = .str i ∧ y = .str j ∧ Q (.bl (!(Builtin.Str.occurrences j i 0 j.length 1).isEmpty)) H
def rNiA (K : PySem.W.Frag) : R2 := fun x y H Q => rIn K true x y H Q ∨ (∃ a o, y = .ref a ∧ DGet H a x o ∧ Q (.bl (!o.isSome)) H) ∨ (∃ (c : Nat) (z : Str), x = .str ⟨#[c]⟩ ∧ y = .str z ∧ Q (.bl (!decide (c ∈ z.cps.toList))) H) ∨ ∃ i j, x = .str i ∧ y = .str j ∧ Q (.bl (!(!(Builtin.Str.occurrences j i 0 j.length 1).isEmpty))) H
theorem op_inA {X : Cx} (hu : X.A.units + 1 < cLine) : OpR X (compareOp .In) (rInA X.K) := op_in_seq.or ((op_in_dict hu).or (op_in_sign.or op_in_str))
theorem op_niA {X : Cx} (hu : X.A.units + 1 < cLine) : OpR X (compareOp .NotIn) (rNiA X.K) := op_notIn_seq.or ((op_notIn_dict hu).or (op_notIn_sign.or op_notIn_str))
theorem one_sign {x : Str} {c : Nat} (h : x.cps.toList = [c]) : x = ⟨#[c]⟩ := by
  obtain ⟨a⟩ := x
  have : a = #[c] := by
    have := congrArg List.toArray h
    simpa using this
  rw [this]
theorem og_in {K : PySem.W.Frag} : OpG K (rInA K) (fB (fIn false)) := by
  intro H x y v u fx fy Q E rx ry h
  have h' := Rn.wp_bind.mp h
  unfold fIn at h'
  split at h'
  · rename_i x z
    obtain rfl : v = .str x := rx.1
    obtain rfl : u = .str z := ry.1
    split at h'
    · rename_i c e
      obtain rfl := one_sign e
      exact .inr (.inr (.inl ⟨c, z, rfl, rfl, RepP.up h' rfl⟩))
    · exact .inr (.inr (.inr ⟨x, z, rfl, rfl, RepP.up h' rfl⟩))
  · rename_i x xs _
    split at h'
    · rename_i hf
      obtain ⟨⟨a, vs, rfl, q, r⟩, _⟩ := ry
      obtain ⟨z1, z2⟩ := inP_ok rx.1 hf.1 r hf.2
      exact .inl ⟨a, vs, rfl, .inr q, flat_ok rx.1 hf.1, z1, by rw [z2]; exact RepP.up h' rfl⟩
    · exact h'.elim
  · rename_i x xs
    split at h'
    · rename_i hf
      obtain ⟨a, vs, rfl, q, _, r⟩ := ry
      obtain ⟨z1, z2⟩ := inP_ok rx.1 hf.1 r hf.2
      exact .inl ⟨a, vs, rfl, .inl (SqL.of q), flat_ok rx.1 hf.1, z1, by rw [z2]; exact RepP.up h' rfl⟩
    · exact h'.elim
  · rename_i x kvs
    split at h'
    · rename_i k ek
      obtain ⟨a, ws, rfl, q, _, r⟩ := ry
      obtain rfl : v = kV k := keyP_kV rx.1 ek
      have g := RepKs.get (k := k) r
      refine .inr (.inl ⟨a, _, rfl, DGet.k q, ?_⟩)
      cases e : valP kvs k with
      | none => rw [e] at g h'; rw [g]; exact RepP.up h' rfl
      | some x => rw [e] at g h'; obtain ⟨w, e2, _⟩ := g; rw [e2]; exact RepP.up h' rfl
    · exact h'.elim
  · exact h'.elim
theorem og_ni {K : PySem.W.Frag} : OpG K (rNiA K) (fB (fIn true)) := by
  intro H x y v u fx fy Q E rx ry h
  have h' := Rn.wp_bind.mp h
  unfold fIn at h'
  split at h'
  · rename_i x z
    obtain rfl : v = .str x := rx.1
    obtain rfl : u = .str z := ry.1
    split at h'
    · rename_i c e
      obtain rfl := one_sign e
      exact .inr (.inr (.inl ⟨c, z, rfl, rfl, RepP.up h' rfl⟩))
    · exact .inr (.inr (.inr ⟨x, z, rfl, rfl, RepP.up h' rfl⟩))
  · rename_i x xs _
    split at h'
    · rename_i hf
      obtain ⟨⟨a, vs, rfl, q, r⟩, _⟩ := ry
      obtain ⟨z1, z2⟩ := inP_ok rx.1 hf.1 r hf.2
      exact .inl ⟨a, vs, rfl, .inr q, flat_ok rx.1 hf.1, z1, by rw [z2]; exact RepP.up h' rfl⟩
    · exact h'.elim
  · rename_i x xs
    split at h'
    · rename_i hf
      obtain ⟨a, vs, rfl, q, _, r⟩ := ry
      obtain ⟨z1, z2⟩ := inP_ok rx.1 hf.1 r hf.2
      exact .inl ⟨a, vs, rfl, .inl (SqL.of q), flat_ok rx.1 hf.1, z1, by rw [z2]; exact RepP.up h' rfl⟩
    · exact h'.elim
  · rename_i x kvs
    split at h'
    · rename_i k ek
      obtain ⟨a, ws, rfl, q, _, r⟩ := ry
      obtain rfl : v = kV k := keyP_kV rx.1 ek
      have g := RepKs.get (k := k) r
      refine .inr (.inl ⟨a, _, rfl, DGet.k q, ?_⟩)
      cases e : valP kvs k with
      | none => rw [e] at g h'; rw [g]; exact RepP.up h' rfl
      | some x => rw [e] at g h'; obtain ⟨w, e2, _⟩ := g; rw [e2]; exact RepP.up h' rfl
    · exact h'.elim
  · exact h'.elim
/-! ### isinstance -/
def D.ty? : D → Option String
  | .p .non => some "NoneType"
  | .p (.bl _) => some "bool"
  | .p (.int _) => some "int"
  | .p (.str _) => some "str"
  | .p (.tup _) => some "tuple"
  | .lst _ => some "list"
  | .ls _ => some "list"
  | .tp _ => some "tuple"
  | .dic _ => some "dict"
  | .dit _ => some "dict"
  | _ => none
/-- is a a kind of b -/
def tyB (a b : String) : Bool := a == b || (a == "bool" && b == "int")
def tyOkB (b : String) : Bool := ["NoneType", "bool", "int", "str", "tuple", "list", "dict"].all fun a => kitB a b == some (tyB a b)
theorem D.ty_ok {K : PySem.W.Frag} {H : Hp} {d : D} {v : V} {fp : List Addr} {t : String} (r : RepD K H d v fp) (e : d.ty? = some t) : TyX K H v (.type t) ∧ t ∈ ["NoneType", "bool", "int", "str", "tuple", "list", "dict"] := by
  have tupT : ∀ {a : Addr} {vs : List V}, SqT K H a vs → TyX K H (.ref a) (.type "tuple") := fun {a vs} q => by
    rcases q with (q | ⟨o, q⟩) | ⟨o, its, n, q, c, _⟩
    · exact .base (.tup q)
    · exact .fTuple q
    · exact .kTuple q c
  cases d with
  | p x =>
    cases x with
    | non => obtain rfl := Option.some.inj e; obtain rfl : v = .non := r.1; exact ⟨.base .non, by simp⟩
    | bl b => obtain rfl := Option.some.inj e; obtain rfl : v = .bl b := r.1; exact ⟨.base (.bl b), by simp⟩
    | int b => obtain rfl := Option.some.inj e; obtain rfl : v = .int b := r.1; exact ⟨.base (.int b), by simp⟩
    | str b => obtain rfl := Option.some.inj e; obtain rfl : v = .str b := r.1; exact ⟨.base (.str b), by simp⟩
    | tup xs =>
      obtain rfl := Option.some.inj e
      obtain ⟨⟨a, vs, rfl, q, _⟩, _⟩ := r
      exact ⟨tupT q, by simp⟩
  | lst xs => obtain rfl := Option.some.inj e; obtain ⟨a, vs, rfl, q, _⟩ := r; exact ⟨.base (.lst q), by simp⟩
  | ls xs => obtain rfl := Option.some.inj e; obtain ⟨a, vs, _, rfl, q, _⟩ := r; exact ⟨.base (.lst q), by simp⟩
  | tp xs => obtain rfl := Option.some.inj e; obtain ⟨a, vs, rfl, q, _⟩ := r; exact ⟨tupT q, by simp⟩
  | dic xs => obtain rfl := Option.some.inj e; obtain ⟨a, vs, rfl, q, _⟩ := r; exact ⟨.base (.dK q), by simp⟩
  | dit xs => obtain rfl := Option.some.inj e; obtain ⟨a, vs, rfl, q, _⟩ := r; exact ⟨.base (.dT q), by simp⟩
  | orc => cases e
  | scr ns => cases e
def gIsi (T : String) (ga : GE) : GE := fun δ => (ga δ).bind fun r => match r.d.ty? with
  | some t => .ok (.own (.p (.bl (tyB t T))))
  | none => .bad
section
variable {W : WX} {X : Cx} {a b e tg iter : Expr} {es : List Expr} {ga gb gc : GE} {gs : GA} {gt : GT} {gi : GI} {pos p p2 : Pos}
theorem de_isi {T : String} {x : Str} (hm : X.mg "isinstance" = none) (hm2 : X.mg x = none) (ha : DE W X e ga) (hv : bootBuiltins x = some (.type T)) (hT : tyOkB T = true) (hg2 : Gl X x := by rfl) (hg : Gl X "isinstance" := by rfl)
    (hn : x ≠ "__name__" := by decide) (hdb : (x == ("__debug__" : Str)) = false := by decide)
    (he : starEach [e, .Name x p2] X.env = (false, eval e X.env) :: starEach [.Name x p2] X.env := by rfl) (he2 : starEach [.Name x p2] X.env = (false, eval (.Name x p2) X.env) :: starEach [] X.env := by rfl) (hpl : (backTo pos (starEach [.Name x p2] X.env)).any (·.1) = false := by rfl) :
    DE W X (.Call (.Name "isinstance" p) [e, .Name x p2] [] pos) (gIsi T ga) := by
  refine PE.imp (pe_callB call_isi hg hm (by decide +kernel) (pa_cons ha (pa_cons (pe_bltn (v := .ty T) hg2 hm2 hv rfl hn hdb) pa_nil he2) he) (by decide) (by decide) he hpl) fun σ H Q ⟨B, Rg, δ, S0, w⟩ => ?_
  refine ⟨B, Rg, δ, S0, Rn.wp_mono (Rn.wp_bind.mp w) (fun r q v H1 s1 rv => ?_) fun _ _ q => q⟩
  split at q
  · rename_i t et
    obtain ⟨fp, rd⟩ := rv.look
    obtain ⟨ty, hm⟩ := D.ty_ok rd et
    refine ⟨v, .ty T, .type t, .type T, tyB t T, rfl, .ty T, ty, kit_ty ?_, q _ H1 s1 (RepR.plain rfl)⟩
    have := List.all_eq_true.mp hT t hm
    simpa using this
  · exact q.elim
/-- isinstance(e, x) of the exception that the suite handles -/
def gIsE (i : Nat) (ob : Option Bool) : GE := fun δ => match δ[i]?, ob with
  | some .exn, some b => .ok (.own (.p (.bl b)))
  | _, _ => .bad
/-- what the module tells of isinstance(e, x) -/
structure IsT (K : PySem.W.Frag) (mg : Str → Option Value) (x : Str) (sub : Str → Option Bool) : Prop where
  ex : ∃ C', mg x = some (.ref C') ∧ ∀ c b C, sub c = some b → mg c = some (.ref C) → ExcC K C ∧ PySem.W.kitOne K (.ref C) (.ref C') = some b
theorem de_isE {x y cl : Str} {C a : Addr} {oe : Obj} {pn : List (Addr × Obj)} {i : Nat} {sub : Str → Option Bool} {py : Pos} (it : IsT X.K X.mg x sub) (hcl : X.mg cl = some (.ref C)) (hz : Zc (.ref C) none oe) (hf : ∃ vs, oe.data = .fields vs)
    (hm : X.mg "isinstance" = none) (hN : X.N[i]? = some y) (hv : Vis X.env.scope y) (hg2 : Gl X x := by rfl) (hg : Gl X "isinstance" := by rfl)
    (hdb : (x == ("__debug__" : Str)) = false := by decide) (hdy : (y == ("__debug__" : Str)) = false := by decide) (hcd : (y == ("__classdict__" : Str)) = false := by decide)
    (he : starEach [.Name y py, .Name x p2] X.env = (false, eval (.Name y py) X.env) :: starEach [.Name x p2] X.env := by rfl) (he2 : starEach [.Name x p2] X.env = (false, eval (.Name x p2) X.env) :: starEach [] X.env := by rfl) (hpl : (backTo pos (starEach [.Name x p2] X.env)).any (·.1) = false := by rfl) :
    DE W0 (X.suite a ((a, oe) :: pn)) (.Call (.Name "isinstance" p) [.Name y py, .Name x p2] [] pos) (gIsE i (sub cl)) := by
  obtain ⟨C', hx, hk⟩ := it.ex
  cases eb : sub cl with
  | none => exact ⟨fun pins s σ H Q I ⟨B, Rg, δ, S0, w⟩ => by
      unfold gIsE at w
      split at w
      · rename_i z; cases z
      · exact w.elim⟩
  | some b =>
    obtain ⟨ec, hkit⟩ := hk cl b C eb hcl
    refine PE.imp (pe_callB (X := X.suite a ((a, oe) :: pn)) (call_isE ec hz hf) hg hm (by decide +kernel) (pa_cons (pe_var (i := i) hN hv hdy hcd) (pa_cons (pe_glob (v := .ref C') hg2 hx rfl hdb) pa_nil he2) he) (by decide) (by decide) he hpl) fun σ H Q ⟨B, Rg, δ, S0, w⟩ => ?_
    unfold gIsE at w
    split at w
    · rename_i b' e1 e2
      cases e2
      obtain ⟨b0, u, fp, q, n, f⟩ := S0
      obtain ⟨ov, f1, e3, r, _⟩ := q.get e1
      obtain ⟨_, a', ea, rfl⟩ := r
      obtain rfl : a = a' := Option.some.inj ea
      exact ⟨_, e3, .ref C', .ref C', b, rfl, fun u h => h, hkit, w _ H (Same.refl H) (RepR.plain rfl)⟩
    · exact w.elim

/-! ### join and other methods of texts -/
def fJoin (a : Str) : D → Rn Unit R
  | .lst xs => match pStrs xs with
    | some ys => if (ys.map (·.length)).sum + ys.length * a.length ≤ 16777216 then .ok (.own (.p (.str (Txt.join a ys)))) else .bad
    | none => .bad
  | .p (.tup xs) => match pStrs xs with
    | some ys => if (ys.map (·.length)).sum + ys.length * a.length ≤ 16777216 then .ok (.own (.p (.str (Txt.join a ys)))) else .bad
    | none => .bad
  | _ => .bad
def gJoin (go ge : GE) : GE := fun δ => (go δ).bind fun s => match s.d with
  | .p (.str a) => (ge δ).bind fun r => fJoin a r.d
  | _ => .bad
end
end DL
/-! DLm: join; built-ins in short. -/
namespace DL
open PySem PySem.Spec PyProof.Rows L2
section
variable {W : WX} {X : Cx} {a b e o tg iter : Expr} {es : List Expr} {ga gb gc go ge : GE} {gs : GA} {gt : GT} {gi : GI} {pos p p2 : Pos}
theorem de_join {apos : Pos} (ho : DE W X o go) (he : DE W X e ge) (hs : starEach [e] X.env = [(false, eval e X.env)] := by rfl) (hbase : attributeBase o "join" X.env (eval o X.env) = eval o X.env := by rfl) (hline : (apos.endLine == pos.line) = true := by rfl) :
    DE W X (.Call (.Attribute o "join" apos) [e] [] pos) (gJoin go ge) := by
  refine PE.imp (pe_join ho he hs hbase hline) fun σ H Q ⟨B, Rg, δ, S0, w⟩ => ?_
  refine tD_val S0 w fun r1 v1 H1 s1 rv1 S1 w1 => ?_
  split at w1
  · rename_i a ea
    obtain rfl : v1 = .str a := rv1.getP ea
    refine ⟨⟨a, rfl⟩, ?_⟩
    refine tD_val S1 w1 fun r2 v2 H2 s2 rv2 S2 w2 => ?_
    obtain ⟨fp, rd⟩ := rv2.look
    generalize r2.d = d at rd w2
    unfold fJoin at w2
    split at w2
    · rename_i xs
      split at w2
      · rename_i ys ey
        split at w2
        · rename_i hz
          obtain ⟨q, vs, rfl, hq, _, r⟩ := rd
          obtain rfl := pStrs_ok ey
          obtain rfl := r.str
          exact ⟨a, q, ys, rfl, rfl, .inl (SqL.of hq), hz, RepP.up w2 rfl⟩
        · exact w2.elim
      · exact w2.elim
    · rename_i xs
      split at w2
      · rename_i ys ey
        split at w2
        · rename_i hz
          obtain ⟨⟨q, vs, rfl, hq, r⟩, _⟩ := rd
          obtain rfl := pStrs_ok ey
          obtain rfl := r.str
          exact ⟨a, q, ys, rfl, rfl, .inr hq, hz, RepP.up w2 rfl⟩
        · exact w2.elim
      · exact w2.elim
    · exact w2.elim
  · exact w1.elim
theorem de_abs (hm : X.mg "abs" = none) (ha : DA W X (e :: es) gs) (hg : Gl X "abs" := by rfl) (he : starEach (e :: es) X.env = (false, eval e X.env) :: starEach es X.env := by rfl) (hpl : (backTo pos (starEach es X.env)).any (·.1) = false := by rfl) : DE W X (.Call (.Name "abs" p) (e :: es) [] pos) (gCall fAbs gs) :=
  de_callB call_abs cg_abs hm (by decide +kernel) ha hg (he := he) (hpl := hpl)
theorem de_max (hc : X.calm = true) (hm : X.mg "max" = none) (ha : DA W X (e :: es) gs) (hg : Gl X "max" := by rfl) (he : starEach (e :: es) X.env = (false, eval e X.env) :: starEach es X.env := by rfl) (hpl : (backTo pos (starEach es X.env)).any (·.1) = false := by rfl) : DE W X (.Call (.Name "max" p) (e :: es) [] pos) (gCall fMaxL gs) :=
  de_callB ((cr_max hc).or (call_max2 hc)) cg_max hm (by decide +kernel) ha hg (he := he) (hpl := hpl)
theorem de_min (hc : X.calm = true) (hm : X.mg "min" = none) (ha : DA W X (e :: es) gs) (hg : Gl X "min" := by rfl) (he : starEach (e :: es) X.env = (false, eval e X.env) :: starEach es X.env := by rfl) (hpl : (backTo pos (starEach es X.env)).any (·.1) = false := by rfl) : DE W X (.Call (.Name "min" p) (e :: es) [] pos) (gCall fMinL gs) :=
  de_callB ((cr_min hc).or (call_min2 hc)) cg_min hm (by decide +kernel) ha hg (he := he) (hpl := hpl)
theorem de_sum (hc : X.calm = true) (hm : X.mg "sum" = none) (ha : DA W X (e :: es) gs) (hg : Gl X "sum" := by rfl) (he : starEach (e :: es) X.env = (false, eval e X.env) :: starEach es X.env := by rfl) (hpl : (backTo pos (starEach es X.env)).any (·.1) = false := by rfl) : DE W X (.Call (.Name "sum" p) (e :: es) [] pos) (gCall fSum gs) :=
  de_callB (cr_sum hc) cg_sum hm (by decide +kernel) ha hg (he := he) (hpl := hpl)
theorem de_any (hc : X.calm = true) (hm : X.mg "any" = none) (ha : DA W X (e :: es) gs) (hg : Gl X "any" := by rfl) (he : starEach (e :: es) X.env = (false, eval e X.env) :: starEach es X.env := by rfl) (hpl : (backTo pos (starEach es X.env)).any (·.1) = false := by rfl) : DE W X (.Call (.Name "any" p) (e :: es) [] pos) (gCall (fAnyAll fun bs => bs.any id) gs) :=
  de_callB (cr_any hc) cg_any hm (by decide +kernel) ha hg (he := he) (hpl := hpl)
theorem de_all (hc : X.calm = true) (hm : X.mg "all" = none) (ha : DA W X (e :: es) gs) (hg : Gl X "all" := by rfl) (he : starEach (e :: es) X.env = (false, eval e X.env) :: starEach es X.env := by rfl) (hpl : (backTo pos (starEach es X.env)).any (·.1) = false := by rfl) : DE W X (.Call (.Name "all" p) (e :: es) [] pos) (gCall (fAnyAll fun bs => bs.all id) gs) :=
  de_callB (cr_all hc) cg_all hm (by decide +kernel) ha hg (he := he) (hpl := hpl)
theorem de_tuple (hm : X.mg "tuple" = none) (ha : DA W X (e :: es) gs) (hg : Gl X "tuple" := by rfl) (he : starEach (e :: es) X.env = (false, eval e X.env) :: starEach es X.env := by rfl) (hpl : (backTo pos (starEach es X.env)).any (·.1) = false := by rfl) : DE W X (.Call (.Name "tuple" p) (e :: es) [] pos) (gCall fTuple gs) :=
  de_callTy call_tuple_of cg_tuple hm (by decide +kernel) ha hg (he := he) (hpl := hpl)
theorem de_list (hm : X.mg "list" = none) (ha : DA W X (e :: es) gs) (hg : Gl X "list" := by rfl) (he : starEach (e :: es) X.env = (false, eval e X.env) :: starEach es X.env := by rfl) (hpl : (backTo pos (starEach es X.env)).any (·.1) = false := by rfl) : DE W X (.Call (.Name "list" p) (e :: es) [] pos) (gCall fList gs) :=
  de_callTy call_list_of cg_list hm (by decide +kernel) ha hg (he := he) (hpl := hpl)
theorem de_intc (hm : X.mg "int" = none) (ha : DA W X (e :: es) gs) (hg : Gl X "int" := by rfl) (he : starEach (e :: es) X.env = (false, eval e X.env) :: starEach es X.env := by rfl) (hpl : (backTo pos (starEach es X.env)).any (·.1) = false := by rfl) : DE W X (.Call (.Name "int" p) (e :: es) [] pos) (gCall fInt1 gs) :=
  de_callTy call_int1 cg_int hm (by decide +kernel) ha hg (he := he) (hpl := hpl)
end
end DL
/-! DLn: a loop over the list of a slot; words for the printer. -/
namespace DL
open PySem PySem.Spec PyProof.Rows L2
/-- what is lent of slot i's goes -/
def S.offT (i : Nat) : S → S
  | .bor (some j) d => if j = i then .no else .bor (some j) d
  | s => s
/-- slot i's list, lent while a loop walked it, is one's own again -/
def outV (i : Nat) (δ : Sl) : Sl := match δ[i]? with
  | some (.bor (some j) (.lst xs)) => if j = i then (δ.map (S.offT i)).set i (.own (.lst xs)) else δ.map (S.offT i)
  | _ => δ.map (S.offT i)
def Rn.outS (f : Sl → Sl) : Rn Sl Fl → Rn Sl Fl
  | .ok fl => .ok (fl.map f)
  | .err c δ => .err c (f δ)
  | .bad => .bad
  | .pick n k => .pick n fun j => (k j).outS f
theorem Rn.wp_outS {f : Sl → Sl} {Q : Fl → Prop} {E : Str → Sl → Prop} : ∀ {w : Rn Sl Fl}, (w.outS f).wp Q E → w.wp (fun fl => Q (fl.map f)) (fun c δ => E c (f δ)) := by
  intro w
  induction w with
  | ok a => exact fun h => h
  | err c e => exact fun h => h
  | bad => exact fun h => h
  | pick n k ih => exact fun h i hi => ih i (h i hi)
def notBor (i : Nat) (δ : Sl) : Bool := δ.all fun s => match s with
  | .bor (some j) _ => j != i
  | _ => true
/-- for t in x, x the name in slot i -/
def gForV (t : Tg) (i : Nat) (g : GS) : GS := fun δ => match δ[i]? with
  | some (.own (.lst xs)) => if notBor i δ = true then (gForL t g xs (δ.set i (.bor (some i) (.lst xs)))).outS (outV i) else .bad
  | some (.own (.p x)) => match (R.own (.p x)).items with
    | some xs => gForL t g xs δ
    | none => .bad
  | some (.bor _ (.p x)) => match (R.own (.p x)).items with
    | some xs => gForL t g xs δ
    | none => .bad
  | some (.bor _ (.lst xs)) => gForL t g xs δ
  | _ => .bad

section
variable {K : PySem.W.Frag} {B H H' : Hp} {ex : Option Addr} {Rg : Rgs ex}
/-- H at the addresses f alone -/
def onlyH (H : Hp) (f : List Addr) : Hp := fun b => if b ∈ f then H b else none
def lendRg (Rg : Rgs ex) (i : Nat) (G : Hp) : Rgs ex := fun t => if t = some i then G else Rg t
theorem SlotR.lend {i : Nat} {G : Hp} {s : S} {ov : Option V} {fp : List Addr} (h : SlotR K Rg H s ov fp) (hn : ∀ d, s ≠ .bor (some i) d) : SlotR K (lendRg Rg i G) H s ov fp := by
  cases s with
  | no => exact h
  | exn => exact h
  | own d => exact h
  | bor t d =>
    obtain ⟨e, v, g, e1, r, q⟩ := h
    refine ⟨e, v, g, e1, r, fun a ha => ?_⟩
    show (if t = some i then G else Rg t) a ≠ none
    rw [if_neg (fun z => hn d (by rw [z]))]
    exact q a ha
theorem SlotsR.lend0 {i : Nat} {G : Hp} : ∀ {δ : Sl} {σ : L2.St} {fp : List Addr}, SlotsR K Rg H δ σ fp → notBor i δ = true → SlotsR K (lendRg Rg i G) H δ σ fp
  | [], _, _, h, _ => h
  | s :: δ, _, _, h, n => by
    obtain ⟨ov, r, f, g, e1, e2, h1, h2⟩ := h
    unfold notBor at n
    rw [List.all_cons, Bool.and_eq_true] at n
    refine ⟨ov, r, f, g, e1, e2, h1.lend fun d z => ?_, SlotsR.lend0 h2 n.2⟩
    subst z
    simp at n
theorem SlotsR.lend {d : D} {i : Nat} : ∀ {δ : Sl} {σ : L2.St} {fp : List Addr} (j : Nat), SlotsR K Rg H δ σ fp → fp.Nodup → notBor i δ = true → δ[j]? = some (.own d) →
    ∃ v f, σ[j]? = some (some v) ∧ RepD K H d v f ∧ (∀ a ∈ f, a ∈ fp) ∧ ∃ fp', SlotsR K (lendRg Rg i (onlyH H f)) H (δ.set j (.bor (some i) d)) σ fp' ∧ fp'.Nodup ∧ ∀ b ∈ fp', b ∈ fp ∧ b ∉ f
  | [], _, _, j, _, _, _, e => by simp at e
  | s :: δ, _, _, 0, h, n, nb, e => by
    obtain ⟨ov, r, f, g, rfl, rfl, h1, h2⟩ := h
    obtain rfl : s = .own d := by simpa using e
    obtain ⟨v, rfl, rd⟩ := h1
    rw [List.nodup_append] at n
    unfold notBor at nb
    rw [List.all_cons, Bool.and_eq_true] at nb
    refine ⟨v, f, rfl, rd, fun a ha => by simp [ha], g, ⟨some v, r, [], g, rfl, rfl, ⟨rfl, v, f, rfl, rd, fun a ha => ?_⟩, SlotsR.lend0 h2 nb.2⟩, n.2.1, fun b hb => ⟨by simp [hb], fun z => n.2.2 b z b hb rfl⟩⟩
    show (if some i = some i then onlyH H f else Rg (some i)) a ≠ none
    rw [if_pos rfl]
    unfold onlyH
    rw [if_pos ha]
    exact rd.mem a ha
  | s :: δ, _, _, j + 1, h, n, nb, e => by
    obtain ⟨ov, r, f, g, rfl, rfl, h1, h2⟩ := h
    rw [List.nodup_append] at n
    unfold notBor at nb
    rw [List.all_cons, Bool.and_eq_true] at nb
    obtain ⟨v, fj, e1, rd, sub, fp', q1, q2, q3⟩ := SlotsR.lend (i := i) j h2 n.2.1 nb.2 (by simpa using e)
    refine ⟨v, fj, by simpa using e1, rd, fun a ha => by simp [sub a ha], f ++ fp', ⟨ov, r, f, fp', rfl, rfl, h1.lend fun d z => ?_, q1⟩, ?_, fun b hb => ?_⟩
    · subst z
      simp at nb
    · rw [List.nodup_append]
      exact ⟨n.1, q2, fun a ha b hb e => n.2.2 a ha b (q3 b hb).1 e⟩
    · rcases List.mem_append.mp hb with z | z
      · exact ⟨by simp [z], fun y => n.2.2 b z b (sub b y) rfl⟩
      · exact ⟨by simp [(q3 b z).1], (q3 b z).2⟩
theorem SlotR.off {i : Nat} {G : Hp} {s : S} {ov : Option V} {fp : List Addr} (h : SlotR K (lendRg Rg i G) H s ov fp) : SlotR K Rg H (s.offT i) ov fp := by
  cases s with
  | no => exact h
  | exn => exact h
  | own d => exact h
  | bor t d =>
    obtain ⟨e, v, g, e1, r, q⟩ := h
    cases t with
    | none => exact ⟨e, v, g, e1, r, fun a ha => q a ha⟩
    | some j =>
      unfold S.offT
      split
      · rename_i c d' e0
        cases e0
        split
        · exact e
        · rename_i hj
          refine ⟨e, v, g, e1, r, fun a ha => ?_⟩
          have := q a ha
          unfold lendRg at this
          rw [if_neg (fun z => hj (Option.some.inj z))] at this
          exact this
      · rename_i z; exact absurd rfl (z j d)
theorem SlotsR.off {i : Nat} {G : Hp} : ∀ {δ : Sl} {σ : L2.St} {fp : List Addr}, SlotsR K (lendRg Rg i G) H δ σ fp → SlotsR K Rg H (δ.map (S.offT i)) σ fp
  | [], _, _, h => h
  | s :: δ, _, _, h => by
    obtain ⟨ov, r, f, g, e1, e2, h1, h2⟩ := h
    exact ⟨ov, r, f, g, e1, e2, h1.off, SlotsR.off h2⟩
theorem SlotsR.putBack {s : S} {ov : Option V} {f' : List Addr} (hs : SlotR K Rg H s ov f') : ∀ {δ : Sl} {σ : L2.St} {fp : List Addr} (i : Nat), σ[i]? = some ov → SlotsR K Rg H δ σ fp → fp.Nodup → f'.Nodup → (∀ a ∈ f', a ∉ fp) →
    ∃ fp', SlotsR K Rg H (δ.set i s) σ fp' ∧ fp'.Nodup ∧ ∀ a ∈ fp', a ∈ fp ∨ a ∈ f' := fun {δ σ fp} i ei h n n' dj => by
  have hi : i < δ.length := by rw [h.len]; exact (List.getElem?_eq_some_iff.mp ei).1
  obtain ⟨fp', q1, q2, q3⟩ := SlotsR.set hs i hi h n n' dj
  have e : σ.set i ov = σ := by
    obtain ⟨h1, h2⟩ := List.getElem?_eq_some_iff.mp ei
    rw [← h2]; exact List.set_getElem_self h1
  rw [e] at q1
  exact ⟨fp', q1, q2, q3⟩
end
section
variable {W : WX} {X : Cx} {tg : Expr} {body : List Stmt} {g1 : GS} {pos p : Pos}
theorem ds_forV {t : Tg} {i : Nat} {x : Str} (hN : X.N[i]? = some x) (hv : Vis X.env.scope x) (hp : PassesOwn (model X.prog X.w) X.A X.env X.xe) (hc : X.calm = true) (hg : PG X tg (t.g X.K)) (hb : DSs W X body g1)
    (hd : (x == ("__debug__" : Str)) = false := by decide) (hcd : (x == ("__classdict__" : Str)) = false := by decide)
    (hs : ∀ y, foldedSetIterable (.Name x p) X.env y = pure y := by intro _; rfl) : DS W X (.For tg (.Name x p) body [] pos) (gForV t i g1) := by
  refine PS.imp (ps_for hp hc (pi_seq (pe_var hN hv hd hcd)) hg hb hs) fun D σ H ⟨B, Rg, δ, S0, w⟩ => ?_
  -- nothing of the slots changes
  have fin : ∀ {J : It} {G : Hp} {xs : List P}, Same G H → (∀ b, G b ≠ none → Fast H b ∨ B b ≠ none) → Runs X.K G J xs → (gForL t g1 xs δ).wp (postF X.K B Rg D) (postE (dc X W) B Rg) →
      ∃ W1 : Nat → Nat → L2.St → Hp → Prop, (∃ m, W1 0 m σ H) ∧ ∀ i m σ H, W1 i m σ H → (J.stop i H ∧ D.nx σ H) ∨
        (J.go i H ∧ ∃ N : L2.St → Hp → Prop, (∀ σ' H', N σ' H' → ∃ m', m' < m ∧ W1 (i + 1) m' σ' H') ∧ ∀ x H', J.yld i H x H' → t.g X.K x σ H' fun σ2 H2 => tDS (dc X W) g1 { nx := N, rt := D.rt, ct := N, bk := D.nx } σ2 H2) := by
    intro J G xs g1' g2 g3 w
    obtain ⟨B', b1, b2, S1⟩ := S0.hold (Same.refl H) g1' (fun a ha => .inr (g2 a ha))
    exact loop_core (c := dc X W) b2 g3 S1 (Rn.wp_mono w (fun fl q => postF_hold b1 S0.sub q) fun cl δ q => postE_hold b1 S0.sub q)
  have ofWalk : ∀ {J : It} {xs : List P}, Walk X.K (fun _ => some (.lst [])) H J xs → ∃ G, Same G H ∧ (∀ b, G b ≠ none → Fast H b ∨ B b ≠ none) ∧ Runs X.K G J xs := fun wk => by
    obtain ⟨G, z1, z2, z3⟩ := wk.ex
    exact ⟨G, z1, fun b hb => .inl ((z2 b hb).resolve_left fun z => nomatch z), z3⟩
  have plain : ∀ {x : P} {v : V} {xs : List P}, RepP X.K H x v → (R.own (.p x)).items = some xs → (gForL t g1 xs δ).wp (postF X.K B Rg D) (postE (dc X W) B Rg) → σ[i]? = some (some v) →
      tFor (iSeq X.K (tVar i)) (t.g X.K) (tDS (dc X W) g1) D σ H := by
    intro x v xs r ei w e1
    refine ⟨v, e1, ?_⟩
    unfold R.items at ei
    split at ei
    · rename_i e0; cases e0
      obtain rfl := Option.some.inj ei
      obtain ⟨a, vs, rfl, qa, ra⟩ := r
      obtain ⟨G, z1, z2, z3⟩ := ofWalk (.tup qa ra)
      exact .inr (.inl ⟨a, rfl, ⟨vs, qa⟩, fin z1 z2 z3 w⟩)
    · rename_i e0; cases e0
    · rename_i z e0; cases e0
      obtain rfl := Option.some.inj ei
      obtain rfl : v = .str z := r
      obtain ⟨G, z1, z2, z3⟩ := ofWalk (.str z)
      exact .inr (.inr ⟨z, rfl, fin z1 z2 z3 w⟩)
    · rename_i e0; cases e0
    · rename_i e0; cases e0
    · cases ei
  unfold gForV at w
  split at w
  · rename_i xs es
    split at w
    · rename_i nb
      obtain ⟨bs, bu, fp, q, n, f⟩ := S0
      obtain ⟨v, f1, e1, rd, sub, fp', q1, q2, q3⟩ := SlotsR.lend (i := i) i q n nb es
      have fB : ∀ a ∈ f1, B a = none := fun a ha => f a (sub a ha)
      -- B with the list
      have S1 : SRel X.K (fun b => if b ∈ f1 then H b else B b) (lendRg Rg i (onlyH H f1)) σ H (δ.set i (.bor (some i) (.lst xs))) := by
        refine ⟨fun b o e => ?_, fun tt b o e => ?_, fp', q1, q2, fun b hb => ?_⟩
        · have e' : (if b ∈ f1 then H b else B b) = some o := e
          split at e'
          · exact e'
          · exact bs b o e'
        · show (if b ∈ f1 then H b else B b) = some o
          have e' : (if tt = some i then onlyH H f1 else Rg tt) b = some o := e
          split at e'
          · unfold onlyH at e'
            split at e'
            · rename_i hm; rw [if_pos hm]; exact e'
            · cases e'
          · have z := bu tt b o e'
            split
            · rename_i hm; rw [fB b hm] at z; cases z
            · exact z
        · show (if b ∈ f1 then H b else B b) = none
          rw [if_neg (q3 b hb).2]
          exact f b (q3 b hb).1
      have bB : Same B (fun b => if b ∈ f1 then H b else B b) := fun b o e => by
        show (if b ∈ f1 then H b else B b) = some o
        split
        · exact bs b o e
        · exact e
      obtain ⟨a, vs, rfl, qa, rfl, ra⟩ := rd
      obtain ⟨G, z1, z2, z3⟩ := runs_list (K := X.K) qa ra
      obtain ⟨B', b1, b2, S2⟩ := S1.hold (Same.refl H) z1 (fun b hb => .inr ((z2 b hb).elim (fun e => .inr (by
        subst e
        show (if b ∈ [b] then H b else B b) ≠ none
        rw [if_pos (by simp), qa]; exact fun z => nomatch z)) .inl))
      have back : ∀ {σ' : L2.St} {H' : Hp} {δ' : Sl}, SRel X.K B' (lendRg Rg i (onlyH H [a])) σ' H' δ' → SRel X.K B Rg σ' H' (outV i δ') := by
        intro σ' H' δ' S3
        obtain ⟨cs, cu, gp, p1, p2, p3⟩ := S3
        have BB : Same B B' := bB.trans b1
        have p1' := p1.off
        unfold outV
        split
        · rename_i j ys ej
          split
          · rename_i hj
            subst hj
            obtain ⟨ov, gf, w1, w2, _⟩ := p1.get ej
            obtain ⟨_, u, g, rfl, rg, hg⟩ := w2
            obtain ⟨a', us, rfl, qa', rfl, ra'⟩ := rg
            have ha' : (if (some j : Option Nat) = some j then onlyH H [a] else Rg (some j)) a' ≠ none := hg a' (by simp)
            rw [if_pos rfl] at ha'
            unfold onlyH at ha'
            split at ha'
            · rename_i hm
              obtain rfl : a' = a := by simpa using hm
              have nB : B a' = none := fB a' (by simp)
              obtain ⟨fp2, r1, r2, r3⟩ := SlotsR.putBack (s := .own (.lst ys)) (f' := [a']) ⟨_, rfl, a', us, rfl, qa', rfl, ra'⟩ j w1 p1' p2 (by simp) (fun b hb hc => by
                obtain rfl : b = a' := by simpa using hb
                have := p3 b hc
                have z : B' b = some (.lst vs) := b1 b _ (by show (if b ∈ [b] then H b else B b) = _; rw [if_pos (by simp)]; exact qa)
                rw [this] at z; cases z)
              refine ⟨BB.trans cs, bu, fp2, r1, r2, fun b hb => ?_⟩
              rcases r3 b hb with z | z
              · exact BB.free (p3 b z)
              · obtain rfl : b = a' := by simpa using z
                exact nB
            · exact absurd rfl ha'
          · exact ⟨BB.trans cs, bu, gp, p1', p2, fun b hb => BB.free (p3 b hb)⟩
        · exact ⟨BB.trans cs, bu, gp, p1', p2, fun b hb => BB.free (p3 b hb)⟩
      refine ⟨_, e1, .inl ⟨a, rfl, ⟨vs, SqL.of qa⟩, ?_⟩⟩
      refine loop_core (c := dc X W) b2 z3 S2 (Rn.wp_mono (Rn.wp_outS w) (fun fl q => ?_) fun cl δ q C σ' H' e S => q C σ' H' e (back S))
      cases fl with
      | nx δ' => exact fun σ' H' S => q σ' H' (back S)
      | bk δ' => exact fun σ' H' S => q σ' H' (back S)
      | ct δ' => exact fun σ' H' S => q σ' H' (back S)
      | ret d => exact fun v H' s ⟨fp, r, n, f⟩ => q v H' ((bB.trans b1).trans s) ⟨fp, r, n, fun a ha => (bB.trans b1).free (f a ha)⟩
    · exact w.elim
  · rename_i x es
    split at w
    · rename_i xs ex
      obtain ⟨v, g, e1, r⟩ := S0.slot es (.inl rfl)
      exact plain r.1 ex w e1
    · exact w.elim
  · rename_i tt x es
    split at w
    · rename_i xs ex
      obtain ⟨v, g, e1, r⟩ := S0.slot es (.inr ⟨tt, rfl⟩)
      exact plain r.1 ex w e1
    · exact w.elim
  · rename_i tt xs es
    obtain ⟨bs, bu, fp, q, n, f⟩ := id S0
    obtain ⟨ov, f1, e1, r, _⟩ := q.get es
    obtain ⟨_, v, g, rfl, rd, hg⟩ := r
    obtain ⟨a, vs, rfl, qa, rfl, ra⟩ := rd
    obtain ⟨G, z1, z2, z3⟩ := runs_list (K := X.K) qa ra
    refine ⟨_, e1, .inl ⟨a, rfl, ⟨vs, SqL.of qa⟩, fin z1 (fun b hb => (z2 b hb).elim (fun e => .inr ?_) .inl) z3 w⟩⟩
    subst e
    cases z : Rg tt b with
    | none => exact absurd z (hg b (by simp))
    | some o => rw [bu tt b o z]; exact fun z => nomatch z
  · exact w.elim
end
end DL
/-! DLo: the draws of a law: what _law_begin and _law_take promise, the list of draws hidden. -/
namespace DL
open PySem PySem.Spec PyProof.Rows L2
theorem iteTT {c : Bool} {A B : Prop} (hc : c = true) (h : A) : if c = true then A else B := by rw [if_pos hc]; exact h
theorem iteFF {c : Bool} {A B : Prop} (hc : c = false) (h : B) : if c = true then A else B := by rw [hc, if_neg (by decide)]; exact h
section
variable {P : Program} {w : World} {K : PySem.W.Frag} {mg : Str → Option Value} {base : Heap} {H : Hp} {h : Heap} {a s : Addr}
theorem hok_swap {o o' : HO} (ok : HOk P w H h) (ea : H a = some o) (n1 : ∀ x, o ≠ .own x) (n2 : ∀ xs, o ≠ .tup xs) (new : ObjOk P w (upd H a o') h a o') : HOk P w (upd H a o') h := fun b u e => by
  by_cases hb : b = a
  · subst hb; rw [upd_same] at e; cases e; exact new
  · rw [upd_ne hb] at e
    refine (ok b u e).stay (fun c v _ q => q) (fun c q => ?_) fun c xs q => ?_
    · rw [upd_ne (fun z => by subst z; rw [ea] at q; exact n1 _ (Option.some.inj q))]; exact q
    · rw [upd_ne (fun z => by subst z; rw [ea] at q; exact n2 _ (Option.some.inj q))]; exact q
theorem orc_hide {i b z : Int} (ok : HOk P w H h) (ea : H a = some (.lst [.ref s, .int i, .int b, .int z])) (hi : 0 ≤ i) (hb : 0 ≤ b) (hz : 0 ≤ z) (hz2 : z < 2147483647) : HOk P w (upd H a (.ext (OrcAt a s))) h := by
  obtain ⟨_, its, n, r, e⟩ := ok a _ ea
  refine hok_swap ok ea (fun _ z => by cases z) (fun _ z => by cases z) ?_
  cases r with
  | cons r1 r =>
    cases r with
    | cons r2 r =>
      cases r with
      | cons r3 r =>
        cases r with
        | cons r4 r =>
          cases r
          obtain rfl := (r1 : _ = Value.ref s)
          obtain ⟨t2, rfl⟩ := r2
          obtain ⟨t3, rfl⟩ := r3
          obtain ⟨t4, rfl⟩ := r4
          refine ⟨⟨i, b, z, t2, t3, t4, n, e, hi, hb, hz, hz2⟩, ⟨_, e⟩, fun h1 h2 ⟨i, b, z, t2, t3, t4, n, e, q⟩ k => ⟨i, b, z, t2, t3, t4, n, k _ e, q⟩⟩
theorem orc_show (ok : HOk P w H h) (ea : H a = some (.ext (OrcAt a s))) : ∃ i b z : Int, HOk P w (upd H a (.lst [.ref s, .int i, .int b, .int z])) h ∧ 0 ≤ i ∧ 0 ≤ b ∧ 0 ≤ z ∧ z < 2147483647 := by
  obtain ⟨⟨i, b, z, t2, t3, t4, n, e, q⟩, _⟩ := ok a _ ea
  refine ⟨i, b, z, hok_swap ok ea (fun _ z => by cases z) (fun _ z => by cases z) ?_, q⟩
  exact ⟨by rw [sizeLine_eq]; show 4 ≤ 16777216; decide, _, n, .cons rfl (.cons ⟨t2, rfl⟩ (.cons ⟨t3, rfl⟩ (.cons ⟨t4, rfl⟩ .nil))), e⟩
/-- the draws' list as a list of values: _law_take -/
def spTakeL : Sp := fun vs H Q _ => ∃ (a s : Addr) (i b z many : Int) (ns : List Int), vs = [.ref a, .int many] ∧ H a = some (.lst [.ref s, .int i, .int b, .int z]) ∧ H s = some (.lst (ns.map V.int)) ∧
  0 < many ∧ many.natAbs.log2 < 9000 ∧ 0 ≤ i ∧ 0 ≤ b ∧ 0 ≤ z ∧ z < 2147483647 ∧
  ∀ r i' b' z' : Int, 0 ≤ r → r < many → 0 ≤ i' → 0 ≤ b' → 0 ≤ z' → z' < 2147483647 → Q (.int r) (upd H a (.lst [.ref s, .int i', .int b', .int z']))
/-- _law_begin -/
def spBegL (K : PySem.W.Frag) : Sp := fun vs H Q _ => ∃ (p : Addr) (ns : List Int), vs = [.ref p] ∧ ns.length ≤ 63 ∧ SqL K H p (ns.map V.int) ∧
  ∀ (a s : Addr) (z : Int) (H' : Hp), Same H H' → H a = none → H s = none → a ≠ s → H' a = some (.lst [.ref s, .int 0, .int 0, .int z]) → H' s = some (.lst (ns.map V.int)) → 0 ≤ z → z < 2147483647 → Q (.ref a) H'
/-- a draw -/
def takeF : Fn
  | [.orc, .p (.int n)] => if 0 < n ∧ n.natAbs.log2 < 9000 then .pick n.toNat fun i => .ok (.p (.int (i : Int))) else .bad
  | _ => .bad
def beginF : Fn
  | [.scr ns] => if ns.length ≤ 63 then .ok .orc else .bad
  | _ => .bad
theorem take_hide {k : Nat} {f : Addr} {fd : FuncData} {ps : List Str} (F : FnOk P w K mg base CX0 k f fd ps spTakeL) (hp : ps.length = 2) : FnOk P w K mg base (L2.CX P w) k f fd ps (spD K mg 2 takeF) := by
  refine ⟨fun vs H Q E ⟨ds, hl, lk, _⟩ => by rw [lk.len, hl, hp], fun A outer st H args us vs Q E hr e0 hb r ⟨ds, hl, lk, wpv⟩ => ?_⟩
  unfold takeF at wpv
  split at wpv
  · rename_i n
    split at wpv
    · rename_i hn
      obtain ⟨v, u, fp, gp, rfl, r1, r2⟩ := lk.two
      obtain ⟨a, s, ns, rfl, _, ea, es⟩ := r1
      obtain rfl : u = .int n := r2.1
      obtain ⟨i, b, z, ok1, hi, hb', hz, hz2⟩ := orc_show e0.hok ea
      have ne : ∀ {c : Addr}, H c = none → c ≠ a := fun q z => by subst z; rw [ea] at q; cases q
      have nes : s ≠ a := fun z => by subst z; rw [es] at ea; cases ea
      have e1 : Env0 P w K mg base A outer st (upd H a (.lst [.ref s, .int i, .int b, .int z])) := ⟨e0.frames, e0.mod, fun c o q => ⟨(e0.bs c o q).1, by rw [upd_ne (ne (e0.bs c o q).2)]; exact (e0.bs c o q).2⟩, e0.bsz, e0.funs,
        fun c hc => by rw [upd_ne (ne (e0.frf c hc))]; exact e0.frf c hc, ok1, e0.bare⟩
      refine codeAny_mono (F.run A outer st _ args us _ (fun v H2 => ∃ r i' b' z' : Int, v = .int r ∧ 0 ≤ r ∧ r < n ∧ 0 ≤ i' ∧ 0 ≤ b' ∧ 0 ≤ z' ∧ z' < 2147483647 ∧ H2 = upd (upd H a (.lst [.ref s, .int i, .int b, .int z])) a (.lst [.ref s, .int i', .int b', .int z'])) (fun _ _ _ => False) hr e1 hb r
        ⟨a, s, i, b, z, n, ns, rfl, upd_same, by rw [upd_ne nes]; exact es, hn.1, hn.2, hi, hb', hz, hz2, fun r i' b' z' h1 h2 h3 h4 h5 h6 => ⟨r, i', b', z', rfl, h1, h2, h3, h4, h5, h6, rfl⟩⟩) fun res s' hq => ?_
      cases res with
      | error e => exact False.elim hq
      | ok fl =>
        cases fl with
        | next => exact False.elim hq
        | brk => exact False.elim hq
        | cont => exact False.elim hq
        | ret u =>
          obtain ⟨v, H2, os, bare, un, hok, rv, r, i', b', z', rfl, h1, h2, h3, h4, h5, h6, rfl⟩ := hq
          have back : upd (upd (upd H a (.lst [.ref s, .int i, .int b, .int z])) a (.lst [.ref s, .int i', .int b', .int z'])) a (.ext (OrcAt a s)) = H := by
            rw [upd_upd, upd_upd]
            funext c
            by_cases hc : c = a
            · subst hc; rw [upd_same, ea]
            · rw [upd_ne hc]
          have hok2 := orc_hide hok upd_same h3 h4 h5 h6
          rw [back] at hok2
          refine ⟨.int r, H, os, bare, ⟨fun c o e n hx he => un.keep c o e (by rw [upd_ne (ne n)]; exact n) hx he, fun c o e n hx he => un.slot c o e (by rw [upd_ne (ne n)]; exact n) hx he, fun c o e n he => n, un.there, fun c xs q => q, fun c o u q => q, fun c ps q => ⟨#[], by rw [q]; simp⟩⟩, hok2, rv, ?_⟩
          have := wpv r.toNat (by omega)
          dsimp only [Rn.wp] at this
          rw [show ((r.toNat : Nat) : Int) = r by omega] at this
          exact this (.int r) H (Same.refl H) ⟨[], ⟨rfl, rfl⟩, List.nodup_nil, fun _ z => nomatch z⟩
    · exact wpv.elim
  · exact wpv.elim
theorem begin_hide {k : Nat} {f : Addr} {fd : FuncData} {ps : List Str} (F : FnOk P w K mg base CX0 k f fd ps (spBegL K)) (hp : ps.length = 1) : FnOk P w K mg base (L2.CX P w) k f fd ps (spD K mg 1 beginF) := by
  refine ⟨fun vs H Q E ⟨ds, hl, lk, _⟩ => by rw [lk.len, hl, hp], fun A outer st H args us vs Q E hr e0 hb r ⟨ds, hl, lk, wpv⟩ => ?_⟩
  unfold beginF at wpv
  split at wpv
  · rename_i ns
    split at wpv
    · rename_i hn
      obtain ⟨v, fp, rfl, r1⟩ := lk.one
      obtain ⟨_, p, rfl, hp'⟩ := r1
      have sq : SqL K H p (ns.map V.int) := hp'.elim (fun ⟨o, q⟩ => .inl (.inr ⟨o, q⟩)) .inr
      refine codeAny_mono (F.run A outer st H args us _ (fun v H2 => ∃ (a s : Addr) (z : Int), v = .ref a ∧ Same H H2 ∧ H a = none ∧ H s = none ∧ a ≠ s ∧ H2 a = some (.lst [.ref s, .int 0, .int 0, .int z]) ∧ H2 s = some (.lst (ns.map V.int)) ∧ 0 ≤ z ∧ z < 2147483647) (fun _ _ _ => False) hr e0 hb r
        ⟨p, ns, rfl, hn, sq, fun a s z H' h1 h2 h3 h4 h5 h6 h7 h8 => ⟨a, s, z, rfl, h1, h2, h3, h4, h5, h6, h7, h8⟩⟩) fun res s' hq => ?_
      cases res with
      | error e => exact False.elim hq
      | ok fl =>
        cases fl with
        | next => exact False.elim hq
        | brk => exact False.elim hq
        | cont => exact False.elim hq
        | ret u =>
          obtain ⟨v, H2, os, bare, un, hok, rv, a, s, z, rfl, sm, na, ns', nas, ea, es, hz, hz2⟩ := hq
          have ne : ∀ {c : Addr} {o : Option HO}, H2 c = o → o ≠ some (.lst [.ref s, .int 0, .int 0, .int z]) → c ≠ a := fun q d z => by subst z; rw [ea] at q; exact d q.symm
          refine ⟨.ref a, upd H2 a (.ext (OrcAt a s)), os, bare, ⟨un.keep, un.slot, fun c o e n he => ?_, un.there, fun c xs q => ?_, fun c o u q => ?_, fun c ps q => ?_⟩, orc_hide hok ea (by omega) (by omega) hz hz2, rv, ?_⟩
          · have q := un.free c o e n he
            rw [upd_ne (ne q (fun z => nomatch z))]; exact q
          · have q := un.tups c xs q
            rw [upd_ne (ne q (fun z => by cases z))]; exact q
          · have q := un.frzs c o u q
            rw [upd_ne (ne q (fun z => by cases z))]; exact q
          · obtain ⟨more, q⟩ := un.tbls c ps q
            exact ⟨more, by rw [upd_ne (ne q (fun z => by cases z))]; exact q⟩
          · have sm2 : Same H (upd H2 a (.ext (OrcAt a s))) := fun c o e => by
              rw [upd_ne (fun z => by subst z; rw [na] at e; cases e)]; exact sm c o e
            refine wpv (.ref a) _ sm2 ⟨[a, s], ⟨a, s, ns, rfl, rfl, upd_same, by rw [upd_ne nas.symm]; exact es⟩, by simp [nas], fun c hc => ?_⟩
            rcases List.mem_cons.mp hc with rfl | hc
            · exact na
            · obtain rfl : c = s := by simpa using hc
              exact ns'
    · exact wpv.elim
  · exact wpv.elim
/-! ### reading -/
theorem rd_ix {σ : L2.St} {Q : VK} {xs : List V} {i : Int} {v : V} (h0 : σ[0]? = some (some (.ref a))) (hH : H a = some (.lst xs)) (e : atI xs i = some v) (q : Q v H) :
    tOp (rIxL K) (tVar 0) (tC (.int i)) σ H Q := ⟨_, h0, a, xs, i, v, rfl, rfl, SqL.of hH, e, q⟩
end
end DL
/-! DLp: short words for the printer. -/
namespace DL
open PySem PySem.Spec PyProof.Rows L2
/-- a def as the top leaves it -/
structure DefT (K : PySem.W.Frag) (mg : Str → Option Value) (x : Str) (st : Stmt) (ps : List Str) : Prop where
  ex : ∃ (a : Addr) (fd : FuncData), mg x = some (.ref a) ∧ Fun K x x st a fd ∧ Binds K fd ps []
/-- a class that a clause names -/
structure CatchC (K : PySem.W.Frag) (mg : Str → Option Value) (x : Str) (sub : Str → Option Bool) : Prop where
  ex : ∃ C, mg x = some (.ref C) ∧ ErrT K mg (.ref C) sub
section
variable {P : Program} {w : World} {K : PySem.W.Frag} {mg : Str → Option Value} {base : Heap}
theorem fd_of {x : Str} {st : Stmt} {ps : List Str} {k : Nat} {f : Fn} (T : DefT K mg x st ps) (h : ∀ (a : Addr) (fd : FuncData), Fun K x x st a fd → FnOk P w K mg base (L2.CX P w) k a fd ps (spD K mg ps.length f)) : FD P w K mg base k x ps.length f := by
  obtain ⟨a, fd, e, F, b⟩ := T.ex
  exact ⟨a, fd, ps, e, F.2, b, h a fd F⟩
theorem FD.mono {x : Str} {j k n : Nat} {f : Fn} (F : FD P w K mg base j x n f) (h : j ≤ k) : FD P w K mg base k x n f := by
  obtain ⟨a, fd, ps, e, kp, b, g⟩ := F.ex
  exact ⟨a, fd, ps, e, kp, b, g.mono h⟩
end
section
variable {W : WX} {X : Cx} {a b c e tg iter : Expr} {es : List Expr} {ga gb gc : GE} {gs : GA} {gt : GT} {gi : GI} {g1 g2 : GS} {st : Stmt} {sts body : List Stmt} {pos p p2 : Pos}
theorem dv (i : Nat) {x : Str} (hN : X.N[i]? = some x := by rfl) (hv : Vis X.env.scope x := by first | exact Or.inl rfl | exact Or.inr (Or.inl rfl) | exact Or.inr (Or.inr rfl)) (hd : (x == ("__debug__" : Str)) = false := by decide) (hcd : (x == ("__classdict__" : Str)) = false := by decide) : DE W X (.Name x pos) (gVar i) := de_var hN hv hd hcd
theorem op_eqA (hu : X.A.units + 64 < cLine) : OpR X (compareOp .Eq) (rEqA X.K) := op_eq.or (op_eqD hu)
theorem op_neA (hu : X.A.units + 64 < cLine) : OpR X (compareOp .NotEq) (rNeA X.K) := op_ne.or (op_neD hu)
theorem hu64 {A : Around} {k : Nat} (hr : Room k A) : A.units + 64 < cLine := Nat.lt_of_le_of_lt (Nat.add_le_add_left (by omega) _) hr.units
theorem ds_tryC {x n : Str} {b₀ : Stmt} {suite : List Stmt} {np pos' : Pos} {sub : Str → Option Bool} {i : Nat} {gsu : Str → GS} (cc : CatchC X.K X.mg x sub) (hs : X.stack = X.env :: X.outer) (hf : X.env.frame = some X.env.locals) (hcal : X.calm = true) (hN : X.N.Nodup) (tk : Takes X W)
    (hb : ∀ (W' : WX) (pn : List (Addr × Obj)) (xe : Value → Shared → Prop), Takes (X.tr pn xe) W' → PassesOwn (model X.prog X.w) X.A X.env xe → DSs W' (X.tr pn xe) body g1)
    (hsu : ∀ (cl : Str) (C a : Addr) (oe : Obj) (pn : List (Addr × Obj)), X.mg cl = some (.ref C) → Zc (.ref C) none oe → (∃ vs, oe.data = .fields vs) → DSs W0 (X.suite a ((a, oe) :: pn)) (b₀ :: suite) (gsu cl))
    (hi : X.N[i]? = some n := by rfl) (hln : X.env.kindOf n = some .local := by rfl) (hg : Gl X x := by rfl) (hdb : (x == ("__debug__" : Str)) = false := by decide) :
    DS W X (.Try body [.ExceptHandler (some (.Name x np)) (some n) (b₀ :: suite) pos'] [] [] pos) (gTry sub i g1 gsu) := by
  obtain ⟨C, hC, et⟩ := cc.ex
  exact ds_tryAs hs hf hcal hN hi hln ⟨hg, hdb, .inl hC⟩ et tk hb hsu
/-- the table of a class -/
def tabS (t : List (Str × Bool)) : Str → Option Bool := fun c => t.lookup c
theorem tab_mem : ∀ {t : List (Str × Bool)} {c : Str} {b : Bool}, tabS t c = some b → (c, b) ∈ t := by
  intro t
  induction t with
  | nil => intro c b h; cases h
  | cons p t ih =>
    intro c b h
    obtain ⟨x, v⟩ := p
    unfold tabS at h
    rw [List.lookup_cons] at h
    split at h
    · rename_i e
      have e' : c = x := by simpa using e
      have h' : v = b := Option.some.inj h
      rw [e', h']
      exact List.mem_cons_self
    · exact List.mem_cons_of_mem _ (ih h)
end
/-! ### what the top tells -/
section
variable {K : PySem.W.Frag} {mg : Str → Option Value}
/-- a class of errors as the top leaves it -/
structure ClsT (K : PySem.W.Frag) (mg : Str → Option Value) (x : Str) (C : Addr) : Prop where
  mg : mg x = some (.ref C)
  ex : PySem.W.excIn K C [.type "ValueError", .type "Exception", .type "BaseException", .type "object"] "ValueError.__new__" = true
  kp : PySem.W.keepIn K (.ref C) = true
  hs : PySem.W.subIn K (.ref C) (.type "BaseException") = some true
  ty : PySem.W.typeIn K (.ref C) = some (.type "type")
  hg : PySem.W.findIn K (.ref C) "__getattribute__" = some (some (.builtin "BaseException.__getattribute__"))
  hk : PySem.W.findIn K (.ref C) "__getattr__" = some none
  hd : PySem.W.hasDictIn K C = true
  ha : PySem.W.findIn K (.ref C) "__class__" = some (some (.builtin "object.__class__"))
  hm : PySem.W.mroIn K C (.type "object") = some true
theorem ClsT.err {x : Str} {C : Addr} (T : ClsT K mg x C) : ErrC K mg x := ⟨C, T.mg, T.ex, T.kp, T.hs, T.ty⟩
structure ObjT (K : PySem.W.Frag) : Prop where
  hn : PySem.W.specialIn K (.builtin "object.__class__") "__get__" = some (some (.builtin "getset_descriptor.__get__"))
  ht : PySem.W.takesIn K (.builtin "object.__class__") = some true
theorem ClsT.excC {x : Str} {C : Addr} (T : ClsT K mg x C) (O : ObjT K) : ExcC K C := ⟨T.hg, T.hk, T.hs, T.hd, T.ha, O.hn, O.ht, T.hm⟩
/-- which classes are kinds of the class at C -/
inductive SubT (K : PySem.W.Frag) (mg : Str → Option Value) (C : Addr) : List (Str × Bool) → Prop
  | nil : SubT K mg C []
  | cons {x : Str} {D : Addr} {b : Bool} {t : List (Str × Bool)} (T : ClsT K mg x D) (h : PySem.W.subIn K (.ref D) (.ref C) = some b) (r : SubT K mg C t) : SubT K mg C ((x, b) :: t)
theorem SubT.get {C : Addr} : ∀ {t : List (Str × Bool)} {x : Str} {b : Bool}, SubT K mg C t → (x, b) ∈ t → ∃ D, ClsT K mg x D ∧ PySem.W.subIn K (.ref D) (.ref C) = some b
  | _, _, _, .nil, h => by cases h
  | _, x, b, .cons T h r, hm => by
    rcases List.mem_cons.mp hm with e | e
    · cases e; exact ⟨_, T, h⟩
    · exact SubT.get r e
theorem catch_of {x : Str} {C : Addr} {t : List (Str × Bool)} (T : ClsT K mg x C) (S : SubT K mg C t) : CatchC K mg x (tabS t) := by
  refine ⟨C, T.mg, fun c b D e hm => ?_⟩
  obtain ⟨D', T', h⟩ := S.get (tab_mem e)
  have : D' = D := by have := T'.mg.symm.trans hm; exact Value.ref.inj (Option.some.inj this)
  subst this
  exact PySem.W.exm_ref T.hs T.hd T.ty h
theorem kit_ref {C D : Addr} {b : Bool} (hd : PySem.W.hasDictIn K C = true) (ht : PySem.W.typeIn K (.ref C) = some (.type "type")) (h : PySem.W.subIn K (.ref D) (.ref C) = some b) (he : D = C → b = true) : PySem.W.kitOne K (.ref D) (.ref C) = some b := by
  unfold PySem.W.kitOne
  by_cases e : (Value.ref D == Value.ref C) = true
  · rw [if_pos e]
    have := Value.ref.inj (beq_iff_eq.mp e)
    rw [he this]
  · rw [if_neg e]
    obtain ⟨cd, hc, _⟩ := PySem.W.any_some hd
    show (if ((PySem.W.clsIn K C).isSome && PySem.W.typeIn K (.ref C) == some (.type "type")) = true then PySem.W.subIn K (.ref D) (.ref C) else none) = some b
    rw [hc, ht]
    exact h
theorem isT_of {x : Str} {C : Addr} {t : List (Str × Bool)} (T : ClsT K mg x C) (O : ObjT K) (S : SubT K mg C t) (hx : (x, true) ∈ t) (hself : PySem.W.subIn K (.ref C) (.ref C) = some true) : IsT K mg x (tabS t) := by
  refine ⟨C, T.mg, fun c b D e hm => ?_⟩
  obtain ⟨D', T', h⟩ := S.get (tab_mem e)
  have : D' = D := by have := T'.mg.symm.trans hm; exact Value.ref.inj (Option.some.inj this)
  subst this
  refine ⟨T'.excC O, kit_ref T.hd T.ty h fun e => ?_⟩
  subst e
  rw [hself] at h
  exact (Option.some.inj h).symm
/-- a constant of the top stands for plain data -/
inductive RepK (K : PySem.W.Frag) : Value → P → Prop
  | non : RepK K .none .non
  | bl (b : Bool) : RepK K (.bool b) (.bl b)
  | int {i : Int} {t : Tok} : RepK K (.int i t) (.int i)
  | str {x : Str} {t : Tok} : RepK K (.str x t) (.str x)
  | tup {a : Addr} {od : Option Addr} {its : List Value} {n : Nat} {sl : Array (Option Value)} {xs : List P} (l : K.lookup a = some ⟨.type "tuple", od, .seq its.toArray n, sl⟩) (hz : its.length ≤ 1000) (h : PySem.Paired (RepK K) its xs) : RepK K (.ref a) (.tup xs)
mutual
theorem RepK.ok : ∀ {u : Value} {p : P}, RepK K u p → ∃ v, RelV v u ∧ ∀ H, RepP K H p v
  | _, _, .non => ⟨.non, rfl, fun _ => rfl⟩
  | _, _, .bl b => ⟨.bl b, rfl, fun _ => rfl⟩
  | _, _, .int (i := i) (t := t) => ⟨.int i, ⟨t, rfl⟩, fun _ => rfl⟩
  | _, _, .str (x := x) (t := t) => ⟨.str x, ⟨t, rfl⟩, fun _ => rfl⟩
  | _, _, .tup (a := a) (its := its) (n := n) l hz h => by
    obtain ⟨vs, r, q⟩ := RepK.oks h
    exact ⟨.ref a, rfl, fun H => ⟨a, vs, rfl, .inr ⟨_, its.toArray, n, l, rfl, rfl, by rw [sizeLine_eq]; simp; omega, by simpa using r⟩, q H⟩⟩
theorem RepK.oks : ∀ {us : List Value} {ps : List P}, PySem.Paired (RepK K) us ps → ∃ vs, Vals vs us ∧ ∀ H, RepPs K H ps vs
  | _, _, .nil => ⟨[], .nil, fun _ => rfl⟩
  | _, _, .cons h t => by
    obtain ⟨v, r, q⟩ := RepK.ok h
    obtain ⟨vs, r', q'⟩ := RepK.oks t
    exact ⟨v :: vs, .cons r r', fun H => ⟨v, vs, rfl, q H, q' H⟩⟩
end
theorem gc_of {x : Str} {u : Value} {p : P} (e : mg x = some u) (h : RepK K u p) : GC K mg x p := by
  obtain ⟨v, r, q⟩ := h.ok
  exact ⟨u, v, e, r, q⟩
end
end DL
/-! DLq: the law's own head. -/
namespace DL
open PySem PySem.Spec PyProof.Rows L2
theorem tk0 {X : Cx} : Takes X W0 := fun _ _ ⟨_, _, _, _, _, _, _, _, _, _, _, _, _, _, _, _, w⟩ => w.elim
theorem cx_never {P : Program} {w : World} {H : Hp} {s : Shared} {e : Value} {s' : Shared} (h : L2.CX P w [] H s (fun _ _ _ => False) e s') : False := by
  obtain ⟨_, _, _, _, _, _, _, _, _, _, _, _, h⟩ := h
  exact h
/-- the promise of a law that raises nothing -/
def spAny (f : Fn) (K : PySem.W.Frag) : Sp := fun vs H Q E => ∃ ds : List D, ds.length = 1 ∧ LookL K H ds vs ∧ (f ds).wp (fun d => postR K H d Q) fun _ _ => False
theorem spAny_of {P : Program} {w : World} {K : PySem.W.Frag} {mg : Str → Option Value} {k : Nat} {fa : Addr} {f : Fn} {x : Str} {Z : Heap → Prop}
    (h : ∃ fd : FuncData, (∀ (s : Shared) (v : Value), BindsTo s fd ⟨[v], []⟩ [(x, v)]) ∧ ∀ base : Heap, K.In base → Z base → FnOk P w K mg base (L2.CX P w) k fa fd [x] (spD K mg 1 f)) :
    ∃ fd : FuncData, (∀ (s : Shared) (v : Value), BindsTo s fd ⟨[v], []⟩ [(x, v)]) ∧ ∀ base : Heap, K.In base → Z base → FnOk P w K mg base (L2.CX P w) k fa fd [x] (spAny f K) := by
  obtain ⟨fd, h1, h2⟩ := h
  exact ⟨fd, h1, fun base a b => (h2 base a b).imp fun vs H Q E ⟨ds, h1, h2, h3⟩ => ⟨ds, h1, h2, Rn.wp_mono h3 (fun _ q => q) fun _ _ z => z.elim⟩⟩
theorem law_sp {K : PySem.W.Frag} {H : Hp} {a : Addr} {ns : List Int} {f : Fn} (hl : ns.length ≤ 63) (hO : Only H) (hS : SqL K H a (ns.map V.int))
    (h : ∀ ns : List Int, ns.length ≤ 63 → (f [.scr ns]).wp (fun d => d = .p (.bl true)) fun _ _ => False) : spAny f K [.ref a] H (fun v _ => v = .bl true) fun _ _ _ => False := by
  have hr : RepD K H (.scr ns) (.ref a) [] := by
    refine ⟨rfl, a, rfl, ?_⟩
    rcases hS with (q | q) | q
    · rcases hO a with z | ⟨o, xs, z⟩
      · rw [z] at q; cases q
      · rw [z] at q; cases q
    · exact .inl q
    · exact .inr q
  refine ⟨[.scr ns], rfl, ⟨.ref a, [], rfl, ⟨[], hr⟩, rfl⟩, Rn.wp_mono (h ns hl) (fun d e => ?_) fun _ _ z => z⟩
  subst e
  intro v H' s r
  obtain ⟨fp, r, _⟩ := r
  have : v = .bl true := r.1
  exact this
end DL
/-! DLr: reading the mirrors. -/
namespace DL
open PySem PySem.Spec PyProof.Rows L2
section
variable {ε ε' α β : Type} {c : Prop} [Decidable c]
theorem Rn.bind_ite {a b : Rn ε α} {f : α → Rn ε β} : (if c then a else b).bind f = if c then a.bind f else b.bind f := by split <;> rfl
theorem Rn.mapErr_ite {a b : Rn ε α} {f : ε → ε'} : (if c then a else b).mapErr f = if c then a.mapErr f else b.mapErr f := by split <;> rfl
theorem Rn.wp_ite {a b : Rn ε α} {Q : α → Prop} {E : Str → ε → Prop} : (if c then a else b).wp Q E ↔ (c → a.wp Q E) ∧ (¬ c → b.wp Q E) := by
  by_cases h : c
  · rw [if_pos h]; exact ⟨fun x => ⟨fun _ => x, fun z => absurd h z⟩, fun x => x.1 h⟩
  · rw [if_neg h]; exact ⟨fun x => ⟨fun z => absurd z h, fun _ => x⟩, fun x => x.2 h⟩
theorem Rn.bind_ok {a : α} {f : α → Rn ε β} : (Rn.ok a).bind f = f a := rfl
theorem Rn.bind_err {s : Str} {e : ε} {f : α → Rn ε β} : (Rn.err s e : Rn ε α).bind f = .err s e := rfl
theorem Rn.bind_pick {n : Nat} {k : Nat → Rn ε α} {f : α → Rn ε β} : (Rn.pick n k).bind f = .pick n fun i => (k i).bind f := rfl
end
theorem tryW_ok {sub : Str → Option Bool} {i : Nat} {gsu : Str → GS} {fl : Fl} : gTryW sub i gsu (.ok fl) = .ok fl := rfl
theorem tryW_err {sub : Str → Option Bool} {i : Nat} {gsu : Str → GS} {c : Str} {δ : Sl} : gTryW sub i gsu (.err c δ) = match sub c with
    | some true => ((gsu c (δ.set i .exn)).noErrS).bind fun fl => .ok (fl.map (outEx i))
    | some false => .err c δ
    | none => .bad := rfl
theorem tryW_ite {sub : Str → Option Bool} {i : Nat} {gsu : Str → GS} {c : Prop} [Decidable c] {a b : Rn Sl Fl} : gTryW sub i gsu (if c then a else b) = if c then gTryW sub i gsu a else gTryW sub i gsu b := by split <;> rfl
theorem take_ok {n : Int} (h0 : 0 < n) (h1 : n < 2 ^ 64) : takeF [.orc, .p (.int n)] = .pick n.toNat fun i => .ok (.p (.int (i : Int))) := by
  unfold takeF
  refine if_pos ⟨h0, ?_⟩
  have h : n.natAbs < 2 ^ 64 := by omega
  by_cases hz : n.natAbs = 0
  · omega
  · have := (Nat.log2_lt hz).mpr h
    omega
theorem begin_ok {ns : List Int} (h : ns.length ≤ 63) : beginF [.scr ns] = .ok .orc := if_pos h
/-- a run keeps its wish (a wall before the reader's eyes: nothing unfolds it) -/
structure Wp {ε α : Type} (w : Rn ε α) (Q : α → Prop) (E : Str → ε → Prop) : Prop where
  r : w.wp Q E
section
variable {ε α β : Type} {Q : α → Prop} {E : Str → ε → Prop}
theorem wp_ok {a : α} : Wp (.ok a : Rn ε α) Q E ↔ Q a := ⟨fun h => h.r, fun h => ⟨h⟩⟩
theorem wp_err {c : Str} {e : ε} : Wp (.err c e : Rn ε α) Q E ↔ E c e := ⟨fun h => h.r, fun h => ⟨h⟩⟩
theorem wp_bad : Wp (.bad : Rn ε α) Q E ↔ False := ⟨fun h => h.r, fun h => h.elim⟩
theorem wp_pick {n : Nat} {k : Nat → Rn ε α} : Wp (.pick n k) Q E ↔ ∀ i, i < n → Wp (k i) Q E := ⟨fun h i hi => ⟨h.r i hi⟩, fun h => ⟨fun i hi => (h i hi).r⟩⟩
theorem wp_ite {c : Prop} [Decidable c] {a b : Rn ε α} : Wp (if c then a else b) Q E ↔ (c → Wp a Q E) ∧ (¬ c → Wp b Q E) :=
  ⟨fun h => ⟨fun x => ⟨(Rn.wp_ite.mp h.r).1 x⟩, fun x => ⟨(Rn.wp_ite.mp h.r).2 x⟩⟩, fun h => ⟨Rn.wp_ite.mpr ⟨fun x => (h.1 x).r, fun x => (h.2 x).r⟩⟩⟩
theorem wp_imp {w : Rn ε α} {Q' : α → Prop} {E' : Str → ε → Prop} (h : Wp w Q E) (k : ∀ a, Q a → Q' a) (e : ∀ c x, E c x → E' c x) : Wp w Q' E' := ⟨Rn.wp_mono h.r k e⟩
end
/-- what is wanted after a statement -/
def Nx (K : Sl → Prop) (Q : Fl → Prop) : Fl → Prop
  | .nx δ => K δ
  | fl => Q fl
/-- what is wanted after a loop's turn -/
def Tn (I : Sl → Prop) (Q : Fl → Prop) : Fl → Prop
  | .nx δ => I δ
  | .ct δ => I δ
  | .bk δ => Q (.nx δ)
  | .ret d => Q (.ret d)
def Fn.out (Q : D → Prop) : Fl → Prop
  | .ret d => Q d
  | .nx _ => Q (.p .non)
  | _ => False
section
variable {a b : GS} {δ δ' : Sl} {Q : Fl → Prop} {E : Str → Sl → Prop}
theorem seq_ok (h1 : a δ = .ok (.nx δ')) (h2 : Wp (b δ') Q E) : Wp (gSeq a b δ) Q E := ⟨by
  unfold gSeq; rw [h1]; exact h2.r⟩
theorem seq_ret {d : D} (h1 : a δ = .ok (.ret d)) (h2 : Q (.ret d)) : Wp (gSeq a b δ) Q E := ⟨by
  unfold gSeq; rw [h1]; exact h2⟩
theorem seq_wp (R : Sl → Prop) (h1 : Wp (a δ) (Nx R Q) E) (h2 : ∀ δ', R δ' → Wp (b δ') Q E) : Wp (gSeq a b δ) Q E := ⟨by
  unfold gSeq
  refine Rn.wp_bind.mpr (Rn.wp_mono h1.r (fun fl r => ?_) fun _ _ z => z)
  cases fl with
  | nx δ' => exact (h2 δ' r).r
  | bk δ' => exact r
  | ct δ' => exact r
  | ret d => exact r⟩
theorem forL_inv (I : List P → Sl → Prop) {t : Tg} {g : GS} (h : ∀ x xs δ, I (x :: xs) δ → ∃ δ1, t.set (.p x) δ = some δ1 ∧ Wp (g δ1) (Tn (I xs) Q) E) (hq : ∀ δ, I [] δ → Q (.nx δ)) : ∀ (xs : List P) (δ : Sl), I xs δ → Wp (gForL t g xs δ) Q E
  | [], δ, h0 => ⟨hq δ h0⟩
  | x :: xs, δ, h0 => ⟨by
    obtain ⟨δ1, e, w⟩ := h x xs δ h0
    unfold gForL
    rw [e]
    refine Rn.wp_bind.mpr (Rn.wp_mono w.r (fun fl r => ?_) fun _ _ z => z)
    cases fl with
    | nx δ' => exact (forL_inv I h hq xs δ' r).r
    | ct δ' => exact (forL_inv I h hq xs δ' r).r
    | bk δ' => exact r
    | ret d => exact r⟩
theorem forL_cons {t : Tg} {g : GS} {x : P} {xs : List P} {δ1 : Sl} (e : t.set (.p x) δ = some δ1) (w : g δ1 = .ok (.nx δ')) (k : Wp (gForL t g xs δ') Q E) : Wp (gForL t g (x :: xs) δ) Q E := ⟨by
  unfold gForL
  rw [e]
  show ((g δ1).bind _).wp Q E
  rw [w]
  exact k.r⟩
theorem forL_nil {t : Tg} {g : GS} (k : Q (.nx δ)) : Wp (gForL t g [] δ) Q E := ⟨k⟩
theorem for_wp {t : Tg} {gi : GI} {g : GS} {xs : List P} (e : gi δ = .ok xs) (h : Wp (gForL t g xs δ) Q E) : Wp (gFor t gi g δ) Q E := ⟨by
  unfold gFor lift; rw [e]; exact h.r⟩
theorem for_pick {t : Tg} {gi : GI} {g : GS} (R : List P → Prop) (e : Wp (gi δ) R (fun _ _ => False)) (h : ∀ xs, R xs → Wp (gForL t g xs δ) Q E) : Wp (gFor t gi g δ) Q E := ⟨by
  unfold gFor lift
  exact Rn.wp_bind.mpr (Rn.wp_mapErr.mpr (Rn.wp_mono e.r (fun xs r => (h xs r).r) fun _ _ z => z.elim))⟩
theorem if_tt {t : GT} (h : t δ = .ok true) (k : Wp (a δ) Q E) : Wp (gIfS t a b δ) Q E := ⟨by unfold gIfS lift; rw [h]; exact k.r⟩
theorem if_ff {t : GT} (h : t δ = .ok false) (k : Wp (b δ) Q E) : Wp (gIfS t a b δ) Q E := ⟨by unfold gIfS lift; rw [h]; exact k.r⟩
end
theorem fn_wp {n : Nat} {g : GS} {ds : List D} {Q : D → Prop} {E : Str → Unit → Prop} (h : Wp (g (startS n ds)) (Fn.out Q) (fun c _ => E c ())) : Wp (fnD n g ds) Q E := ⟨by
  unfold fnD
  refine Rn.wp_bind.mpr (Rn.wp_mapErr.mpr (Rn.wp_mono h.r (fun fl r => ?_) fun _ _ z => z))
  cases fl <;> exact r⟩
theorem range_5 : rangeP 0 5 = [.int 0, .int 1, .int 2, .int 3, .int 4] := by rfl
theorem range_4 : rangeP 0 4 = [.int 0, .int 1, .int 2, .int 3] := by rfl
theorem range_3 : rangeP 0 3 = [.int 0, .int 1, .int 2] := by rfl
theorem range_2 : rangeP 0 2 = [.int 0, .int 1] := by rfl
end DL
/-! DLs: comprehensions over a name's list. -/
namespace DL
open PySem PySem.Spec PyProof.Rows L2
structure Walk2 (K : PySem.W.Frag) (H : Hp) (J : It) (xs : List P) : Prop where
  ex : ∃ G, Same G H ∧ Runs K G J xs
def tDI2 (c : DC) (g : GI) : TI := fun σ H R => ∃ (B : Hp) (Rg : Rgs c.ex) (δ : Sl), SRel c.K B Rg σ H δ ∧
  (g δ).wp (fun xs => ∀ J H', Same H H' → Walk2 c.K H' J xs → R J H') fun cl _ => ∀ C H', c.mg cl = some (.ref C) → Same H H' → c.W (.ref C) none σ H'
def DI2 (W : WX) (X : Cx) (tg iter : Expr) (g : GI) : Prop := PI X tg iter (tDI2 (dc X W) g)
theorem DI.two {W : WX} {X : Cx} {tg iter : Expr} {g : GI} (h : DI W X tg iter g) : DI2 W X tg iter g := PI.imp h fun σ H R ⟨B, Rg, δ, S0, w⟩ =>
  ⟨B, Rg, δ, S0, Rn.wp_mono w (fun xs q J H' s wk => q J H' s (by obtain ⟨G, g1, _, g3⟩ := wk.ex; exact ⟨G, g1, g3⟩)) fun _ _ q => q⟩
def R.itemsL : R → Option (List P)
  | .own (.p (.tup xs)) => some xs
  | .vw (.p (.tup xs)) => some xs
  | .own (.p (.str z)) => some (signs z)
  | .vw (.p (.str z)) => some (signs z)
  | .own (.lst xs) => some xs
  | .vw (.lst xs) => some xs
  | _ => none
def gSeqL (ga : GE) : GI := fun δ => (ga δ).bind fun r => match r.itemsL with
  | some xs => .ok xs
  | none => .bad
theorem di2_seq {W : WX} {X : Cx} {tg e : Expr} {ga : GE} (ha : DE W X e ga) : DI2 W X tg e (gSeqL ga) := by
  have two : ∀ {H0 H : Hp} {J : It} {xs : List P}, Walk X.K H0 H J xs → Walk2 X.K H J xs := fun wk => by obtain ⟨G, g1, _, g3⟩ := wk.ex; exact ⟨G, g1, g3⟩
  refine PI.imp (pi_seq ha) fun σ H Rk ⟨B, Rg, δ, S0, w⟩ => ?_
  refine ⟨B, Rg, δ, S0, Rn.wp_mono (Rn.wp_bind.mp w) (fun r q v H1 s1 rv => ?_) fun _ _ q => q⟩
  split at q
  · rename_i xs e
    unfold R.itemsL at e
    split at e
    · obtain rfl := Option.some.inj e
      obtain ⟨a, vs, rfl, qa, ra⟩ := rv.getP rfl
      exact .inr (.inl ⟨a, rfl, ⟨vs, qa⟩, q _ H1 s1 (two (H0 := H) (.tup qa ra))⟩)
    · obtain rfl := Option.some.inj e
      obtain ⟨a, vs, rfl, qa, ra⟩ := rv.getP rfl
      exact .inr (.inl ⟨a, rfl, ⟨vs, qa⟩, q _ H1 s1 (two (H0 := H) (.tup qa ra))⟩)
    · rename_i z
      obtain rfl := Option.some.inj e
      obtain rfl : v = .str z := rv.getP rfl
      exact .inr (.inr ⟨z, rfl, q _ H1 s1 (two (H0 := H) (.str z))⟩)
    · rename_i z
      obtain rfl := Option.some.inj e
      obtain rfl : v = .str z := rv.getP rfl
      exact .inr (.inr ⟨z, rfl, q _ H1 s1 (two (H0 := H) (.str z))⟩)
    · obtain rfl := Option.some.inj e
      obtain ⟨fp, ⟨a, vs, rfl, qa, rfl, ra⟩, n, f⟩ := rv
      obtain ⟨G, g1, g2, g3⟩ := runs_list qa ra
      exact .inl ⟨a, rfl, ⟨vs, SqL.of qa⟩, q _ H1 s1 ⟨G, g1, g3⟩⟩
    · obtain rfl := Option.some.inj e
      obtain ⟨fp, ⟨a, vs, rfl, qa, rfl, ra⟩⟩ := rv
      obtain ⟨G, g1, g2, g3⟩ := runs_list qa ra
      exact .inl ⟨a, rfl, ⟨vs, SqL.of qa⟩, q _ H1 s1 ⟨G, g1, g3⟩⟩
    · cases e
  · exact q.elim
section
variable {W : WX} {X : Cx} {e elt tg iter : Expr} {ifs : List Expr} {gi : GI} {gt : GT} {ge : GE} {scope : Scope} {own : List (Str × Nat)} {pos : Pos}
theorem lc_of2 {t : Tg} {vs : List Nat} (hcal : X.calm = true) (ht : ∀ i ∈ t.idx, i ∈ vs) (σ : L2.St) (H : Hp) (Q : VK) (h : tD (dc X W) (gLc t vs gi gt ge) σ H Q) :
    tLc (tDI2 (dc X W) gi) (t.g X.K) (tDT (dc0 X) gt) (tD (dc0 X) ge) vs σ H Q := by
  rw [dc_calm hcal] at h ⊢
  obtain ⟨B, Rg, δ, S0, w⟩ := h
  refine ⟨B, Rg, δ, S0, Rn.wp_mono (Rn.wp_bind.mp w) (fun xs q J H1 s1 wk => ?_) fun _ _ q => q⟩
  intro Dp hD
  obtain ⟨G, hG, hR⟩ := wk.ex
  have S1 := S0.grow s1
  have S2 := S1.wipe vs
  have c1 : cutH H1 Dp = H1 := by
    funext b
    unfold cutH
    split
    · rename_i z; subst z; exact hD.symm
    · rfl
  refine ⟨fun i m H' => m = xs.length - i ∧ i ≤ xs.length ∧ ∃ acc vacc, H' Dp = some (.lst vacc) ∧ RepPs X.K H' acc vacc ∧ Same H1 (cutH H' Dp) ∧ SRel X.K B Rg (L2.wipe σ vs) (cutH H' Dp) (wipeS δ vs) ∧
    ((lcL t gt ge (wipeS δ vs) (xs.drop i) acc).bind fun ys => .ok (.own (.lst ys))).wp (fun r => ∀ v H', Same H H' → RepR X.K H H' r v → Q v H') (fun cl _ => ∀ C H', X.mg cl = some (.ref C) → Same H H' → W (.ref C) none σ H'),
    ⟨xs.length, by simp, Nat.zero_le _, [], [], upd_same, rfl, by rw [cutH_upd, c1]; exact Same.refl _, by rw [cutH_upd, c1]; exact S2, by simpa using q⟩, ?_⟩
  rintro i m H2 ⟨rfl, hi, acc, vacc, eD, ra, sm, S3, w3⟩
  have S4 := S3.grow (cutH_same H2 Dp)
  have s02 : Same H H2 := s1.trans (sm.trans (cutH_same H2 Dp))
  obtain ⟨r1, r2⟩ := hR H2 (hG.trans (sm.trans (cutH_same H2 Dp))) i
  by_cases hlt : i < xs.length
  · have ep := List.getElem?_eq_getElem hlt
    obtain ⟨go, yl⟩ := r1 _ ep
    rw [List.drop_eq_getElem_cons hlt] at w3
    refine .inr ⟨go, fun H' => ∃ acc vacc, H' Dp = some (.lst vacc) ∧ RepPs X.K H' acc vacc ∧ Same H1 (cutH H' Dp) ∧ SRel X.K B Rg (L2.wipe σ vs) (cutH H' Dp) (wipeS δ vs) ∧
      ((lcL t gt ge (wipeS δ vs) (xs.drop (i + 1)) acc).bind fun ys => .ok (.own (.lst ys))).wp (fun r => ∀ v H', Same H H' → RepR X.K H H' r v → Q v H') (fun cl _ => ∀ C H', X.mg cl = some (.ref C) → Same H H' → W (.ref C) none σ H'),
      fun H' q => ⟨xs.length - (i + 1), by omega, rfl, hlt, q⟩, fun x H3 y => ?_⟩
    obtain ⟨s3, rp⟩ := yl x H3 y
    unfold lcL at w3
    split at w3
    · rename_i δ1 e1
      have gw := Tg.ok (K := X.K) (t := t) (d := .p xs[i]) (v := x) (gp := []) (Q := fun σ' H' => H' = H3 ∧ SRel X.K B Rg σ' H3 δ1) S4 s3 ⟨rp, rfl⟩ List.nodup_nil (fun _ z => nomatch z) e1 fun σ' S5 => ⟨rfl, S5⟩
      have gw2 := Tg.g_wipe (vs := vs) ht gw
      refine Tg.g_mono (fun σ2 H2' ⟨ew, eh, S5⟩ => ?_) gw2
      subst eh
      refine ⟨by rw [ew, wipe_wipe], ?_⟩
      refine ⟨B, Rg, δ1, S5, Rn.wp_noErr (Rn.wp_mono (Rn.wp_bind.mp (Rn.wp_bind.mp w3)) (fun k q H4 s4 => ?_) fun _ _ q => q)⟩
      have S6 := S5.grow s4
      have s24 := s3.trans s4
      have eD4 : H4 Dp = some (.lst vacc) := s24 _ _ eD
      have smm : Same H1 (cutH H4 Dp) := sm.trans (cutH_mono s24 Dp)
      dsimp only
      cases k with
      | false =>
        rw [if_neg (by decide)] at q ⊢
        exact ⟨acc, vacc, eD4, RepPs.kt (Same.kt s24) _ _ ra, smm, S3.grow (cutH_mono s24 Dp), Rn.wp_bind.mpr q⟩
      | true =>
        rw [if_pos rfl] at q ⊢
        refine ⟨B, Rg, δ1, S6, Rn.wp_noErr (Rn.wp_mono (Rn.wp_bind.mp q) (fun r q v H5 s5 rv => ?_) fun _ _ q => q)⟩
        have s25 := s24.trans s5
        split at q
        · rename_i y ey
          split at q
          · rename_i hz
            have ry := rv.getP ey
            have ra5 := RepPs.kt (Same.kt s25) _ _ ra
            have kt5 : KT H5 (upd H5 Dp (.lst (vacc ++ [v]))) := KT.upd (s25 _ _ eD) trivial
            refine ⟨vacc, s25 _ _ eD, by rw [ra.len]; exact hz, acc ++ [y], vacc ++ [v], upd_same, RepPs.kt kt5 _ _ (RepPs.append (show RepPs X.K H5 [y] [v] from ⟨v, [], rfl, ry, rfl⟩) ra5), ?_, ?_, Rn.wp_bind.mpr q⟩
            · rw [cutH_upd]; exact sm.trans (cutH_mono s25 Dp)
            · rw [cutH_upd]; exact S3.grow (cutH_mono s25 Dp)
          · exact q.elim
        · exact q.elim
    · exact w3.elim
  · have hn : xs.length ≤ i := by omega
    rw [List.drop_eq_nil_of_le hn] at w3
    refine .inl ⟨r2 hn, w3 (.ref Dp) H2 s02 ⟨[Dp], ⟨Dp, vacc, rfl, eD, rfl, ra⟩, by simp, fun b hb => ?_⟩⟩
    obtain rfl : b = Dp := by simpa using hb
    exact s1.free hD
end
section
variable {W : WX} {X : Cx} {e elt tg iter : Expr} {ifs : List Expr} {gi : GI} {gt : GT} {ge : GE} {scope : Scope} {own : List (Str × Nat)} {pos : Pos}
theorem de_lc2 {t : Tg} (hc : X.calm = true) (hN : X.N.Nodup) (hi : DI2 W X tg iter gi) (ok : BlkOk X.N X.env.scope scope own)
    (hg : ∀ (s : Shared) (H : Hp) (C : Addr) (cl : List (Str × Addr)) (fp : List Addr), PG (X.blk s H scope (compEnvC scope cl C X.env) fp) tg (t.g X.K))
    (ht : ∀ (s : Shared) (H : Hp) (C : Addr) (cl : List (Str × Addr)) (fp : List Addr), DTs W0 (X.blk s H scope (compEnvC scope cl C X.env) fp) ifs gt)
    (he : ∀ (s : Shared) (H : Hp) (C : Addr) (cl : List (Str × Addr)) (fp : List Addr), DE W0 (X.blk s H scope (compEnvC scope cl C X.env) fp) elt ge)
    (hx : ∀ i ∈ t.idx, i ∈ own.map (·.2) := by decide) (hs : ∀ x, foldedSetIterable iter X.env x = pure x := by intro _; rfl) :
    DE W X (.ListComp elt [⟨tg, iter, ifs, 0⟩] scope pos) (gLc t (own.map (·.2)) gi gt ge) :=
  PE.imp (pe_lc (tt := tDT (dc0 X) gt) (te := tD (dc0 X) ge) hc hN hi ok hg ht he hs) (lc_of2 hc hx)
theorem ds_setLc2 {i : Nat} {y : Str} {py spos : Pos} {t : Tg} (hc : X.calm = true) (hN : X.N.Nodup) (hy : X.N[i]? = some y) (hyl : X.env.scope.names.lookup y = some .local)
    (hsw : swapsWith (.ListComp elt [⟨tg, iter, ifs, 0⟩] scope pos) (some (.Name y py)) spos.line X.env = pure true) (hi : DI2 W X tg iter gi) (ok : BlkOk X.N X.env.scope scope own)
    (hg : ∀ (s : Shared) (H : Hp) (C : Addr) (cl : List (Str × Addr)) (fp : List Addr), PG (X.blk s H scope (compEnvC scope cl C X.env) fp) tg (t.g X.K))
    (ht : ∀ (s : Shared) (H : Hp) (C : Addr) (cl : List (Str × Addr)) (fp : List Addr), DTs W0 (X.blk s H scope (compEnvC scope cl C X.env) fp) ifs gt)
    (he : ∀ (s : Shared) (H : Hp) (C : Addr) (cl : List (Str × Addr)) (fp : List Addr), DE W0 (X.blk s H scope (compEnvC scope cl C X.env) fp) elt ge)
    (hx : ∀ i ∈ t.idx, i ∈ own.map (·.2) := by decide) (hs : ∀ x, foldedSetIterable iter X.env x = pure x := by intro _; rfl) :
    DS W X (.Assign [.Name y py] (.ListComp elt [⟨tg, iter, ifs, 0⟩] scope pos) spos) (gSet i (gLc t (own.map (·.2)) gi gt ge)) := by
  refine PS.imp (ps_setLc (tt := tDT (dc0 X) gt) (te := tD (dc0 X) ge) hc hN hy hyl hsw hi ok hg ht he hs) fun D σ H ⟨B, Rg, δ, S0, w⟩ => ?_
  refine lc_of2 hc hx σ H _ ?_
  refine tDS_val S0 w fun r v H1 s1 rv S1 q => ?_
  cases r with
  | own d =>
    obtain ⟨fp, q1, n, f⟩ := rv
    exact q _ _ (S0.set s1 q1 n f)
  | vw d => exact q.elim
end
end DL
/-! DLt: reversed(tuple), x[::-1], tuples of ints by <. -/
namespace DL
open PySem PySem.Spec PyProof.Rows L2
/-- < of ints and of tuples of ints -/
def fLtA : D → D → Rn Unit Bool := fun x y => match x, y with
    | .p (.int i), .p (.int j) => .ok (decide (i < j))
    | .p (.tup xs), .p (.tup ys) => match pInts xs, pInts ys with
      | some ns, some ms => .ok (HT.lexLt ns ms)
      | _, _ => .bad
    | _, _ => .bad
section
variable {K : PySem.W.Frag} {H0 H : Hp}
theorem Walk.rtup {a : Addr} {vs : List V} {xs : List P} (h : SqT K H a vs) (r : RepPs K H xs vs) : Walk K H0 H (RT.ItvT K a vs.length) xs.reverse := by
  refine ⟨tupG H, tupG_same H, fun b hb => .inr (tupG_rd hb), fun H' s i => ?_⟩
  have kt : KT H H' := tupG_kt s
  have ha := kt.sqt h
  have r' := RepPs.kt kt _ _ r
  have hl : vs.length = xs.length := r.len
  refine ⟨fun p ep => ?_, fun hi => ?_⟩
  · have hi : i < xs.length := by
      have := (List.getElem?_eq_some_iff.mp ep).1
      simpa using this
    rw [List.getElem?_reverse hi] at ep
    obtain ⟨w, e2, q⟩ := r'.get ep
    rw [← hl] at e2
    refine ⟨⟨by omega, vs, w, ha, e2⟩, fun x H'' y => ?_⟩
    obtain ⟨rfl, y⟩ := y
    have e := y vs ha
    rw [e] at e2
    obtain rfl := Option.some.inj e2
    exact ⟨Same.refl _, q⟩
  · rw [List.length_reverse] at hi
    show vs.length ≤ i
    omega
theorem og_ltA : OpG K (fun x y H Q => rI0 (fun i j => .bl (decide (i < j))) x y H Q ∨ rLtT K x y H Q) (fB fLtA) := by
  intro H x y v u fx fy Q E rx ry h
  have h' := Rn.wp_bind.mp h
  unfold fLtA at h'
  split at h'
  · rename_i i j
    obtain rfl : v = .int i := rx.1
    obtain rfl : u = .int j := ry.1
    exact .inl ⟨i, j, rfl, rfl, RepP.up h' rfl⟩
  · rename_i xs ys
    split at h'
    · rename_i ns ms e1 e2
      obtain rfl := pInts_ok e1
      obtain rfl := pInts_ok e2
      obtain ⟨a, vs, rfl, q1, r1⟩ := rx.1
      obtain ⟨b, us, rfl, q2, r2⟩ := ry.1
      obtain rfl := r1.int
      obtain rfl := r2.int
      exact .inr ⟨a, b, ns, ms, rfl, rfl, q1, q2, RepP.up h' rfl⟩
    · exact h'.elim
  · exact h'.elim
end
def gRevI (ga : GE) : GI := fun δ => (ga δ).bind fun r => match r.d with
  | .p (.tup xs) => .ok xs.reverse
  | _ => .bad
def gRevL (ga : GE) : GE := fun δ => (ga δ).bind fun r => match r.d with
  | .lst xs => .ok (.own (.lst xs.reverse))
  | _ => .bad
section
variable {W : WX} {X : Cx} {e tg : Expr} {ga : GE} {p pos p1 p2 p3 : Pos}
theorem op_ltA (hu : X.A.units < cLine) : OpR X (compareOp .Lt) (fun x y H Q => rI0 (fun i j => .bl (decide (i < j))) x y H Q ∨ rLtT X.K x y H Q) := op_lt.or (op_ltT hu)
theorem di_rev (hm : X.mg "reversed" = none) (ha : DE W X e ga) (hg : Gl X "reversed" := by rfl) (hs : starEach [e] X.env = (false, eval e X.env) :: starEach [] X.env := by rfl) : DI W X tg (.Call (.Name "reversed" p) [e] [] pos) (gRevI ga) := by
  refine PI.imp (RT.pi_revA hg hm ha hs) fun σ H Rk ⟨B, Rg, δ, S0, w⟩ => ?_
  refine ⟨B, Rg, δ, S0, Rn.wp_mono (Rn.wp_bind.mp w) (fun r q v H1 s1 rv => ?_) fun _ _ q => q⟩
  split at q
  · rename_i xs ed
    obtain ⟨a, vs, rfl, qa, ra⟩ := rv.getP ed
    exact ⟨a, vs, rfl, .inr ⟨qa, q _ H1 s1 (Walk.rtup qa ra)⟩⟩
  · exact q.elim
theorem RepPs.rev {K : PySem.W.Frag} {H : Hp} : ∀ {xs : List P} {vs : List V}, RepPs K H xs vs → RepPs K H xs.reverse vs.reverse
  | [], vs, h => by
    obtain rfl : vs = [] := h
    exact rfl
  | x :: xs, vs, h => by
    obtain ⟨v, us, rfl, q, r⟩ := h
    rw [List.reverse_cons, List.reverse_cons]
    exact RepPs.append (show RepPs K H [x] [v] from ⟨v, [], rfl, q, rfl⟩) (RepPs.rev r)
theorem de_rev {k : Nat} (ha : DE W X e ga) : DE W X (.Subscript e (.Slice none none (some (.UnaryOp .USub (.Constant (.int 1) k p1) p2)) p3) pos) (gRevL ga) := by
  refine PE.imp (pe_revL ha) fun σ H Q ⟨B, Rg, δ, S0, w⟩ => ?_
  refine ⟨B, Rg, δ, S0, Rn.wp_mono (Rn.wp_bind.mp w) (fun r q v H1 s1 rv => ?_) fun _ _ q => q⟩
  split at q
  · rename_i xs ed
    obtain ⟨fp, rd⟩ := rv.look
    rw [ed] at rd
    obtain ⟨a, vs, rfl, qa, _, ra⟩ := rd
    refine ⟨a, vs, rfl, SqL.of qa, fun l nl => ?_⟩
    have s2 : Same H1 (upd H1 l (.lst vs.reverse)) := fun b o eb => by
      rw [upd_ne (fun z => by subst z; rw [nl] at eb; cases eb)]; exact eb
    refine q _ _ (s1.trans s2) ⟨[l], ⟨l, vs.reverse, rfl, upd_same, rfl, RepPs.kt (Same.kt s2) _ _ (RepPs.rev ra)⟩, by simp, fun b hb => ?_⟩
    obtain rfl : b = l := by simpa using hb
    exact s1.free nl
  · exact q.elim
end
end DL
/-! DLu: sorted(ints); draws from large ranges. -/
namespace DL
open PySem PySem.Spec PyProof.Rows L2
def insI (x : Int) : List Int → List Int
  | [] => [x]
  | y :: l => if x ≤ y then x :: y :: l else y :: insI x l
def srtI : List Int → List Int
  | [] => []
  | x :: l => insI x (srtI l)
theorem insI_perm (x : Int) : ∀ l : List Int, (insI x l).Perm (x :: l)
  | [] => .refl _
  | y :: l => by
    unfold insI
    split
    · exact .refl _
    · exact ((insI_perm x l).cons y).trans (.swap x y l)
theorem srtI_perm : ∀ l : List Int, (srtI l).Perm l
  | [] => .refl _
  | x :: l => (insI_perm x (srtI l)).trans ((srtI_perm l).cons x)
theorem insI_sorted (x : Int) : ∀ l : List Int, l.Pairwise (· ≤ ·) → (insI x l).Pairwise (· ≤ ·)
  | [], _ => by simp [insI]
  | y :: l, h => by
    obtain ⟨h1, h2⟩ := List.pairwise_cons.mp h
    unfold insI
    split
    · rename_i hx
      refine List.pairwise_cons.mpr ⟨fun z hz => ?_, h⟩
      rcases List.mem_cons.mp hz with rfl | hz
      · exact hx
      · have := h1 z hz
        omega
    · rename_i hx
      refine List.pairwise_cons.mpr ⟨fun z hz => ?_, insI_sorted x l h2⟩
      rcases List.mem_cons.mp ((insI_perm x l).mem_iff.mp hz) with rfl | hz
      · omega
      · exact h1 z hz
theorem srtI_sorted : ∀ l : List Int, (srtI l).Pairwise (· ≤ ·)
  | [] => .nil
  | x :: l => insI_sorted x _ (srtI_sorted l)
theorem sorted_unique : ∀ {l m : List Int}, l.Perm m → l.Pairwise (· ≤ ·) → m.Pairwise (· ≤ ·) → l = m
  | [], m, p, _, _ => p.nil_eq
  | x :: l, [], p, _, _ => by
    have := p.length_eq
    simp at this
  | x :: l, y :: m, p, h1, h2 => by
    obtain ⟨a1, a2⟩ := List.pairwise_cons.mp h1
    obtain ⟨b1, b2⟩ := List.pairwise_cons.mp h2
    have e : x = y := by
      have hx : x ∈ y :: m := p.mem_iff.mp (by simp)
      have hy : y ∈ x :: l := p.mem_iff.mpr (by simp)
      rcases List.mem_cons.mp hx with e | hx
      · exact e
      · rcases List.mem_cons.mp hy with e | hy
        · exact e.symm
        · have := a1 y hy
          have := b1 x hx
          omega
    subst e
    rw [sorted_unique p.cons_inv a2 b2]
def fSorted : List D → Rn Unit R
  | [.lst xs] => match pInts xs with
    | some ns => .ok (.own (.lst ((srtI ns).map .int)))
    | none => .bad
  | _ => .bad
theorem RepPs.ints {K : PySem.W.Frag} {H : Hp} : ∀ ns : List Int, RepPs K H (ns.map P.int) (ns.map V.int)
  | [] => rfl
  | n :: ns => ⟨.int n, ns.map V.int, rfl, rfl, RepPs.ints ns⟩
theorem cg_sorted {K : PySem.W.Frag} : CallG K (rSortedI K) fSorted := by
  intro H ds vs Q E hl h
  unfold fSorted at h
  split at h
  · rename_i xs
    split at h
    · rename_i ns e
      obtain rfl := pInts_ok e
      obtain ⟨v, fp, rfl, r⟩ := hl.one
      obtain ⟨a, vs, rfl, q, _, r⟩ := r
      obtain rfl := r.int
      refine ⟨a, ns, rfl, SqL.of q, fun ns' p h1 h2 hp => ?_⟩
      obtain rfl : ns' = srtI ns := sorted_unique (h1.trans (srtI_perm ns).symm) h2 (srtI_sorted ns)
      exact up_lst h (RepPs.ints _) hp
    · exact h.elim
  · exact h.elim
section
variable {W : WX} {X : Cx} {e : Expr} {es : List Expr} {gs : GA} {p pos : Pos}
theorem de_sorted (hm : X.mg "sorted" = none) (ha : DA W X (e :: es) gs) (hg : Gl X "sorted" := by rfl) (he : starEach (e :: es) X.env = (false, eval e X.env) :: starEach es X.env := by rfl) (hpl : (backTo pos (starEach es X.env)).any (·.1) = false := by rfl) : DE W X (.Call (.Name "sorted" p) (e :: es) [] pos) (gCall fSorted gs) :=
  de_callB cr_sortedI cg_sorted hm (by decide +kernel) ha hg (he := he) (hpl := hpl)
end
theorem take_big {n : Int} (h0 : 0 < n) (h1 : n < 2 ^ 250) : takeF [.orc, .p (.int n)] = .pick n.toNat fun i => .ok (.p (.int (i : Int))) := by
  unfold takeF
  refine if_pos ⟨h0, ?_⟩
  by_cases hz : n.natAbs = 0
  · rw [hz]; decide
  · have : n.natAbs < 2 ^ 250 := by
      have e : ((2 ^ 250 : Nat) : Int) = (2 : Int) ^ 250 := by rw [Int.natCast_pow]; rfl
      rw [← e] at h1
      generalize (2 ^ 250 : Nat) = T at h1 ⊢
      omega
    have := (Nat.log2_lt hz).mpr this
    omega
end DL
/-! DLv: rules for runs; gcd; try without a name; isinstance of an error by a built-in class. -/
namespace DL
open PySem PySem.Spec PyProof.Rows L2
section
variable {ε ε' α β : Type} {E : Str → ε → Prop}
theorem wp_bind {w : Rn ε α} {f : α → Rn ε β} {Q : β → Prop} : Wp (w.bind f) Q E ↔ Wp w (fun a => Wp (f a) Q E) E :=
  ⟨fun h => ⟨Rn.wp_mono (Rn.wp_bind.mp h.r) (fun _ q => ⟨q⟩) fun _ _ q => q⟩, fun h => ⟨Rn.wp_bind.mpr (Rn.wp_mono h.r (fun _ q => q.r) fun _ _ q => q)⟩⟩
theorem wp_mapErr {w : Rn ε α} {f : ε → ε'} {Q : α → Prop} {E : Str → ε' → Prop} (h : Wp w Q (fun c e => E c (f e))) : Wp (w.mapErr f) Q E := ⟨Rn.wp_mapErr.mpr h.r⟩
end
section
variable {a b : GE} {δ : Sl} {f : D → D → Rn Unit R} {Q : R → Prop} {E : Str → Unit → Prop} {R' : Fl → Prop} {F : Str → Sl → Prop}
theorem w_op2 (h : Wp (a δ) (fun x => Wp (b δ) (fun y => Wp (f x.d y.d) Q E) E) E) : Wp (gOp2 f a b δ) Q E := by
  unfold gOp2
  exact wp_bind.mpr (wp_imp h (fun _ q => wp_bind.mpr q) fun _ _ z => z)
theorem w_op1 {f : D → Rn Unit R} (h : Wp (a δ) (fun x => Wp (f x.d) Q E) E) : Wp (gOp1 f a δ) Q E := wp_bind.mpr h
theorem w_fn {n : Nat} {f : Fn} {gs : GA} {rs : List R} (h1 : gs δ = .ok rs) (h2 : rs.length = n) (h3 : Wp (f (rs.map R.d)) (fun d => Q (.own d)) E) : Wp (gFn n f gs δ) Q E := by
  unfold gFn
  rw [h1]
  show Wp (if rs.length = n then _ else _) Q E
  rw [if_pos h2]
  exact wp_bind.mpr (wp_imp h3 (fun _ q => wp_ok.mpr q) fun _ _ z => z)
theorem w_fnW {n : Nat} {f : Fn} {gs : GA} (h : Wp (gs δ) (fun rs => rs.length = n ∧ Wp (f (rs.map R.d)) (fun d => Q (.own d)) E) E) : Wp (gFn n f gs δ) Q E := by
  unfold gFn
  refine wp_bind.mpr (wp_imp h (fun rs q => ?_) fun _ _ z => z)
  rw [if_pos q.1]
  exact wp_bind.mpr (wp_imp q.2 (fun _ q => wp_ok.mpr q) fun _ _ z => z)
theorem w_call {f : List D → Rn Unit R} {gs : GA} (h : Wp (gs δ) (fun rs => Wp (f (rs.map R.d)) Q E) E) : Wp (gCall f gs δ) Q E := wp_bind.mpr h
theorem w_cons {gs : GA} {T : List R → Prop} (h : Wp (a δ) (fun r => Wp (gs δ) (fun rs => T (r :: rs)) E) E) : Wp (gCons a gs δ) T E :=
  wp_bind.mpr (wp_imp h (fun _ q => wp_bind.mpr (wp_imp q (fun _ q => wp_ok.mpr q) fun _ _ z => z)) fun _ _ z => z)
theorem w_set {i : Nat} (h : Wp (a δ) (fun r => ∃ d, r = .own d ∧ R' (.nx (δ.set i (.own d)))) (fun c _ => F c δ)) : Wp (gSet i a δ) R' F := by
  unfold gSet lift
  refine wp_bind.mpr (wp_mapErr (wp_imp h (fun r q => ?_) fun _ _ z => z))
  obtain ⟨d, rfl, q⟩ := q
  exact wp_ok.mpr q
theorem w_ret (h : Wp (a δ) (fun r => ∃ d, r = .own d ∧ R' (.ret d)) (fun c _ => F c δ)) : Wp (gRet a δ) R' F := by
  unfold gRet lift
  refine wp_bind.mpr (wp_mapErr (wp_imp h (fun r q => ?_) fun _ _ z => z))
  obtain ⟨d, rfl, q⟩ := q
  exact wp_ok.mpr q
theorem w_if {t : GT} {g1 g2 : GS} (h : Wp (t δ) (fun k => Wp (if k = true then g1 δ else g2 δ) R' F) (fun c _ => F c δ)) : Wp (gIfS t g1 g2 δ) R' F := by
  unfold gIfS lift
  exact wp_bind.mpr (wp_mapErr (wp_imp h (fun _ q => q) fun _ _ z => z))
theorem w_tb {T : Bool → Prop} (h : Wp (a δ) (fun r => ∃ k, r.d = .p (.bl k) ∧ T k) E) : Wp (gTB a δ) T E := by
  unfold gTB
  refine wp_bind.mpr (wp_imp h (fun r q => ?_) fun _ _ z => z)
  obtain ⟨k, e, q⟩ := q
  unfold D.bool?
  rw [e]
  exact wp_ok.mpr q
theorem w_tru {T : Bool → Prop} (h : Wp (a δ) (fun r => ∃ k, r.d = .p (.bl k) ∧ T k) E) : Wp (gTru a δ) T E := by
  unfold gTru
  refine wp_bind.mpr (wp_imp h (fun r q => ?_) fun _ _ z => z)
  obtain ⟨k, e, q⟩ := q
  rw [e]
  exact wp_ok.mpr q
theorem w_of {α : Type} {ε : Type} {w : Rn ε α} {v : α} {Q : α → Prop} {E : Str → ε → Prop} (e : w = .ok v) (q : Q v) : Wp w Q E := by
  rw [e]; exact wp_ok.mpr q
theorem eq_ints (i j : Int) : fB (fEqB false) (.p (.int i)) (.p (.int j)) = .ok (.own (.p (.bl (decide (i = j))))) := by
  simp [fB, fEqB, P.scal, P.seq, Rn.bind]
theorem ne_ints (i j : Int) : fB (fEqB true) (.p (.int i)) (.p (.int j)) = .ok (.own (.p (.bl (decide (i ≠ j))))) := by
  simp [fB, fEqB, P.scal, P.seq, Rn.bind]
end
theorem fn_eq {n : Nat} {g : GS} {ds : List D} {d : D} (h : g (startS n ds) = .ok (.ret d)) : fnD n g ds = .ok d := by
  unfold fnD
  rw [h]
  rfl
theorem fn_eqN {n : Nat} {g : GS} {ds : List D} {δ' : Sl} (h : g (startS n ds) = .ok (.nx δ')) : fnD n g ds = .ok (.p .non) := by
  unfold fnD
  rw [h]
  rfl
theorem fn_eqE {n : Nat} {g : GS} {ds : List D} {c : Str} {δ' : Sl} (h : g (startS n ds) = .err c δ') : fnD n g ds = .err c () := by
  unfold fnD
  rw [h]
  rfl
theorem seq_eq {a b : GS} {δ δ' : Sl} {r : Rn Sl Fl} (h1 : a δ = .ok (.nx δ')) (h2 : b δ' = r) : gSeq a b δ = r := by
  unfold gSeq
  rw [h1]
  exact h2
theorem seq_eqr {a b : GS} {δ : Sl} {d : D} (h1 : a δ = .ok (.ret d)) : gSeq a b δ = .ok (.ret d) := by
  unfold gSeq
  rw [h1]
  rfl
theorem seq_eqE {a b : GS} {δ δ' : Sl} {c : Str} (h1 : a δ = .err c δ') : gSeq a b δ = .err c δ' := by
  unfold gSeq
  rw [h1]
  rfl
theorem for_eq {t : Tg} {gi : GI} {g : GS} {δ : Sl} {xs : List P} {r : Rn Sl Fl} (e : gi δ = .ok xs) (h : gForL t g xs δ = r) : gFor t gi g δ = r := by
  unfold gFor lift
  rw [e]
  exact h
theorem if_eqT {t : GT} {a b : GS} {δ : Sl} {r : Rn Sl Fl} (h : t δ = .ok true) (k : a δ = r) : gIfS t a b δ = r := by
  unfold gIfS lift
  rw [h]
  exact k
theorem if_eqF {t : GT} {a b : GS} {δ : Sl} {r : Rn Sl Fl} (h : t δ = .ok false) (k : b δ = r) : gIfS t a b δ = r := by
  unfold gIfS lift
  rw [h]
  exact k
theorem gRange_ok {f : List D → Rn Unit (List P)} {gs : GA} {δ : Sl} {rs : List R} {r : Rn Unit (List P)} (h1 : gs δ = .ok rs) (h2 : f (rs.map R.d) = r) : gRangeI f gs δ = r := by
  unfold gRangeI
  rw [h1]
  exact h2
theorem range1_ok {n : Int} (h0 : -1000000 ≤ n) (h : n ≤ 1000000) : fRange1 [.p (.int n)] = .ok (rangeP 0 n) := by
  have hh : -(2 ^ 62) ≤ n ∧ n < 2 ^ 62 := by omega
  unfold fRange1
  simp only [hh, and_self, if_true]
theorem eq_self {x : P} (n : Bool) (h1 : P.scal x x = false) (h2 : SeqAt.shaped x.py = true) : fEqB n (.p x) (.p x) = .ok (!n) := by
  have c : x.py.canLay0 = true := by
    unfold SeqAt.shaped at h2
    simp only [Bool.and_eq_true] at h2
    exact h2.1
  unfold fEqB
  dsimp only
  rw [if_neg (by rw [h1]; decide), if_pos ⟨h2, h2⟩, show PyData.eqv x.py x.py = true from SeqAt.eqv_refl _ c]
  cases n <;> rfl
theorem eq_selfD {d : D} {x : P} (n : Bool) (e : d = .p x) (h1 : P.scal x x = false) (h2 : SeqAt.shaped x.py = true) : fEqB n d d = .ok (!n) := by
  subst e
  exact eq_self n h1 h2
theorem op2_eq {f : D → D → Rn Unit R} {a b : GE} {δ : Sl} {x y : R} {r : Rn Unit R} (h1 : a δ = .ok x) (h2 : b δ = .ok y) (h3 : f x.d y.d = r) : gOp2 f a b δ = r := by
  unfold gOp2
  rw [h1, Rn.bind_ok, h2]
  exact h3
theorem tb_eq {a : GE} {δ : Sl} {k : Bool} (h : a δ = .ok (.own (.p (.bl k)))) : gTB a δ = .ok k := by
  unfold gTB
  rw [h]
  rfl
theorem fB_eq {f : D → D → Rn Unit Bool} {x y : D} {k : Bool} (h : f x y = .ok k) : fB f x y = .ok (.own (.p (.bl k))) := by
  unfold fB
  rw [h]
  rfl
theorem forL_eq {t : Tg} {g : GS} {x : P} {xs : List P} {δ δ1 δ' : Sl} {r : Rn Sl Fl} (e : t.set (.p x) δ = some δ1) (w : g δ1 = .ok (.nx δ')) (k : gForL t g xs δ' = r) : gForL t g (x :: xs) δ = r := by
  unfold gForL
  rw [e]
  show ((g δ1).bind _) = r
  rw [w]
  exact k
def fuelAt (i k : Nat) : Sl → Nat := fun δ => match δ[i]? with
  | some (S.own (D.p (P.int b))) => b.natAbs + k
  | some (S.bor _ (D.p (P.int b))) => b.natAbs + k
  | _ => 0
/-! ### gcd -/
def fGcd : List D → Rn Unit R
  | [.p (.int a), .p (.int b)] => .ok (.own (.p (.int ((Nat.gcd a.natAbs b.natAbs : Nat) : Int))))
  | _ => .bad
theorem cg_gcd {K : PySem.W.Frag} : CallG K rGcd fGcd := by
  intro H ds vs Q E hl h
  unfold fGcd at h
  split at h
  · obtain ⟨v, u, fp, gp, rfl, r1, r2⟩ := hl.two
    obtain rfl : v = .int _ := r1.1
    obtain rfl : u = .int _ := r2.1
    exact ⟨_, _, rfl, RepP.up h rfl⟩
  · exact h.elim
section
variable {W : WX} {X : Cx} {e : Expr} {es : List Expr} {gs : GA} {p pos p2 : Pos}
theorem de_gcd {x : Str} (hm : X.mg x = some (.builtin "math.gcd")) (ha : DA W X (e :: es) gs) (hg : Gl X x := by rfl) (hdb : (x == ("__debug__" : Str)) = false := by decide) (he : starEach (e :: es) X.env = (false, eval e X.env) :: starEach es X.env := by rfl) (hpl : (backTo pos (starEach es X.env)).any (·.1) = false := by rfl) : DE W X (.Call (.Name x p) (e :: es) [] pos) (gCall fGcd gs) :=
  PE.imp (pe_callBfun cr_gcd hg hm ha hdb he hpl) fun σ H Q h => call_of cg_gcd σ H Q h
end
/-! ### try without a name -/
def outEx0 (δ : Sl) : Sl := δ.map S.noExn
def gTryOW (sub : Str → Option Bool) (gsu : Str → GS) : Rn Sl Fl → Rn Sl Fl
  | .ok fl => .ok fl
  | .err c δ' => match sub c with
    | some true => ((gsu c δ').noErrS).bind fun fl => .ok (fl.map outEx0)
    | some false => .err c δ'
    | none => .bad
  | .bad => .bad
  | .pick n k => .pick n fun j => gTryOW sub gsu (k j)
def gTryO (sub : Str → Option Bool) (g : GS) (gsu : Str → GS) : GS := fun δ => gTryOW sub gsu (g δ)
theorem gTryOW_wp {sub : Str → Option Bool} {gsu : Str → GS} {Q : Fl → Prop} {E : Str → Sl → Prop} : ∀ {r : Rn Sl Fl}, (gTryOW sub gsu r).wp Q E →
    r.wp Q fun c δ' => (sub c = some true ∧ (((gsu c δ').noErrS).bind fun fl => .ok (fl.map outEx0)).wp Q E) ∨ (sub c = some false ∧ E c δ') := by
  intro r
  induction r with
  | ok fl => exact fun h => h
  | err c δ' =>
    intro h
    unfold gTryOW at h
    split at h
    · rename_i e; exact .inl ⟨e, h⟩
    · rename_i e; exact .inr ⟨e, h⟩
    · exact h.elim
  | bad => exact fun h => h
  | pick n k ih => exact fun h j hj => ih j (h j hj)
section
variable {K : PySem.W.Frag} {B H : Hp}
theorem SRel.outEx0 {Rg : Option Nat → Hp} {ex : Option Addr} {σ : L2.St} {δ : Sl} (S0 : SRel K B (ex := ex) Rg σ H δ) : SRel K B (ex := none) Rg σ H (outEx0 δ) := by
  obtain ⟨b, u, fp, q, n, f⟩ := S0
  exact ⟨b, u, fp, q.offEx, n, f⟩
end
section
variable {W : WX} {X : Cx} {body suite : List Stmt} {b₀ : Stmt} {g1 : GS} {pos p np pos' : Pos}
theorem try_ofO {sub : Str → Option Bool} {gsu : Str → GS} {c : Value} {ts : Addr → Value → Option Addr → TS}
    (hts : ts = fun a cls d D σ H => ∃ cl C, X.mg cl = some (.ref C) ∧ cls = .ref C ∧ d = none ∧ tDS ⟨X.K, X.mg, W0, some a⟩ (gsu cl) D σ H) (et : ErrT X.K X.mg c sub) (hc : X.calm = true)
    (D : Ends) (σ : L2.St) (H : Hp) (h : tDS (dc X W) (gTryO sub g1 gsu) D σ H) : tDS ⟨X.K, X.mg, wOnly X.K c ts W D, none⟩ g1 D σ H := by
  rw [dc_calm hc] at h
  obtain ⟨B, Rg, δ, S0, w⟩ := h
  refine ⟨B, Rg, δ, S0, Rn.wp_mono (gTryOW_wp w) (fun _ q => q) fun cl δ' q C σ1 H1 hm S1 => ?_⟩
  rcases q with ⟨e, q⟩ | ⟨e, q⟩
  · refine ⟨true, et cl true C e hm, fun _ a ha => ?_, fun z => Bool.noConfusion z⟩
    subst hts
    refine ⟨cl, C, hm, rfl, rfl, ?_⟩
    obtain ⟨b, u, fp, r, n, f⟩ := S1
    refine ⟨B, Rg, δ', ⟨b, u, fp, r.toEx (a := a), n, f⟩, Rn.wp_noErrS (Rn.wp_mono (Rn.wp_bind.mp q) (fun fl q => ?_) fun _ _ q => q)⟩
    cases fl with
    | nx δ2 => exact fun σ2 H2 S2 => q _ _ S2.outEx0
    | bk δ2 => exact fun σ2 H2 S2 => q _ _ S2.outEx0
    | ct δ2 => exact fun σ2 H2 S2 => q _ _ S2.outEx0
    | ret d => exact q
  · exact ⟨false, et cl false C e hm, fun z => Bool.noConfusion z, fun _ => q C σ1 H1 hm S1⟩
theorem ds_tryOnly {x : Str} {c : Value} {sub : Str → Option Bool} {gsu : Str → GS} (hs : X.stack = X.env :: X.outer) (hf : X.env.frame = some X.env.locals) (hcal : X.calm = true)
    (hc : Names X x c) (et : ErrT X.K X.mg c sub) (tk : Takes X W)
    (hb : ∀ (W' : WX) (pn : List (Addr × Obj)) (xe : Value → Shared → Prop), Takes (X.tr pn xe) W' → PassesOwn (model X.prog X.w) X.A X.env xe → DSs W' (X.tr pn xe) body g1)
    (hsu : ∀ (cl : Str) (C a : Addr) (oe : Obj) (pn : List (Addr × Obj)), X.mg cl = some (.ref C) → Zc (.ref C) none oe → (∃ vs, oe.data = .fields vs) → DSs W0 (X.suite a ((a, oe) :: pn)) (b₀ :: suite) (gsu cl)) :
    DS W X (.Try body [.ExceptHandler (some (.Name x np)) none (b₀ :: suite) pos'] [] [] pos) (gTryO sub g1 gsu) := by
  refine PS.imp (ps_try_only (Wout := W) (tb := fun W' => tDS ⟨X.K, X.mg, W', none⟩ g1) (ts := fun a cls d D σ H => ∃ cl C, X.mg cl = some (.ref C) ∧ cls = .ref C ∧ d = none ∧ tDS ⟨X.K, X.mg, W0, some a⟩ (gsu cl) D σ H)
    hs hf hc tk (fun W' pn xe t1 t2 => ?_) fun a oe cls d pn hz hv => ?_) fun D σ H h => try_ofO rfl et hcal D σ H h
  · have := hb W' pn xe t1 t2
    unfold DSs at this
    rw [dc_calm (X := X.tr pn xe) hcal] at this
    exact this
  · refine ⟨fun pins s σ H D I ⟨cl, C, hm, e1, e2, h⟩ => ?_⟩
    subst e1 e2
    exact (hsu cl C a oe pn hm hz hv).run pins s σ H D I h
theorem ds_tryOC {x : Str} {sub : Str → Option Bool} {gsu : Str → GS} (cc : CatchC X.K X.mg x sub) (hs : X.stack = X.env :: X.outer) (hf : X.env.frame = some X.env.locals) (hcal : X.calm = true) (tk : Takes X W)
    (hb : ∀ (W' : WX) (pn : List (Addr × Obj)) (xe : Value → Shared → Prop), Takes (X.tr pn xe) W' → PassesOwn (model X.prog X.w) X.A X.env xe → DSs W' (X.tr pn xe) body g1)
    (hsu : ∀ (cl : Str) (C a : Addr) (oe : Obj) (pn : List (Addr × Obj)), X.mg cl = some (.ref C) → Zc (.ref C) none oe → (∃ vs, oe.data = .fields vs) → DSs W0 (X.suite a ((a, oe) :: pn)) (b₀ :: suite) (gsu cl))
    (hg : Gl X x := by rfl) (hdb : (x == ("__debug__" : Str)) = false := by decide) :
    DS W X (.Try body [.ExceptHandler (some (.Name x np)) none (b₀ :: suite) pos'] [] [] pos) (gTryO sub g1 gsu) := by
  obtain ⟨C, hC, et⟩ := cc.ex
  exact ds_tryOnly hs hf hcal ⟨hg, hdb, .inl hC⟩ et tk hb hsu
end
/-! ### isinstance of an error by a built-in class -/
structure IsTB (K : PySem.W.Frag) (mg : Str → Option Value) (T : String) (sub : Str → Option Bool) : Prop where
  ex : ∀ c b C, sub c = some b → mg c = some (.ref C) → ExcC K C ∧ PySem.W.kitOne K (.ref C) (.type T) = some b
/-- which classes are kinds of a built-in class -/
inductive SubTB (K : PySem.W.Frag) (mg : Str → Option Value) (T : String) : List (Str × Bool) → Prop
  | nil : SubTB K mg T []
  | cons {x : Str} {D : Addr} {b : Bool} {t : List (Str × Bool)} (C : ClsT K mg x D) (h : PySem.W.subIn K (.ref D) (.type T) = some b) (r : SubTB K mg T t) : SubTB K mg T ((x, b) :: t)
theorem SubTB.get {K : PySem.W.Frag} {mg : Str → Option Value} {T : String} : ∀ {t : List (Str × Bool)} {x : Str} {b : Bool}, SubTB K mg T t → (x, b) ∈ t → ∃ D, ClsT K mg x D ∧ PySem.W.subIn K (.ref D) (.type T) = some b
  | _, _, _, .nil, h => by cases h
  | _, x, b, .cons C h r, hm => by
    rcases List.mem_cons.mp hm with e | e
    · cases e; exact ⟨_, C, h⟩
    · exact SubTB.get r e
theorem isTB_of {K : PySem.W.Frag} {mg : Str → Option Value} {T : String} {t : List (Str × Bool)} (O : ObjT K) (hk : PySem.W.kitMeta T = true)
    (S : SubTB K mg T t) : IsTB K mg T (tabS t) := by
  refine ⟨fun c b C e hm => ?_⟩
  obtain ⟨D', T', h⟩ := S.get (tab_mem e)
  have : D' = C := by have := T'.mg.symm.trans hm; exact Value.ref.inj (Option.some.inj this)
  subst this
  refine ⟨T'.excC O, ?_⟩
  unfold PySem.W.kitOne
  rw [if_neg (by simp)]
  show (if PySem.W.kitMeta T = true then PySem.W.subIn K (.ref D') (.type T) else none) = some b
  rw [if_pos hk]
  exact h
section
variable {W : WX} {X : Cx} {p pos p2 : Pos}
theorem de_isEB {T : String} {x y cl : Str} {C a : Addr} {oe : Obj} {pn : List (Addr × Obj)} {i : Nat} {sub : Str → Option Bool} {py : Pos} (it : IsTB X.K X.mg T sub) (hm2 : X.mg x = none) (hcl : X.mg cl = some (.ref C)) (hz : Zc (.ref C) none oe) (hf : ∃ vs, oe.data = .fields vs)
    (hm : X.mg "isinstance" = none) (hN : X.N[i]? = some y) (hv : Vis X.env.scope y) (hb : bootBuiltins x = some (.type T)) (hn : x ≠ "__name__" := by decide) (hg2 : Gl X x := by rfl) (hg : Gl X "isinstance" := by rfl)
    (hdb : (x == ("__debug__" : Str)) = false := by decide) (hdy : (y == ("__debug__" : Str)) = false := by decide) (hcd : (y == ("__classdict__" : Str)) = false := by decide)
    (he : starEach [.Name y py, .Name x p2] X.env = (false, eval (.Name y py) X.env) :: starEach [.Name x p2] X.env := by rfl) (he2 : starEach [.Name x p2] X.env = (false, eval (.Name x p2) X.env) :: starEach [] X.env := by rfl) (hpl : (backTo pos (starEach [.Name x p2] X.env)).any (·.1) = false := by rfl) :
    DE W0 (X.suite a ((a, oe) :: pn)) (.Call (.Name "isinstance" p) [.Name y py, .Name x p2] [] pos) (gIsE i (sub cl)) := by
  cases eb : sub cl with
  | none => exact ⟨fun pins s σ H Q I ⟨B, Rg, δ, S0, w⟩ => by
      unfold gIsE at w
      split at w
      · rename_i z; cases z
      · exact w.elim⟩
  | some b =>
    obtain ⟨ec, hkit⟩ := it.ex cl b C eb hcl
    refine PE.imp (pe_callB (X := X.suite a ((a, oe) :: pn)) (call_isE ec hz hf) hg hm (by decide +kernel) (pa_cons (pe_var (i := i) hN hv hdy hcd) (pa_cons (pe_bltn (v := .ty T) hg2 hm2 hb rfl hn hdb) pa_nil he2) he) (by decide) (by decide) he hpl) fun σ H Q ⟨B, Rg, δ, S0, w⟩ => ?_
    unfold gIsE at w
    split at w
    · rename_i b' e1 e2
      cases e2
      obtain ⟨b0, u, fp, q, n, f⟩ := S0
      obtain ⟨ov, f1, e3, r, _⟩ := q.get e1
      obtain ⟨_, a', ea, rfl⟩ := r
      obtain rfl : a = a' := Option.some.inj ea
      exact ⟨_, e3, .ty T, .type T, b, rfl, fun u h => h, hkit, w _ H (Same.refl H) (RepR.plain rfl)⟩
    · exact w.elim
end
end DL
/-! DLw: unpacking; common readings: bounds, draws, the Euclid of a law. -/
namespace DL
open PySem PySem.Spec PyProof.Rows L2
section
variable {W : WX} {X : Cx} {e : Expr} {es : List Expr} {ga : GE} {pos p : Pos}
/-- a, b = e: e a tuple or a list -/
def gUnpT (is : List Nat) (ga : GE) : GS := fun δ => (lift (ga δ) δ).bind fun r => match r.d with
  | .lst xs => if xs.length = is.length then .ok (.nx (setAll is (xs.map D.p) δ)) else .bad
  | d => match r with
    | .own _ => match (Tg.tup is).set d δ with
      | some δ' => .ok (.nx δ')
      | none => .bad
    | .vw _ => .bad
theorem ds_unpT {k n : Nat} {is : List Nat} (hc : X.calm = true) (hg : PGs X es (gNms is)) (ha : DE W X e ga) (hl : is.length = n) (hn : (assignEach es X.env).length = n := by rfl) (hst : (assignEach es X.env).findIdx? (·.1) = none := by rfl)
    (hs : swapsWithSole [.Tuple es k p] e pos.line X.env = pure false := by rfl) (hw : swappedStores [.Tuple es k p] e X.env = pure none := by rfl)
    (h1 : (assignEach [.Tuple es k p] X.env).map (·.2) = [assign (.Tuple es k p) X.env] := by rfl) : DS W X (.Assign [.Tuple es k p] e pos) (gUnpT is ga) := by
  subst hl
  have hg2 : PG X (.Tuple es k p) (fun v σ H Q => L2.gTup X.K is.length (gNms is) v σ H Q ∨ L2.gLst X.K is.length (gNms is) v σ H Q) :=
    ⟨fun pins s σ H v u Q I r hw => hw.elim (fun q => (pg_tup hc hg hn hst).run pins s σ H v u Q I r q) fun q => (pg_lst hc hg hn hst).run pins s σ H v u Q I r q⟩
  refine PS.imp (ps_asg ha hg2 hs hw h1) fun D σ H ⟨B, Rg, δ, S0, w⟩ => ?_
  refine tDS_val S0 w fun r v H1 s1 rv S1 q => ?_
  split at q
  · rename_i xs ed
    split at q
    · rename_i hl
      obtain ⟨fp0, rd⟩ := rv.look
      rw [ed] at rd
      obtain ⟨a, vs, rfl, qa, _, ra⟩ := rd
      obtain ⟨b, u, fp, z, qn, qf⟩ := S1
      refine .inr ⟨a, vs, rfl, SqL.of qa, by rw [ra.len, hl], setAll_ok is _ vs [] σ _ fp _ (by simpa using hl) z ra.ds (by simpa using qn) fun σ' fp' z1 z2 z3 => q σ' H1 ⟨b, u, fp', z1, z2, fun a ha => qf a (by simpa using z3 a ha)⟩⟩
    · exact q.elim
  · split at q
    · split at q
      · rename_i δ' e1
        obtain ⟨fp, q1, n, f⟩ := rv
        exact .inl (Tg.ok S0 s1 q1 n f e1 fun σ' S2 => q σ' H1 S2)
      · exact q.elim
    · exact q.elim
end
/-- below 2^k in size -/
structure Z (k : Nat) (x : Int) : Prop where
  h : x.natAbs < 2 ^ k
theorem Z.mono {j k : Nat} {x : Int} (h : Z j x) (hk : j ≤ k) : Z k x := ⟨Nat.lt_of_lt_of_le h.h (Nat.pow_le_pow_right (by decide) hk)⟩
theorem Z.mul {j k : Nat} {x y : Int} (hx : Z j x) (hy : Z k y) : Z (j + k) (x * y) := ⟨by
  rw [Int.natAbs_mul, Nat.pow_add]
  exact Nat.mul_lt_mul'' hx.h hy.h⟩
theorem Z.add {k : Nat} {x y : Int} (hx : Z k x) (hy : Z k y) : Z (k + 1) (x + y) := ⟨by
  have h1 := hx.h
  have h2 := hy.h
  rw [Nat.pow_succ]
  generalize 2 ^ k = T at *
  omega⟩
theorem Z.neg {k : Nat} {x : Int} (hx : Z k x) : Z k (-x) := ⟨by rw [Int.natAbs_neg]; exact hx.h⟩
theorem Z.sub {k : Nat} {x y : Int} (hx : Z k x) (hy : Z k y) : Z (k + 1) (x - y) := by
  rw [Int.sub_eq_add_neg]
  exact hx.add hy.neg
theorem Z.log {k : Nat} {x : Int} (h : Z k x) : x.natAbs.log2 ≤ k := by
  by_cases hz : x.natAbs = 0
  · rw [hz]; exact Nat.zero_le _
  · exact Nat.le_of_lt ((Nat.log2_lt hz).mpr h.h)
theorem Z.cmul {j k : Nat} {x y : Int} (hx : Z j x) (hy : Z k y) (h : j + k < 1000000 := by decide) : CMulW x y := by
  have h1 := hx.log
  have h2 := hy.log
  show x.natAbs.log2 + y.natAbs.log2 < 1000000
  omega
theorem Z.cdiv {k : Nat} {x y : Int} (hy : Z k y) (hp : 0 < y) (h : k < 9000 := by decide) : CDivW x y := ⟨hp, Nat.lt_of_le_of_lt hy.log h⟩
theorem Z.of {k : Nat} {x : Int} (h1 : -(2 ^ k) < x) (h2 : x < 2 ^ k) : Z k x := ⟨by
  have e : ((2 ^ k : Nat) : Int) = (2 : Int) ^ k := by rw [Int.natCast_pow]; rfl
  rw [← e] at h1 h2
  generalize (2 ^ k : Nat) = T at *
  omega⟩
theorem Z.lt {k : Nat} {x : Int} (h : Z k x) : -(2 ^ k) < x ∧ x < 2 ^ k := by
  have e : ((2 ^ k : Nat) : Int) = (2 : Int) ^ k := by rw [Int.natCast_pow]; rfl
  have := h.h
  rw [← e]
  generalize (2 ^ k : Nat) = T at *
  omega
theorem Z.div {k : Nat} {x y : Int} (hx : Z k x) (hy : 0 < y) : Z k (x / y) := ⟨by
  have h := hx.h
  obtain ⟨Y, rfl⟩ : ∃ Y : Nat, y = (Y : Int) := ⟨y.toNat, by omega⟩
  have h1 : (Y : Int) * (x / (Y : Int)) ≤ x := Int.mul_ediv_self_le (by omega)
  have h2 : x < (Y : Int) * (x / (Y : Int)) + (Y : Int) := Int.lt_mul_ediv_self_add (by omega)
  generalize x / (Y : Int) = q at *
  generalize (2 ^ k : Nat) = T at *
  by_cases hq : 0 ≤ q
  · have : q ≤ (Y : Int) * q := by
      have := Int.mul_le_mul_of_nonneg_right (show (1 : Int) ≤ Y by omega) hq
      omega
    omega
  · have : (Y : Int) * q + (Y : Int) ≤ q + 1 := by
      have e : (Y : Int) * q + (Y : Int) = (Y : Int) * (q + 1) := by rw [Int.mul_add, Int.mul_one]
      rw [e]
      have := Int.mul_le_mul_of_nonneg_right (show (1 : Int) ≤ Y by omega) (show 0 ≤ -(q + 1) by omega)
      simp only [Int.mul_neg, Int.one_mul] at this
      omega
    omega⟩
section
variable {δ : Sl} {Q : R → Prop}
/-- a draw of fewer than n -/
theorem draw_eq {n : Int} {gs : GA} (h0 : 0 < n) (h1 : n < 2 ^ 250) (hg : gs δ = .ok [.vw .orc, .own (.p (.int n))]) (h : ∀ i : Int, 0 ≤ i → i < n → Q (.own (.p (.int i)))) : Wp (gFn 2 takeF gs δ) Q (fun _ _ => False) := by
  refine w_fn hg rfl ?_
  show Wp (takeF [.orc, .p (.int n)]) _ _
  rw [take_big h0 h1]
  refine wp_pick.mpr fun i hi => wp_ok.mpr (h _ (by omega) (by omega))
theorem set_fn {i n : Nat} {f : Fn} {gs : GA} {rs : List R} {T : D → Prop} {Q : Fl → Prop} (h1 : gs δ = .ok rs) (h2 : rs.length = n) (h3 : Wp (f (rs.map R.d)) T (fun _ _ => False)) (h4 : ∀ d, T d → Q (.nx (δ.set i (.own d)))) : Wp (gSet i (gFn n f gs) δ) Q (fun _ _ => False) :=
  w_set (w_fn h1 h2 (wp_imp h3 (fun d t => ⟨d, rfl, h4 d t⟩) fun _ _ z => z))
end
theorem cons_eq {a : GE} {gs : GA} {δ : Sl} {r : R} {rs : List R} (h1 : a δ = .ok r) (h2 : gs δ = .ok rs) : gCons a gs δ = .ok (r :: rs) := by
  unfold gCons
  rw [h1, Rn.bind_ok, h2]
  rfl
theorem fn_val {n : Nat} {f : Fn} {gs : GA} {δ : Sl} {rs : List R} {d : D} (h1 : gs δ = .ok rs) (h2 : rs.length = n) (h3 : f (rs.map R.d) = .ok d) : gFn n f gs δ = .ok (.own d) := by
  unfold gFn
  rw [h1, Rn.bind_ok, if_pos h2, h3]
  rfl
theorem set_eq {i : Nat} {a : GE} {δ : Sl} {d : D} (h : a δ = .ok (.own d)) : gSet i a δ = .ok (.nx (δ.set i (.own d))) := by
  unfold gSet lift
  rw [h]
  rfl
theorem ret_eq {a : GE} {δ : Sl} {d : D} (h : a δ = .ok (.own d)) : gRet a δ = .ok (.ret d) := by
  unfold gRet lift
  rw [h]
  rfl
theorem andV_eq {a b : GE} {δ : Sl} {r : Rn Unit R} (h1 : a δ = .ok (.own (.p (.bl true)))) (h2 : b δ = r) : gAndV a b δ = r := by
  unfold gAndV
  rw [h1]
  exact h2
theorem andV_eqF {a b : GE} {δ : Sl} (h1 : a δ = .ok (.own (.p (.bl false)))) : gAndV a b δ = .ok (.own (.p (.bl false))) := by
  unfold gAndV
  rw [h1]
  rfl
theorem orV_eqT {a b : GE} {δ : Sl} (h1 : a δ = .ok (.own (.p (.bl true)))) : gOrV a b δ = .ok (.own (.p (.bl true))) := by
  unfold gOrV
  rw [h1]
  rfl
theorem orV_eqF {a b : GE} {δ : Sl} {r : Rn Unit R} (h1 : a δ = .ok (.own (.p (.bl false)))) (h2 : b δ = r) : gOrV a b δ = r := by
  unfold gOrV
  rw [h1]
  exact h2
theorem or_eqF {a b : GT} {δ : Sl} {r : Rn Unit Bool} (h1 : a δ = .ok false) (h2 : b δ = r) : gOr a b δ = r := by
  unfold gOr
  rw [h1]
  exact h2
theorem or_eqT {a b : GT} {δ : Sl} (h1 : a δ = .ok true) : gOr a b δ = .ok true := by
  unfold gOr
  rw [h1]
  rfl
theorem and_eqT {a b : GT} {δ : Sl} {r : Rn Unit Bool} (h1 : a δ = .ok true) (h2 : b δ = r) : gAnd a b δ = r := by
  unfold gAnd
  rw [h1]
  exact h2
theorem and_eqF {a b : GT} {δ : Sl} (h1 : a δ = .ok false) : gAnd a b δ = .ok false := by
  unfold gAnd
  rw [h1]
  rfl
theorem not_eq {a : GT} {δ : Sl} {k : Bool} (h1 : a δ = .ok k) : gNot a δ = .ok (!k) := by
  unfold gNot
  rw [h1]
  rfl
theorem tru_eq {a : GE} {δ : Sl} {k : Bool} (h : a δ = .ok (.own (.p (.bl k)))) : gTru a δ = .ok k := by
  unfold gTru
  rw [h]
  rfl
theorem if_eq {t : GT} {a b : GE} {δ : Sl} {k : Bool} {r : Rn Unit R} (h : t δ = .ok k) (h2 : (if k = true then a δ else b δ) = r) : gIf t a b δ = r := by
  unfold gIf
  rw [h]
  exact h2
theorem call_eq {f : List D → Rn Unit R} {gs : GA} {δ : Sl} {rs : List R} {r : Rn Unit R} (h1 : gs δ = .ok rs) (h2 : f (rs.map R.d) = r) : gCall f gs δ = r := by
  unfold gCall
  rw [h1]
  exact h2
def signedF : Fn := fnD 2 (gRet (gOp2 iSub (gFn 2 takeF (gCons (gVar 0) (gCons (gOp2 fAdd (gOp2 fMul (gC (.int 2)) (gVar 1)) (gC (.int 1))) gNil))) (gVar 1)))
theorem signed_wp (m : Int) (h0 : 0 ≤ m) (h1 : m < 2 ^ 240) : Wp (signedF [.orc, .p (.int m)]) (fun d => ∃ i : Int, -m ≤ i ∧ i ≤ m ∧ d = .p (.int i)) (fun _ _ => False) := by
  have cm : CMulW 2 m := Z.cmul (j := 2) (k := 240) ⟨by decide⟩ (Z.of (by omega) h1)
  refine fn_wp (w_ret (w_op2 (draw_eq (n := 2 * m + 1) (by omega) (by omega) ?_ fun i h2 h3 => ?_)))
  · have e : gOp2 fMul (gC (.int 2)) (gVar 1) (startS 2 [.orc, .p (.int m)]) = .ok (.own (.p (.int (2 * m)))) := by
      show (if CMulW 2 m then _ else _) = _
      rw [if_pos cm]
    have e2 : gOp2 fAdd (gOp2 fMul (gC (.int 2)) (gVar 1)) (gC (.int 1)) (startS 2 [.orc, .p (.int m)]) = .ok (.own (.p (.int (2 * m + 1)))) := op2_eq e rfl rfl
    unfold gCons
    rw [e2]
    rfl
  · exact w_of (v := .own (.p (.int m))) rfl (w_of (v := .own (.p (.int (i - m)))) rfl ⟨_, rfl, i - m, by omega, by omega, rfl⟩)
/-! ### Euclid -/
def divisorG : GS := gSeq (gSet 0 (gCall fAbs (gCons (gVar 0) gNil)))
  (gSeq (gSet 1 (gCall fAbs (gCons (gVar 1) gNil)))
  (gSeq (fun δ => gWhile (gTB (gOp2 (fB fGt) (gVar 1) (gC (.int 0)))) (gPar 0 1 (gCons (gVar 1) (gCons (gOp2 fMod (gCall fInt1 (gCons (gVar 0) gNil)) (gVar 1)) gNil))) ((fuelAt 1 1) δ) δ)
  (gRetV 0)))
theorem while_tt {gt : GT} {g : GS} {n : Nat} {δ δ' : Sl} {r : Rn Sl Fl} (h : gt δ = .ok true) (w : g δ = .ok (.nx δ')) (k : gWhile gt g n δ' = r) : gWhile gt g (n + 1) δ = r := by
  unfold gWhile lift
  rw [h]
  show ((g δ).bind _) = r
  rw [w]
  exact k
theorem while_ff {gt : GT} {g : GS} {n : Nat} {δ : Sl} (h : gt δ = .ok false) : gWhile gt g (n + 1) δ = .ok (.nx δ) := by
  unfold gWhile lift
  rw [h]
  rfl
theorem euclid : ∀ (n a b : Nat) (ss : Sl), b ≤ n → gWhile (gTB (gOp2 (fB fGt) (gVar 1) (gC (.int 0)))) (gPar 0 1 (gCons (gVar 1) (gCons (gOp2 fMod (gCall fInt1 (gCons (gVar 0) gNil)) (gVar 1)) gNil))) (n + 1) (.own (.p (.int (a : Int))) :: .own (.p (.int (b : Int))) :: ss) =
    .ok (.nx (.own (.p (.int ((Nat.gcd a b : Nat) : Int))) :: .own (.p (.int 0)) :: ss))
  | n, a, 0, ss, _ => by
    rw [Nat.gcd_zero_right]
    exact while_ff rfl
  | n, a, b + 1, ss, h => by
    obtain ⟨m, rfl⟩ : ∃ m, n = m + 1 := ⟨n - 1, by omega⟩
    have e : Nat.gcd a (b + 1) = Nat.gcd (b + 1) (a % (b + 1)) := by
      rw [Nat.gcd_comm a, Nat.gcd_rec (b + 1) a, Nat.gcd_comm]
    have lt := Nat.mod_lt a (show 0 < b + 1 by omega)
    rw [e]
    refine while_tt (δ' := .own (.p (.int ((b + 1 : Nat) : Int))) :: .own (.p (.int ((a % (b + 1) : Nat) : Int))) :: ss) ?_ ?_ (euclid m (b + 1) (a % (b + 1)) ss (by omega))
    · show (fB fGt (.p (.int ((b + 1 : Nat) : Int))) (.p (.int 0))).bind _ = _
      have : fGt (.p (.int ((b + 1 : Nat) : Int))) (.p (.int 0)) = .ok true := by
        show Rn.ok _ = _
        have hh : (0 : Int) < ((b + 1 : Nat) : Int) := by omega
        simp [hh]
      rw [fB_eq this]
      rfl
    · have e2 : gOp2 fMod (gCall fInt1 (gCons (gVar 0) gNil)) (gVar 1) (.own (.p (.int (a : Int))) :: .own (.p (.int ((b + 1 : Nat) : Int))) :: ss) = .ok (.own (.p (.int ((a % (b + 1) : Nat) : Int)))) := by
        refine op2_eq (x := .own (.p (.int (a : Int)))) (y := .own (.p (.int ((b + 1 : Nat) : Int)))) rfl rfl ?_
        show (if 0 < ((b + 1 : Nat) : Int) then _ else _) = _
        rw [if_pos (by omega), Int.natCast_emod]
      have e3 := cons_eq (a := gVar 1) (r := .own (.p (.int ((b + 1 : Nat) : Int)))) rfl (cons_eq e2 (rfl : gNil (.own (.p (.int (a : Int))) :: .own (.p (.int ((b + 1 : Nat) : Int))) :: ss) = .ok []))
      unfold gPar lift
      rw [e3]
      rfl
theorem divisor_eq (a b : Int) : fnD 2 divisorG [.p (.int a), .p (.int b)] = .ok (.p (.int ((Nat.gcd a.natAbs b.natAbs : Nat) : Int))) := by
  have ab : ∀ x : Int, (if x < 0 then -x else x) = ((x.natAbs : Nat) : Int) := fun x => by split <;> omega
  refine fn_eq (seq_eq (δ' := [.own (.p (.int (a.natAbs : Int))), .bor none (.p (.int b))]) ?_ (seq_eq (δ' := [.own (.p (.int (a.natAbs : Int))), .own (.p (.int (b.natAbs : Int)))]) ?_ (seq_eq (euclid b.natAbs a.natAbs b.natAbs [] (Nat.le_refl _)) rfl)))
  · rw [← ab a]; rfl
  · rw [← ab b]; rfl
end DL
/-! DLx: range downwards; another Euclid; shifts. -/
namespace DL
open PySem PySem.Spec PyProof.Rows L2
section
variable {K : PySem.W.Frag} {H0 H : Hp}
theorem Walk.rangeC (lo c : Int) (n : Nat) : Walk K H0 H (Itc lo c n) ((List.range n).map fun (i : Nat) => P.int (lo + (i : Int) * c)) := by
  refine ⟨fun _ => none, (fun _ _ z => by cases z), (fun _ z => absurd rfl z), fun H' _ i => ⟨fun p e => ?_, fun h => (by have h' : n ≤ i := (by simpa using h); exact h')⟩⟩
  simp only [List.getElem?_map, Option.map_eq_some_iff] at e
  obtain ⟨j, ej, rfl⟩ := e
  obtain ⟨hj, ej⟩ := List.getElem?_eq_some_iff.mp ej
  simp at hj ej
  subst ej
  refine ⟨hj, fun x H'' y => ?_⟩
  obtain ⟨rfl, rfl⟩ := y
  exact ⟨Same.refl _, rfl⟩
end
/-- lo, lo - 1, .., hi + 1 -/
def rangeN (lo hi : Int) : List P := (List.range (lo - hi).toNat).map fun (i : Nat) => P.int (lo + (i : Int) * (-1))
def fRange3 : List D → Rn Unit (List P)
  | [.p (.int i), .p (.int j), .p (.int c)] => if c = -1 ∧ -(2 ^ 62) ≤ i ∧ i < 2 ^ 62 ∧ -(2 ^ 62) ≤ j ∧ j < 2 ^ 62 then .ok (rangeN i j) else .bad
  | _ => .bad
section
variable {W : WX} {X : Cx} {a b c e tg : Expr} {gs : GA} {p pos : Pos}
theorem di_range3 (hm : X.mg "range" = none) (ha : DA W X [a, b, c] gs) (hg : Gl X "range" := by rfl) (hs : starEach [a, b, c] X.env = (false, eval a X.env) :: starEach [b, c] X.env := by rfl) (hpl : (backTo pos (starEach [b, c] X.env)).any (·.1) = false := by rfl) : DI W X tg (.Call (.Name "range" p) [a, b, c] [] pos) (gRangeI fRange3 gs) := by
  refine PI.imp (pi_range3 hg hm ha hs hpl) fun σ H Rk ⟨B, Rg, δ, S0, w⟩ => ?_
  refine ⟨B, Rg, δ, S0, Rn.wp_mono (Rn.wp_bind.mp w) (fun rs q vs H1 s1 ra => ?_) fun _ _ q => q⟩
  obtain ⟨fp, r, _⟩ := ra
  have lk := r.look
  generalize rs.map R.d = ds at lk q
  unfold fRange3 at q
  split at q
  · rename_i i j k
    obtain ⟨v, r, rfl, ⟨fp1, q1⟩, u, r', rfl, ⟨gp, q2⟩, w, r'', rfl, ⟨hp, q3⟩, rfl⟩ := lk
    obtain rfl : v = .int i := q1.1
    obtain rfl : u = .int j := q2.1
    obtain rfl : w = .int k := q3.1
    split at q
    · rename_i hz
      obtain ⟨rfl, h1, h2, h3, h4⟩ := hz
      exact ⟨i, j, -1, _, rfl, RgC.neg h1 h2 h3 h4, q _ H1 s1 (Walk.rangeC _ _ _)⟩
    · exact q.elim
  · exact q.elim
end
/-- a slot with an int -/
def IsI (s : S) (a : Int) : Prop := s = .own (.p (.int a)) ∨ s = .bor none (.p (.int a))
theorem euclidN : ∀ (n a b : Nat) (s0 s1 : S) (ss : Sl), IsI s0 (a : Int) → IsI s1 (b : Int) → b ≤ n → ∃ s0' s1', IsI s0' ((Nat.gcd a b : Nat) : Int) ∧
    gWhile (gTB (gOp2 (fB (fEqB true)) (gVar 1) (gC (.int 0)))) (gPar 0 1 (gCons (gVar 1) (gCons (gOp2 fMod (gCall fInt1 (gCons (gVar 0) gNil)) (gVar 1)) gNil))) (n + 1) (s0 :: s1 :: ss) = .ok (.nx (s0' :: s1' :: ss))
  | n, a, 0, s0, s1, ss, h0, h1, _ => by
    rw [Nat.gcd_zero_right]
    refine ⟨s0, s1, h0, while_ff ?_⟩
    rcases h1 with rfl | rfl <;> rfl
  | n, a, b + 1, s0, s1, ss, h0, h1, h => by
    obtain ⟨m, rfl⟩ : ∃ m, n = m + 1 := ⟨n - 1, by omega⟩
    have e : Nat.gcd a (b + 1) = Nat.gcd (b + 1) (a % (b + 1)) := by
      rw [Nat.gcd_comm a, Nat.gcd_rec (b + 1) a, Nat.gcd_comm]
    have lt := Nat.mod_lt a (show 0 < b + 1 by omega)
    rw [e]
    obtain ⟨t0, t1, i0, w⟩ := euclidN m (b + 1) (a % (b + 1)) (.own (.p (.int ((b + 1 : Nat) : Int)))) (.own (.p (.int ((a % (b + 1) : Nat) : Int)))) ss (.inl rfl) (.inl rfl) (by omega)
    refine ⟨t0, t1, i0, while_tt (δ' := .own (.p (.int ((b + 1 : Nat) : Int))) :: .own (.p (.int ((a % (b + 1) : Nat) : Int))) :: ss) ?_ ?_ w⟩
    · have hv : gVar 1 (s0 :: s1 :: ss) = .ok (.own (.p (.int ((b + 1 : Nat) : Int)))) := by rcases h1 with rfl | rfl <;> rfl
      have hk : decide (((b + 1 : Nat) : Int) ≠ 0) = true := decide_eq_true (by omega)
      refine tb_eq (op2_eq hv rfl ?_)
      show fB (fEqB true) (.p (.int ((b + 1 : Nat) : Int))) (.p (.int 0)) = _
      rw [ne_ints, hk]
    · have hv : gVar 1 (s0 :: s1 :: ss) = .ok (.own (.p (.int ((b + 1 : Nat) : Int)))) := by rcases h1 with rfl | rfl <;> rfl
      have hu : gVar 0 (s0 :: s1 :: ss) = .ok (.own (.p (.int (a : Int)))) := by rcases h0 with rfl | rfl <;> rfl
      have e2 : gOp2 fMod (gCall fInt1 (gCons (gVar 0) gNil)) (gVar 1) (s0 :: s1 :: ss) = .ok (.own (.p (.int ((a % (b + 1) : Nat) : Int)))) := by
        refine op2_eq (x := .own (.p (.int (a : Int)))) (call_eq (cons_eq hu (rfl : gNil (s0 :: s1 :: ss) = .ok [])) rfl) hv ?_
        show (if 0 < ((b + 1 : Nat) : Int) then _ else _) = _
        rw [if_pos (by omega), Int.natCast_emod]
      have e3 := cons_eq hv (cons_eq e2 (rfl : gNil (s0 :: s1 :: ss) = .ok []))
      unfold gPar lift
      rw [e3]
      rfl
theorem Z.bits {k : Nat} {x : Int} (h : Z k x) : Builtin.Int.intBits x ≤ k + 1 := by
  have b : Builtin.Int.intBits x ≤ x.natAbs.log2 + 1 := by
    unfold Builtin.Int.intBits
    split <;> omega
  have := h.log
  omega
theorem Z.cshl {k : Nat} {x n : Int} (h : Z k x) (h0 : 0 ≤ n) (hn : (k : Int) + 1 + n ≤ 2 ^ 27) : CShl x n := ⟨h0, by
  have := h.bits
  omega⟩
theorem Z.pow2 {k n : Nat} (h : n < k) : Z k ((2 : Int) ^ n) := ⟨by
  rw [show ((2 : Int) ^ n) = (((2 : Nat) ^ n : Nat) : Int) by rw [Int.natCast_pow]; rfl, Int.natAbs_natCast]
  exact Nat.pow_lt_pow_right (by decide) h⟩
end DL
set_option maxHeartbeats 4000000
namespace Lw
open PySem PySem.Spec PyProof.Rows L2 DL
def topS (i : Nat) : Stmt := PySem.Challenge.pw_tensorworks_k62_multipliers_and_codes.main.body.getD i (.Pass ⟨0, 0, 0, 0⟩)
abbrev s__law_begin : Stmt := topS 20
abbrev n__law_begin : List Str := ["script", "seed", "cell"]
theorem sc__law_begin : FnScope n__law_begin ["script"] (defScope s__law_begin) := ⟨rfl, rfl, rfl, by decide +kernel, rfl, by decide +kernel, by decide +kernel⟩
abbrev s__law_take : Stmt := topS 21
abbrev n__law_take : List Str := ["d", "many", "small", "digit"]
theorem sc__law_take : FnScope n__law_take ["d", "many"] (defScope s__law_take) := ⟨rfl, rfl, rfl, by decide +kernel, rfl, by decide +kernel, by decide +kernel⟩
abbrev s_check_bits : Stmt := topS 15
abbrev n_check_bits : List Str := ["bits"]
theorem sc_check_bits : FnScope n_check_bits ["bits"] (defScope s_check_bits) := ⟨rfl, rfl, rfl, by decide +kernel, rfl, by decide +kernel, by decide +kernel⟩
abbrev s_greatest_code : Stmt := topS 14
abbrev n_greatest_code : List Str := ["bits"]
theorem sc_greatest_code : FnScope n_greatest_code ["bits"] (defScope s_greatest_code) := ⟨rfl, rfl, rfl, by decide +kernel, rfl, by decide +kernel, by decide +kernel⟩
abbrev s_least_code : Stmt := topS 13
abbrev n_least_code : List Str := ["bits"]
theorem sc_least_code : FnScope n_least_code ["bits"] (defScope s_least_code) := ⟨rfl, rfl, rfl, by decide +kernel, rfl, by decide +kernel, by decide +kernel⟩
abbrev s_nearest : Stmt := topS 10
abbrev n_nearest : List Str := ["a"]
theorem sc_nearest : FnScope n_nearest ["a"] (defScope s_nearest) := ⟨rfl, rfl, rfl, by decide +kernel, rfl, by decide +kernel, by decide +kernel⟩
abbrev s_fraction : Stmt := topS 7
abbrev n_fraction : List Str := ["numerator", "denominator", "common"]
theorem sc_fraction : FnScope n_fraction ["numerator", "denominator"] (defScope s_fraction) := ⟨rfl, rfl, rfl, by decide +kernel, rfl, by decide +kernel, by decide +kernel⟩
abbrev s_over : Stmt := topS 9
abbrev n_over : List Str := ["a", "b"]
theorem sc_over : FnScope n_over ["a", "b"] (defScope s_over) := ⟨rfl, rfl, rfl, by decide +kernel, rfl, by decide +kernel, by decide +kernel⟩
abbrev s_code_of : Stmt := topS 17
abbrev n_code_of : List Str := ["pair", "bits", "x", "code"]
theorem sc_code_of : FnScope n_code_of ["pair", "bits", "x"] (defScope s_code_of) := ⟨rfl, rfl, rfl, by decide +kernel, rfl, by decide +kernel, by decide +kernel⟩
abbrev s__law_coded : Stmt := topS 34
abbrev n__law_coded : List Str := ["pair", "bits", "x", "actual", "e"]
theorem sc__law_coded : FnScope n__law_coded ["pair", "bits", "x"] (defScope s__law_coded) := ⟨rfl, rfl, rfl, by decide +kernel, rfl, by decide +kernel, by decide +kernel⟩
abbrev s__law_gcd : Stmt := topS 24
abbrev n__law_gcd : List Str := ["a", "b"]
theorem sc__law_gcd : FnScope n__law_gcd ["a", "b"] (defScope s__law_gcd) := ⟨rfl, rfl, rfl, by decide +kernel, rfl, by decide +kernel, by decide +kernel⟩
abbrev s__law_frac : Stmt := topS 25
abbrev n__law_frac : List Str := ["a", "b", "c"]
theorem sc__law_frac : FnScope n__law_frac ["a", "b"] (defScope s__law_frac) := ⟨rfl, rfl, rfl, by decide +kernel, rfl, by decide +kernel, by decide +kernel⟩
abbrev s__law_drawn : Stmt := topS 35
abbrev n__law_drawn : List Str := ["d", "menu", "most"]
theorem sc__law_drawn : FnScope n__law_drawn ["d"] (defScope s__law_drawn) := ⟨rfl, rfl, rfl, by decide +kernel, rfl, by decide +kernel, by decide +kernel⟩
abbrev s__law_ends : Stmt := topS 31
abbrev n__law_ends : List Str := ["bits", "half", "k"]
theorem sc__law_ends : FnScope n__law_ends ["bits"] (defScope s__law_ends) := ⟨rfl, rfl, rfl, by decide +kernel, rfl, by decide +kernel, by decide +kernel⟩
abbrev s__law_sum : Stmt := topS 26
abbrev n__law_sum : List Str := ["a", "b"]
theorem sc__law_sum : FnScope n__law_sum ["a", "b"] (defScope s__law_sum) := ⟨rfl, rfl, rfl, by decide +kernel, rfl, by decide +kernel, by decide +kernel⟩
abbrev s__law_gap : Stmt := topS 27
abbrev n__law_gap : List Str := ["a", "b", "c"]
theorem sc__law_gap : FnScope n__law_gap ["a", "b"] (defScope s__law_gap) := ⟨rfl, rfl, rfl, by decide +kernel, rfl, by decide +kernel, by decide +kernel⟩
abbrev s__law_int : Stmt := topS 23
abbrev n__law_int : List Str := ["actual"]
theorem sc__law_int : FnScope n__law_int ["actual"] (defScope s__law_int) := ⟨rfl, rfl, rfl, by decide +kernel, rfl, by decide +kernel, by decide +kernel⟩
abbrev s__law_means : Stmt := topS 32
abbrev n__law_means : List Str := ["pair", "code"]
theorem sc__law_means : FnScope n__law_means ["pair", "code"] (defScope s__law_means) := ⟨rfl, rfl, rfl, by decide +kernel, rfl, by decide +kernel, by decide +kernel⟩
abbrev s__law_near : Stmt := topS 29
abbrev n__law_near : List Str := ["a"]
theorem sc__law_near : FnScope n__law_near ["a"] (defScope s__law_near) := ⟨rfl, rfl, rfl, by decide +kernel, rfl, by decide +kernel, by decide +kernel⟩
abbrev s__law_multiplier : Stmt := topS 30
abbrev n__law_multiplier : List Str := ["a", "s", "m"]
theorem sc__law_multiplier : FnScope n__law_multiplier ["a"] (defScope s__law_multiplier) := ⟨rfl, rfl, rfl, by decide +kernel, rfl, by decide +kernel, by decide +kernel⟩
abbrev s__law_over : Stmt := topS 28
abbrev n__law_over : List Str := ["a", "b"]
theorem sc__law_over : FnScope n__law_over ["a", "b"] (defScope s__law_over) := ⟨rfl, rfl, rfl, by decide +kernel, rfl, by decide +kernel, by decide +kernel⟩
abbrev s__law_signed : Stmt := topS 22
abbrev n__law_signed : List Str := ["d", "most"]
theorem sc__law_signed : FnScope n__law_signed ["d", "most"] (defScope s__law_signed) := ⟨rfl, rfl, rfl, by decide +kernel, rfl, by decide +kernel, by decide +kernel⟩
abbrev s_times : Stmt := topS 8
abbrev n_times : List Str := ["a", "b"]
theorem sc_times : FnScope n_times ["a", "b"] (defScope s_times) := ⟨rfl, rfl, rfl, by decide +kernel, rfl, by decide +kernel, by decide +kernel⟩
abbrev s_multiplier : Stmt := topS 16
abbrev n_multiplier : List Str := ["a", "s", "m"]
theorem sc_multiplier : FnScope n_multiplier ["a"] (defScope s_multiplier) := ⟨rfl, rfl, rfl, by decide +kernel, rfl, by decide +kernel, by decide +kernel⟩
abbrev s__law_told : Stmt := topS 33
abbrev n__law_told : List Str := ["a", "actual", "e"]
theorem sc__law_told : FnScope n__law_told ["a"] (defScope s__law_told) := ⟨rfl, rfl, rfl, by decide +kernel, rfl, by decide +kernel, by decide +kernel⟩
abbrev s_meaning_of : Stmt := topS 18
abbrev n_meaning_of : List Str := ["pair", "code"]
theorem sc_meaning_of : FnScope n_meaning_of ["pair", "code"] (defScope s_meaning_of) := ⟨rfl, rfl, rfl, by decide +kernel, rfl, by decide +kernel, by decide +kernel⟩
abbrev s_law : Stmt := topS 36
abbrev n_law : List Str := ["script", "d", "turn", "a", "told", "bits", "low", "high", "pair", "x", "wanted", "code", "gap"]
theorem sc_law : FnScope n_law ["script"] (defScope s_law) := ⟨rfl, rfl, rfl, by decide +kernel, rfl, by decide +kernel, by decide +kernel⟩
def tc_TensorError : List (Str × Bool) := [("RangeError", true), ("TableError", true), ("ZeroDenominator", true)]
def ti_RangeError : List (Str × Bool) := [("RangeError", true), ("TableError", false), ("ZeroDenominator", false)]
def ti_TableError : List (Str × Bool) := [("RangeError", false), ("TableError", true), ("ZeroDenominator", false)]
def m__law_begin : Fn := beginF
def m__law_take : Fn := takeF
def g_check_bits : GS := (gIfS (gOr (gTB (gOp2 (fB fLt) (gVar 0) (gC (.int 3)))) (gTB (gOp2 (fB fGt) (gVar 0) (gC (.int 12))))) (gRaise "RangeError") gNext)
def m_check_bits : Fn := fnD 1 g_check_bits
def g_greatest_code : GS := (gRet (gOp2 iSub (gOp2 (fIntC CShl fun i j => i * 2 ^ j.toNat) (gC (.int 1)) (gOp2 iSub (gVar 0) (gC (.int 1)))) (gC (.int 1))))
def m_greatest_code : Fn := fnD 1 g_greatest_code
def g_least_code : GS := (gRet (gOp1 fNeg (gOp2 (fIntC CShl fun i j => i * 2 ^ j.toNat) (gC (.int 1)) (gOp2 iSub (gVar 0) (gC (.int 1))))))
def m_least_code : Fn := fnD 1 g_least_code
def g_nearest : GS := (gRet (gOp2 fDiv (gOp2 fAdd (gOp2 fMul (gC (.int 2)) (gOp2 fIx (gVar 0) (gC (.int 0)))) (gOp2 fIx (gVar 0) (gC (.int 1)))) (gOp2 fMul (gC (.int 2)) (gOp2 fIx (gVar 0) (gC (.int 1))))))
def m_nearest : Fn := fnD 1 g_nearest
def g_fraction : GS := (gSeq (gIfS (gTB (gOp2 (fB (fEqB false)) (gVar 1) (gC (.int 0)))) (gRaise "ZeroDenominator") gNext)
  (gSeq (gIfS (gTB (gOp2 (fB fLt) (gVar 1) (gC (.int 0)))) (gSeq (gSet 0 (gOp1 fNeg (gVar 0)))
  (gSet 1 (gOp1 fNeg (gVar 1)))) gNext)
  (gSeq (gSet 2 (gCall fGcd (gCons (gVar 0) (gCons (gVar 1) gNil))))
  (gRet (gTup (gCons (gOp2 fDiv (gVar 0) (gVar 2)) (gCons (gOp2 fDiv (gVar 1) (gVar 2)) gNil)))))))
def m_fraction : Fn := fnD 3 g_fraction
def g_over : GS := (gRet (gFn 2 m_fraction (gCons (gOp2 fMul (gOp2 fIx (gVar 0) (gC (.int 0))) (gOp2 fIx (gVar 1) (gC (.int 1)))) (gCons (gOp2 fMul (gOp2 fIx (gVar 0) (gC (.int 1))) (gOp2 fIx (gVar 1) (gC (.int 0)))) gNil))))
def m_over : Fn := fnD 2 g_over
def g_code_of : GS := (gSeq (gExpr (gFn 1 m_check_bits (gCons (gVar 1) gNil)))
  (gSeq (gSet 3 (gOp2 fAdd (gFn 1 m_nearest (gCons (gFn 2 m_over (gCons (gVar 2) (gCons (gOp2 fIx (gVar 0) (gC (.int 0))) gNil))) gNil)) (gOp2 fIx (gVar 0) (gC (.int 1)))))
  (gRet (gCall fMaxL (gCons (gFn 1 m_least_code (gCons (gVar 1) gNil)) (gCons (gCall fMinL (gCons (gFn 1 m_greatest_code (gCons (gVar 1) gNil)) (gCons (gVar 3) gNil))) gNil))))))
def m_code_of : Fn := fnD 4 g_code_of
def g__law_coded : GS := (gSeq (gTry (tabS tc_TensorError) 4 (gSet 3 (gFn 3 m_code_of (gCons (gVar 0) (gCons (gVar 1) (gCons (gVar 2) gNil))))) (fun cl => (gRet (gIf (gTru (gIsE 4 (tabS ti_RangeError cl))) (gC .non) (gC (.str "other"))))))
  (gRet (gIf (gTB (gOp2 (fB (fIsN false)) (gVar 3) (gC .non))) (gC (.str "None was told")) (gVar 3))))
def m__law_coded : Fn := fnD 5 g__law_coded
def g__law_gcd : GS := (gSeq (fun δ => gWhile (gTB (gOp2 (fB (fEqB true)) (gVar 1) (gC (.int 0)))) (gPar 0 1 (gCons (gVar 1) (gCons (gOp2 fMod (gCall fInt1 (gCons (gVar 0) gNil)) (gVar 1)) gNil))) ((fuelAt 1 1) δ) δ)
  (gRet (gCall fAbs (gCons (gVar 0) gNil))))
def m__law_gcd : Fn := fnD 2 g__law_gcd
def g__law_frac : GS := (gSeq (gIfS (gTB (gOp2 (fB fLt) (gVar 1) (gC (.int 0)))) (gSeq (gSet 0 (gOp2 iSub (gC (.int 0)) (gVar 0)))
  (gSet 1 (gOp2 iSub (gC (.int 0)) (gVar 1)))) gNext)
  (gSeq (gSet 2 (gFn 2 m__law_gcd (gCons (gCall fAbs (gCons (gVar 0) gNil)) (gCons (gVar 1) gNil))))
  (gRet (gTup (gCons (gOp2 fDiv (gVar 0) (gVar 2)) (gCons (gOp2 fDiv (gVar 1) (gVar 2)) gNil))))))
def m__law_frac : Fn := fnD 3 g__law_frac
def g__law_drawn : GS := (gSeq (gSet 1 (gFn 2 m__law_take (gCons (gVar 0) (gCons (gC (.int 7)) gNil))))
  (gSeq (gIfS (gTB (gOp2 (fB (fEqB false)) (gVar 1) (gC (.int 0)))) (gRet (gTup (gCons (gOp2 (fIntC CShl fun i j => i * 2 ^ j.toNat) (gC (.int 1)) (gFn 2 m__law_take (gCons (gVar 0) (gCons (gC (.int 18)) gNil)))) (gCons (gC (.int 1)) gNil)))) gNext)
  (gSeq (gIfS (gTB (gOp2 (fB (fEqB false)) (gVar 1) (gC (.int 1)))) (gRet (gTup (gCons (gC (.int 1)) (gCons (gOp2 (fIntC CShl fun i j => i * 2 ^ j.toNat) (gC (.int 1)) (gFn 2 m__law_take (gCons (gVar 0) (gCons (gC (.int 36)) gNil)))) gNil)))) gNext)
  (gSeq (gIfS (gTB (gOp2 (fB (fEqB false)) (gVar 1) (gC (.int 2)))) (gRet (gFn 2 m__law_frac (gCons (gOp2 fAdd (gC (.int 65534)) (gFn 2 m__law_take (gCons (gVar 0) (gCons (gC (.int 4)) gNil)))) (gCons (gOp2 fAdd (gC (.int 1)) (gFn 2 m__law_take (gCons (gVar 0) (gCons (gC (.int 3)) gNil)))) gNil)))) gNext)
  (gSeq (gSet 2 (gOp2 fIx (gTup (gCons (gC (.int 20)) (gCons (gOp2 (fIntC CPow fun i j => i ^ j.toNat) (gC (.int 10)) (gC (.int 6))) (gCons (gOp2 (fIntC CPow fun i j => i ^ j.toNat) (gC (.int 10)) (gC (.int 12))) (gCons (gOp2 (fIntC CPow fun i j => i ^ j.toNat) (gC (.int 10)) (gC (.int 60))) gNil))))) (gOp2 iSub (gVar 1) (gC (.int 3)))))
  (gRet (gFn 2 m__law_frac (gCons (gOp2 fAdd (gC (.int 1)) (gFn 2 m__law_take (gCons (gVar 0) (gCons (gVar 2) gNil)))) (gCons (gOp2 fAdd (gC (.int 1)) (gFn 2 m__law_take (gCons (gVar 0) (gCons (gVar 2) gNil)))) gNil)))))))))
def m__law_drawn : Fn := fnD 3 g__law_drawn
def g__law_ends : GS := (gSeq (gSet 1 (gC (.int 1)))
  (gSeq (gFor (.one 2) (gRangeI fRange1 (gCons (gOp2 iSub (gVar 0) (gC (.int 1))) gNil)) (gSet 1 (gOp2 fMul (gVar 1) (gC (.int 2)))))
  (gRet (gTup (gCons (gOp2 iSub (gC (.int 0)) (gVar 1)) (gCons (gOp2 iSub (gVar 1) (gC (.int 1))) gNil))))))
def m__law_ends : Fn := fnD 3 g__law_ends
def g__law_sum : GS := (gRet (gFn 2 m__law_frac (gCons (gOp2 fAdd (gOp2 fMul (gOp2 fIx (gVar 0) (gC (.int 0))) (gOp2 fIx (gVar 1) (gC (.int 1)))) (gOp2 fMul (gOp2 fIx (gVar 1) (gC (.int 0))) (gOp2 fIx (gVar 0) (gC (.int 1))))) (gCons (gOp2 fMul (gOp2 fIx (gVar 0) (gC (.int 1))) (gOp2 fIx (gVar 1) (gC (.int 1)))) gNil))))
def m__law_sum : Fn := fnD 2 g__law_sum
def g__law_gap : GS := (gSeq (gSet 2 (gFn 2 m__law_sum (gCons (gVar 0) (gCons (gTup (gCons (gOp2 iSub (gC (.int 0)) (gOp2 fIx (gVar 1) (gC (.int 0)))) (gCons (gOp2 fIx (gVar 1) (gC (.int 1))) gNil))) gNil))))
  (gRet (gTup (gCons (gCall fAbs (gCons (gOp2 fIx (gVar 2) (gC (.int 0))) gNil)) (gCons (gOp2 fIx (gVar 2) (gC (.int 1))) gNil)))))
def m__law_gap : Fn := fnD 3 g__law_gap
def g__law_int : GS := (gRet (gAndV (gIsi "int" (gVar 0)) (gNotV (gIsi "bool" (gVar 0)))))
def m__law_int : Fn := fnD 1 g__law_int
def g__law_means : GS := (gRet (gFn 2 m__law_frac (gCons (gOp2 fMul (gOp2 fIx (gOp2 fIx (gVar 0) (gC (.int 0))) (gC (.int 0))) (gOp2 iSub (gVar 1) (gOp2 fIx (gVar 0) (gC (.int 1))))) (gCons (gOp2 fIx (gOp2 fIx (gVar 0) (gC (.int 0))) (gC (.int 1))) gNil))))
def m__law_means : Fn := fnD 2 g__law_means
def g__law_near : GS := (gRet (gOp2 fDiv (gOp2 fAdd (gOp2 fMul (gC (.int 2)) (gOp2 fIx (gVar 0) (gC (.int 0)))) (gOp2 fIx (gVar 0) (gC (.int 1)))) (gOp2 fMul (gC (.int 2)) (gOp2 fIx (gVar 0) (gC (.int 1))))))
def m__law_near : Fn := fnD 1 g__law_near
def g__law_multiplier : GS := (gSeq (gSet 1 (gC (.int 30)))
  (gSeq (fun δ => gWhile (gAnd (gTB (gOp2 (fB fGt) (gVar 1) (gC (.int 1)))) (gTB (gOp2 (fB fGt) (gFn 1 m__law_near (gCons (gTup (gCons (gOp2 (fIntC CShl fun i j => i * 2 ^ j.toNat) (gOp2 fIx (gVar 0) (gC (.int 0))) (gVar 1)) (gCons (gOp2 fIx (gVar 0) (gC (.int 1))) gNil))) gNil)) (gC (.int 65535))))) (gSet 1 (gOp2 iSub (gVar 1) (gC (.int 1)))) ((fuelAt 1 1) δ) δ)
  (gSeq (gSet 2 (gFn 1 m__law_near (gCons (gTup (gCons (gOp2 (fIntC CShl fun i j => i * 2 ^ j.toNat) (gOp2 fIx (gVar 0) (gC (.int 0))) (gVar 1)) (gCons (gOp2 fIx (gVar 0) (gC (.int 1))) gNil))) gNil)))
  (gRet (gIf (gOr (gTB (gOp2 (fB (fEqB false)) (gVar 2) (gC (.int 0)))) (gTB (gOp2 (fB fGt) (gVar 2) (gC (.int 65535))))) (gC .non) (gTup (gCons (gVar 2) (gCons (gVar 1) gNil))))))))
def m__law_multiplier : Fn := fnD 3 g__law_multiplier
def g__law_over : GS := (gRet (gFn 2 m__law_frac (gCons (gOp2 fMul (gOp2 fIx (gVar 0) (gC (.int 0))) (gOp2 fIx (gVar 1) (gC (.int 1)))) (gCons (gOp2 fMul (gOp2 fIx (gVar 0) (gC (.int 1))) (gOp2 fIx (gVar 1) (gC (.int 0)))) gNil))))
def m__law_over : Fn := fnD 2 g__law_over
def g__law_signed : GS := (gRet (gOp2 iSub (gFn 2 m__law_take (gCons (gVar 0) (gCons (gOp2 fAdd (gOp2 fMul (gC (.int 2)) (gVar 1)) (gC (.int 1))) gNil))) (gVar 1)))
def m__law_signed : Fn := fnD 2 g__law_signed
def g_times : GS := (gRet (gFn 2 m_fraction (gCons (gOp2 fMul (gOp2 fIx (gVar 0) (gC (.int 0))) (gOp2 fIx (gVar 1) (gC (.int 0)))) (gCons (gOp2 fMul (gOp2 fIx (gVar 0) (gC (.int 1))) (gOp2 fIx (gVar 1) (gC (.int 1)))) gNil))))
def m_times : Fn := fnD 2 g_times
def g_multiplier : GS := (gSeq (gFor (.one 1) (gRangeI fRange3 (gCons (gC (.int 30)) (gCons (gC (.int 0)) (gCons (gOp1 fNeg (gC (.int 1))) gNil)))) (gSeq (gSet 2 (gFn 1 m_nearest (gCons (gFn 2 m_times (gCons (gVar 0) (gCons (gTup (gCons (gOp2 (fIntC CShl fun i j => i * 2 ^ j.toNat) (gC (.int 1)) (gVar 1)) (gCons (gC (.int 1)) gNil))) gNil))) gNil)))
  (gIfS (gTB (gOp2 (fB fLe) (gVar 2) (gC (.int 65535)))) (gSeq (gIfS (gTB (gOp2 (fB (fEqB false)) (gVar 2) (gC (.int 0)))) gBk gNext)
  (gRet (gTup (gCons (gVar 2) (gCons (gVar 1) gNil))))) gNext)))
  (gRaise "TableError"))
def m_multiplier : Fn := fnD 3 g_multiplier
def g__law_told : GS := (gSeq (gTry (tabS tc_TensorError) 2 (gSet 1 (gFn 1 m_multiplier (gCons (gVar 0) gNil))) (fun cl => (gRet (gIf (gTru (gIsE 2 (tabS ti_TableError cl))) (gC .non) (gC (.str "other"))))))
  (gRet (gIf (gTB (gOp2 (fB (fIsN false)) (gVar 1) (gC .non))) (gC (.str "None was told")) (gVar 1))))
def m__law_told : Fn := fnD 3 g__law_told
def g_meaning_of : GS := (gRet (gFn 2 m_times (gCons (gOp2 fIx (gVar 0) (gC (.int 0))) (gCons (gTup (gCons (gOp2 iSub (gVar 1) (gOp2 fIx (gVar 0) (gC (.int 1)))) (gCons (gC (.int 1)) gNil))) gNil))))
def m_meaning_of : Fn := fnD 2 g_meaning_of
def g_law : GS := (gSeq (gSet 1 (gFn 1 m__law_begin (gCons (gVar 0) gNil)))
  (gSeq (gFor (.one 2) (gRangeI fRange1 (gCons (gC (.int 4)) gNil)) (gSeq (gSet 3 (gFn 1 m__law_drawn (gCons (gVar 1) gNil)))
  (gSeq (gSet 4 (gFn 1 m__law_told (gCons (gVar 3) gNil)))
  (gSeq (gIfS (gTB (gOp2 (fB (fEqB true)) (gVar 4) (gFn 1 m__law_multiplier (gCons (gVar 3) gNil)))) (gRet (gC (.bl false))) gNext)
  (gIfS (gAnd (gTB (gOp2 (fB (fIsN true)) (gVar 4) (gC .non))) (gOr (gNot (gTru (gIsi "tuple" (gVar 4)))) (gOr (gNot (gTru (gFn 1 m__law_int (gCons (gOp2 fIx (gVar 4) (gC (.int 0))) gNil)))) (gNot (gTru (gFn 1 m__law_int (gCons (gOp2 fIx (gVar 4) (gC (.int 1))) gNil))))))) (gRet (gC (.bl false))) gNext)))))
  (gSeq (gSet 5 (gOp2 fAdd (gC (.int 3)) (gFn 2 m__law_take (gCons (gVar 1) (gCons (gC (.int 10)) gNil)))))
  (gSeq (gUnpT [6, 7] (gFn 1 m__law_ends (gCons (gVar 5) gNil)))
  (gSeq (gSet 8 (gTup (gCons (gFn 1 m__law_drawn (gCons (gVar 1) gNil)) (gCons (gOp2 fAdd (gVar 6) (gFn 2 m__law_take (gCons (gVar 1) (gCons (gOp2 fAdd (gOp2 iSub (gVar 7) (gVar 6)) (gC (.int 1))) gNil)))) gNil))))
  (gSeq (gFor (.one 2) (gRangeI fRange1 (gCons (gC (.int 4)) gNil)) (gSeq (gSet 9 (gFn 2 m__law_frac (gCons (gFn 2 m__law_signed (gCons (gVar 1) (gCons (gOp2 fIx (gTup (gCons (gC (.int 9)) (gCons (gOp2 (fIntC CPow fun i j => i ^ j.toNat) (gC (.int 10)) (gC (.int 4))) (gCons (gOp2 (fIntC CPow fun i j => i ^ j.toNat) (gC (.int 10)) (gC (.int 9))) gNil)))) (gFn 2 m__law_take (gCons (gVar 1) (gCons (gC (.int 3)) gNil)))) gNil))) (gCons (gOp2 fAdd (gC (.int 1)) (gFn 2 m__law_take (gCons (gVar 1) (gCons (gC (.int 5)) gNil)))) gNil))))
  (gSeq (gSet 10 (gOp2 fAdd (gFn 1 m__law_near (gCons (gFn 2 m__law_over (gCons (gVar 9) (gCons (gOp2 fIx (gVar 8) (gC (.int 0))) gNil))) gNil)) (gOp2 fIx (gVar 8) (gC (.int 1)))))
  (gSeq (gSet 11 (gFn 3 m__law_coded (gCons (gVar 8) (gCons (gVar 5) (gCons (gVar 9) gNil)))))
  (gSeq (gIfS (gOr (gNot (gTru (gFn 1 m__law_int (gCons (gVar 11) gNil)))) (gTB (gOp2 (fB (fEqB true)) (gVar 11) (gCall fMaxL (gCons (gVar 6) (gCons (gCall fMinL (gCons (gVar 7) (gCons (gVar 10) gNil))) gNil)))))) (gRet (gC (.bl false))) gNext)
  (gSeq (gIfS (gTB (gOp2 (fB (fEqB true)) (gFn 2 m_meaning_of (gCons (gVar 8) (gCons (gVar 11) gNil))) (gFn 2 m__law_means (gCons (gVar 8) (gCons (gVar 11) gNil))))) (gRet (gC (.bl false))) gNext)
  (gIfS (gTB (gOp2 (fB (fEqB false)) (gVar 11) (gVar 10))) (gSeq (gSet 12 (gFn 2 m__law_gap (gCons (gVar 9) (gCons (gFn 2 m__law_means (gCons (gVar 8) (gCons (gVar 11) gNil))) gNil))))
  (gIfS (gTB (gOp2 (fB fGt) (gOp2 fMul (gOp2 fMul (gC (.int 2)) (gOp2 fIx (gVar 12) (gC (.int 0)))) (gOp2 fIx (gOp2 fIx (gVar 8) (gC (.int 0))) (gC (.int 1)))) (gOp2 fMul (gOp2 fIx (gOp2 fIx (gVar 8) (gC (.int 0))) (gC (.int 0))) (gOp2 fIx (gVar 12) (gC (.int 1)))))) (gRet (gC (.bl false))) gNext)) gNext)))))))
  (gRet (gAndV (gOp2 (fB (fIsN false)) (gFn 3 m__law_coded (gCons (gVar 8) (gCons (gC (.int 2)) (gCons (gTup (gCons (gC (.int 1)) (gCons (gC (.int 1)) gNil))) gNil)))) (gC .non)) (gOp2 (fB (fIsN false)) (gFn 3 m__law_coded (gCons (gVar 8) (gCons (gC (.int 13)) (gCons (gTup (gCons (gC (.int 1)) (gCons (gC (.int 1)) gNil))) gNil)))) (gC .non))))))))))
def m_law : Fn := fnD 13 g_law
/-- what the top leaves -/
structure Txt (K : PySem.W.Frag) (mg : Str → Option Value) : Prop where
  b_abs : mg "abs" = none
  b_bool : mg "bool" = none
  b_int : mg "int" = none
  b_isinstance : mg "isinstance" = none
  b_len : mg "len" = none
  b_list : mg "list" = none
  b_max : mg "max" = none
  b_min : mg "min" = none
  b_range : mg "range" = none
  b_tuple : mg "tuple" = none
  d__law_begin : DefT K mg "_law_begin" s__law_begin ["script"]
  d__law_take : DefT K mg "_law_take" s__law_take ["d", "many"]
  d_check_bits : DefT K mg "check_bits" s_check_bits ["bits"]
  d_greatest_code : DefT K mg "greatest_code" s_greatest_code ["bits"]
  d_least_code : DefT K mg "least_code" s_least_code ["bits"]
  d_nearest : DefT K mg "nearest" s_nearest ["a"]
  d_fraction : DefT K mg "fraction" s_fraction ["numerator", "denominator"]
  d_over : DefT K mg "over" s_over ["a", "b"]
  d_code_of : DefT K mg "code_of" s_code_of ["pair", "bits", "x"]
  d__law_coded : DefT K mg "_law_coded" s__law_coded ["pair", "bits", "x"]
  d__law_gcd : DefT K mg "_law_gcd" s__law_gcd ["a", "b"]
  d__law_frac : DefT K mg "_law_frac" s__law_frac ["a", "b"]
  d__law_drawn : DefT K mg "_law_drawn" s__law_drawn ["d"]
  d__law_ends : DefT K mg "_law_ends" s__law_ends ["bits"]
  d__law_sum : DefT K mg "_law_sum" s__law_sum ["a", "b"]
  d__law_gap : DefT K mg "_law_gap" s__law_gap ["a", "b"]
  d__law_int : DefT K mg "_law_int" s__law_int ["actual"]
  d__law_means : DefT K mg "_law_means" s__law_means ["pair", "code"]
  d__law_near : DefT K mg "_law_near" s__law_near ["a"]
  d__law_multiplier : DefT K mg "_law_multiplier" s__law_multiplier ["a"]
  d__law_over : DefT K mg "_law_over" s__law_over ["a", "b"]
  d__law_signed : DefT K mg "_law_signed" s__law_signed ["d", "most"]
  d_times : DefT K mg "times" s_times ["a", "b"]
  d_multiplier : DefT K mg "multiplier" s_multiplier ["a"]
  d__law_told : DefT K mg "_law_told" s__law_told ["a"]
  d_meaning_of : DefT K mg "meaning_of" s_meaning_of ["pair", "code"]
  d_law : DefT K mg "law" s_law ["script"]
  e_RangeError : ErrC K mg "RangeError"
  e_TableError : ErrC K mg "TableError"
  e_ZeroDenominator : ErrC K mg "ZeroDenominator"
  c_TensorError : CatchC K mg "TensorError" (tabS tc_TensorError)
  i_RangeError : IsT K mg "RangeError" (tabS ti_RangeError)
  i_TableError : IsT K mg "TableError" (tabS ti_TableError)
  m_gcd : mg "gcd" = some (.builtin "math.gcd")
  g_FACTOR_LIMIT : GC K mg "FACTOR_LIMIT" (.int 65535)
section
variable {P : Program} {w : World} {K : PySem.W.Frag} {mg : Str → Option Value} {base : Heap}
theorem ok_takeL {f : Addr} {fd : FuncData} (F : Fun K "_law_take" "_law_take" s__law_take f fd) (mL : mg "len" = none) (mA : mg "abs" = none) (mI : mg "int" = none) : FnOk P w K mg base CX0 1 f fd ["d", "many"] spTakeL := by
  refine F.ok sc__law_take (fun vs H Q E h => ?_) (fun cdv A outer s H vs Q E hr h => ?_)
  · obtain ⟨a, s, i, b, z, many, ns, rfl, _⟩ := h
    rfl
  · obtain ⟨a, s, i, b, z, many, ns, rfl, hA, hS, hm, hml, hi, hb, hz, hz2, q⟩ := h
    refine ⟨_, pss_cons (ps_if (PW.pt (pw_and (pt_cmpR op_eq (pe_ix ix_list (pv 0) pe_int (fun _ _ => rfl)) pe_int (nomark _)) (pw_and1 (pt_cmpR op_lt (pe_ix ix_list (pv 0) pe_int (fun _ _ => rfl))
          (pe_callB call_len_seq (by rfl) mL PySem.boot_len (pa_cons (pe_ix ix_list (pv 0) pe_int (fun _ _ => rfl)) pa_nil)) (nomark _)))))
        (pss_cons (ps_asg (pe_callB call_abs (by rfl) mA (by decide +kernel) (pa_cons (pe_callTy call_int1 (by rfl) mI (by decide +kernel) (pa_cons (pe_ix ix_list (pe_ix ix_list (pv 0) pe_int (fun _ _ => rfl)) (pe_ix ix_list (pv 0) pe_int (fun _ _ => rfl)) (fun _ _ => rfl)) pa_nil)) pa_nil)) (pg_sub (pv 0) pe_int set_list))
        (pss_cons (ps_asg (pe_op op_add (pe_ix ix_list (pv 0) pe_int (fun _ _ => rfl)) pe_int) (pg_sub (pv 0) pe_int set_list))
        (pss_one (ps_if (pt_cmpR op_lt (pe_ix ix_list (pv 0) pe_int (fun _ _ => rfl)) (pe_op op_pow pe_int pe_int) (nomark _))
          (pss_cons (ps_set (i := 2) sc__law_take.nd rfl (.inl rfl) (pe_callTy call_int1 (by rfl) mI (by decide +kernel) (pa_cons (pe_ix ix_list (pv 0) pe_int (fun _ _ => rfl)) pa_nil)))
          (pss_cons (ps_asg pe_int (pg_sub (pv 0) pe_int set_list))
          (pss_one (ps_ret (pe_op op_mod (pv 2) (pv 1)))))) pss_nil)))) pss_nil)
      (pss_cons (ps_if (pt_cmpR op_gt (pe_ix ix_list (pv 0) pe_int (fun _ _ => rfl)) pe_int (nomark _))
        (pss_cons (ps_set (i := 3) sc__law_take.nd rfl (.inl rfl) (pe_op op_mod (pe_callTy call_int1 (by rfl) mI (by decide +kernel) (pa_cons (pe_ix ix_list (pv 0) pe_int (fun _ _ => rfl)) pa_nil)) (pv 1)))
        (pss_cons (ps_asg (pe_op op_fdivW (pe_callTy call_int1 (by rfl) mI (by decide +kernel) (pa_cons (pe_ix ix_list (pv 0) pe_int (fun _ _ => rfl)) pa_nil)) (pv 1)) (pg_sub (pv 0) pe_int set_list))
        (pss_one (ps_ret (pv 3))))) pss_nil)
      (pss_cons (ps_asg (pe_op op_mod (pe_callTy call_int1 (by rfl) mI (by decide +kernel) (pa_cons (pe_op op_add (pe_op op_mul (pe_ix ix_list (pv 0) pe_int (fun _ _ => rfl)) pe_int) pe_int) pa_nil)) pe_int) (pg_sub (pv 0) pe_int set_list))
      (pss_one (ps_ret (pe_op op_mod (pe_callTy call_int1 (by rfl) mI (by decide +kernel) (pa_cons (pe_op op_fdiv (pe_ix ix_list (pv 0) pe_int (fun _ _ => rfl)) pe_int) pa_nil)) (pv 1)))))), ?_⟩
    -- the middle: no digit left, the script's next number
    have tailR : ∀ (σ : L2.St) (i b z : Int) (H : Hp), σ[0]? = some (some (.ref a)) → σ[1]? = some (some (.int many)) → H a = some (.lst [.ref s, .int i, .int b, .int z]) → 0 ≤ i → 0 ≤ b → 0 ≤ z → z < 2147483647 → (b = 0 ∨ 0 < b) → σ.length = 4 →
        (∀ r i' b' z' : Int, 0 ≤ r → r < many → 0 ≤ i' → 0 ≤ b' → 0 ≤ z' → z' < 2147483647 → Q (.int r) (upd H a (.lst [.ref s, .int i', .int b', .int z']))) →
        tSeq (tIfS (tTest (tOp (rI0 fun i j => .bl (decide (j < i))) (tOp (rIxL K) (tVar 0) (tC (.int 2))) (tC (.int 0))))
          (tSeq (tAsg (tOp (rI (fun _ j => 0 < j) fun i j => .int (i % j)) (tCB (fun xs H Q => (∃ i, xs = [.int i] ∧ Q (.int i) H) ∨ ∃ k, xs = [.bl k] ∧ Q (.int (if k then 1 else 0)) H) (tCons (tOp (rIxL K) (tVar 0) (tC (.int 2))) tNil)) (tVar 1)) (gName 3))
          (tSeq (tAsg (tOp (rI CDivW fun i j => .int (i / j)) (tCB (fun xs H Q => (∃ i, xs = [.int i] ∧ Q (.int i) H) ∨ ∃ k, xs = [.bl k] ∧ Q (.int (if k then 1 else 0)) H) (tCons (tOp (rIxL K) (tVar 0) (tC (.int 2))) tNil)) (tVar 1)) (gSub (tVar 0) (tC (.int 2)) rSetL))
            (tRet (tVar 3)))) tNext)
        (tSeq (tAsg (tOp (rI (fun _ j => 0 < j) fun i j => .int (i % j)) (tCB (fun xs H Q => (∃ i, xs = [.int i] ∧ Q (.int i) H) ∨ ∃ k, xs = [.bl k] ∧ Q (.int (if k then 1 else 0)) H) (tCons (tOp (rI0 fun i j => .int (i + j)) (tOp (rI CMul fun i j => .int (i * j)) (tOp (rIxL K) (tVar 0) (tC (.int 3))) (tC (.int 48271))) (tC (.int 11))) tNil)) (tC (.int 2147483647))) (gSub (tVar 0) (tC (.int 3)) rSetL))
          (tRet (tOp (rI (fun _ j => 0 < j) fun i j => .int (i % j)) (tCB (fun xs H Q => (∃ i, xs = [.int i] ∧ Q (.int i) H) ∨ ∃ k, xs = [.bl k] ∧ Q (.int (if k then 1 else 0)) H) (tCons (tOp (rI CDiv fun i j => .int (i / j)) (tOp (rIxL K) (tVar 0) (tC (.int 3))) (tC (.int 3))) tNil)) (tVar 1)))) { nx := fun _ H' => Q .non H', rt := Q } σ H := by
      intro σ i b z H h0 h1 hA hi hb hz hz2 hbb hl q
      refine rd_ix h0 hA rfl ⟨b, 0, rfl, rfl, _, rfl, ?_⟩
      rcases hbb with rfl | hb0
      · rw [if_neg (by decide)]
        refine rd_ix h0 hA rfl ⟨z, 48271, rfl, rfl, .inl ⟨by omega, by omega⟩, z * 48271, 11, rfl, rfl, .inl ⟨_, rfl, _, _, rfl, rfl, (by decide : (0 : Int) < 2147483647), ?_⟩⟩
        refine ⟨_, h0, a, _, 3, 3, rfl, rfl, hA, rfl, ?_⟩
        refine rd_ix h0 upd_same rfl ⟨_, 3, rfl, rfl, ⟨by decide, by decide⟩, .inl ⟨_, rfl, _, h1, _, many, rfl, rfl, hm, ?_⟩⟩
        exact q _ _ _ _ (Int.emod_nonneg _ (by omega)) (Int.emod_lt_of_pos _ hm) hi hb (Int.emod_nonneg _ (by decide)) (Int.emod_lt_of_pos _ (by decide))
      · rw [if_pos (decide_eq_true hb0)]
        refine rd_ix h0 hA rfl (.inl ⟨b, rfl, _, h1, _, many, rfl, rfl, hm, ?_⟩)
        have g0 : (σ.set 3 (some (.int (b % many))))[0]? = some (some (.ref a)) := by rw [List.getElem?_set_ne (by decide)]; exact h0
        have g1 : (σ.set 3 (some (.int (b % many))))[1]? = some (some (.int many)) := by rw [List.getElem?_set_ne (by decide)]; exact h1
        refine rd_ix g0 hA rfl (.inl ⟨b, rfl, _, g1, _, many, rfl, rfl, ⟨hm, hml⟩, ?_⟩)
        refine ⟨_, g0, a, _, 2, 2, rfl, rfl, hA, rfl, _, List.getElem?_set_self (by rw [hl]; decide), ?_⟩
        exact q _ _ _ _ (Int.emod_nonneg _ (by omega)) (Int.emod_lt_of_pos _ hm) hi (Int.ediv_nonneg hb (by omega)) hz hz2
    refine rd_ix rfl hA rfl ⟨rfl, _, rfl, ?_⟩
    by_cases hb0 : b = 0
    · subst hb0
      refine iteTT (decide_eq_true rfl) ?_
      refine rd_ix rfl hA rfl (rd_ix rfl hA rfl ⟨s, _, rfl, .inl (SqL.of hS), i, ((ns.map V.int).length : Int), rfl, rfl, _, rfl, ?_⟩)
      by_cases hlt : i < ((ns.map V.int).length : Int)
      · refine iteTT (decide_eq_true hlt) ?_
        have hlen : i.toNat < ns.length := by rw [List.length_map] at hlt; omega
        obtain ⟨m0, hat⟩ : ∃ m0, atI (ns.map V.int) i = some (.int m0) := by
          have e : ((i.toNat : Nat) : Int) = i := by omega
          have h2 : atI (ns.map V.int) (i.toNat : Int) = some (.int ns[i.toNat]) := atI_nat (by
            rw [List.getElem?_map, List.getElem?_eq_getElem (by simpa using hlen)]
            rfl)
          rw [e] at h2
          exact ⟨_, h2⟩
        -- d[2] = abs(int(d[0][d[1]]))
        refine rd_ix rfl hA rfl (rd_ix rfl hA rfl ⟨s, _, i, _, rfl, rfl, SqL.of hS, hat, .inl ⟨_, rfl, _, rfl, ?_⟩⟩)
        have nn : 0 ≤ (if m0 < 0 then -m0 else m0) := by split <;> omega
        generalize (if m0 < 0 then -m0 else m0) = m at nn ⊢
        refine ⟨_, rfl, a, _, 2, 2, rfl, rfl, hA, rfl, ?_⟩
        -- d[1] = d[1] + 1
        refine rd_ix rfl upd_same rfl ⟨i, 1, rfl, rfl, _, rfl, a, _, 1, 1, rfl, rfl, upd_same, rfl, ?_⟩
        rw [upd_upd]
        refine rd_ix rfl upd_same rfl ⟨10, 18, rfl, rfl, ⟨by decide, by decide, by decide⟩, m, 10 ^ 18, rfl, rfl, _, rfl, ?_⟩
        have fin : ∀ r i' b' z' : Int, 0 ≤ r → r < many → 0 ≤ i' → 0 ≤ b' → 0 ≤ z' → z' < 2147483647 → Q (.int r) (upd (upd H a (.lst [.ref s, .int (i + 1), .int m, .int z])) a (.lst [.ref s, .int i', .int b', .int z'])) := fun r i' b' z' h1 h2 h3 h4 h5 h6 => by rw [upd_upd]; exact q r i' b' z' h1 h2 h3 h4 h5 h6
        by_cases hs : m < 10 ^ 18
        · refine iteTT (decide_eq_true hs) ?_
          refine rd_ix rfl upd_same rfl (.inl ⟨m, rfl, ?_⟩)
          refine ⟨_, rfl, a, _, 2, 2, rfl, rfl, upd_same, rfl, ?_⟩
          refine ⟨_, rfl, _, rfl, m, many, rfl, rfl, hm, ?_⟩
          exact fin _ _ _ _ (Int.emod_nonneg _ (by omega)) (Int.emod_lt_of_pos _ hm) (by omega) (by omega) hz hz2
        · refine iteFF (decide_eq_false hs) ?_
          exact tailR _ _ _ _ _ rfl rfl upd_same (by omega) nn hz hz2 (.inr (by omega)) rfl fin
      · refine iteFF (decide_eq_false hlt) ?_
        exact tailR _ _ _ _ _ rfl rfl hA hi hb hz hz2 (.inl rfl) rfl q
    · refine iteFF (decide_eq_false (fun e : V.int b = V.int 0 => hb0 (V.int.inj e))) ?_
      refine iteFF rfl ?_
      exact tailR _ _ _ _ _ rfl rfl hA hi hb hz hz2 (.inr (by omega)) rfl q
theorem ok_begL {f : Addr} {fd : FuncData} (F : Fun K "_law_begin" "_law_begin" s__law_begin f fd) (mI : mg "int" = none) (mL : mg "list" = none) : FnOk P w K mg base CX0 1 f fd ["script"] (spBegL K) := by
  refine F.ok sc__law_begin (fun vs H Q E h => ?_) (fun cdv A outer s H vs Q E hr h => ?_)
  · obtain ⟨p, ns, rfl, _⟩ := h
    rfl
  · obtain ⟨p, ns, rfl, hn, hS, q⟩ := h
    refine ⟨_, pss_cons (ps_set (i := 1) sc__law_begin.nd rfl (.inl rfl) pe_int)
      (pss_cons (ps_for PassesOwn.never rfl (pi_list (pv 0)) (pg_name (i := 2) sc__law_begin.nd rfl (.inl rfl))
        (pss_one (ps_set (i := 1) sc__law_begin.nd rfl (.inl rfl) (pe_op op_mod (pe_op op_add (pe_op op_add (pe_op op_mul (pv 1) pe_int) (pe_op op_mod (pe_callTy call_int1 (by rfl) mI (by decide +kernel) (pa_cons (pv 2) pa_nil)) pe_int)) pe_int) pe_int))))
      (pss_one (ps_ret (pe_lst (pa_cons (pe_callTy call_list_of (by rfl) mL (by decide +kernel) (pa_cons (pv 0) pa_nil)) (pa_cons pe_int (pa_cons pe_int (pa_cons (pv 1) pa_nil)))))))), ?_⟩
    refine ⟨_, rfl, p, rfl, ⟨_, hS⟩, fun i m σ H3 => ∃ (z : Int) (y2 : Option V), σ = [some (.ref p), some (.int z), y2] ∧ 0 ≤ z ∧ z < 2147483647 ∧ H3 = H ∧ i + m = ns.length, ⟨ns.length, 1, none, rfl, by decide, by decide, rfl, by omega⟩, fun i m σ H3 hW => ?_⟩
    obtain ⟨z, y2, rfl, hz, hz2, rfl, em⟩ := hW
    by_cases hi : i < ns.length
    · have g : (ns.map V.int)[i]? = some (.int ns[i]) := by
        rw [List.getElem?_map, List.getElem?_eq_getElem hi]
        rfl
      refine .inr ⟨⟨_, _, hS, g⟩, fun σ' H' => ∃ (z : Int) (y2 : Option V), σ' = [some (.ref p), some (.int z), y2] ∧ 0 ≤ z ∧ z < 2147483647 ∧ H' = H3, fun σ' H' hN => ?_, fun v H' hy => ?_⟩
      · obtain ⟨z, y2, e1, h1, h2, h3⟩ := hN
        exact ⟨m - 1, by omega, z, y2, e1, h1, h2, h3, by omega⟩
      · obtain ⟨rfl, fv⟩ := hy
        have ev : v = .int ns[i] := Option.some.inj ((fv _ hS).symm.trans g)
        subst ev
        refine ⟨_, rfl, ?_⟩
        refine ⟨z, 69621, rfl, rfl, .inl ⟨by omega, by omega⟩, ?_⟩
        refine ⟨_, rfl, .inl ⟨_, rfl, _, 2147483629, rfl, rfl, (by decide : (0 : Int) < 2147483629), _, _, rfl, rfl, _, 7, rfl, rfl, _, 2147483647, rfl, rfl, (by decide : (0 : Int) < 2147483647), ?_⟩⟩
        exact ⟨_, _, rfl, Int.emod_nonneg _ (by decide), Int.emod_lt_of_pos _ (by decide), rfl⟩
    · refine .inl ⟨⟨_, hS, by rw [List.length_map]; omega⟩, ?_⟩
      refine ⟨_, rfl, p, _, rfl, .inl hS, fun s0 ns0 => ⟨_, rfl, by rw [sizeLine_eq]; show 4 ≤ 16777216; decide, fun a na => ?_⟩⟩
      have nas : a ≠ s0 := fun e => by rw [e, upd_same] at na; cases na
      have na0 : H3 a = none := by rw [upd_ne nas] at na; exact na
      refine q a s0 z _ (fun c o e => ?_) na0 ns0 nas upd_same (by rw [upd_ne nas.symm, upd_same]) hz hz2
      rw [upd_ne (fun z => by subst z; rw [na0] at e; cases e), upd_ne (fun z => by subst z; rw [ns0] at e; cases e)]
      exact e
theorem ok__law_begin (T : Txt K mg) : FD P w K mg base 1 "_law_begin" 1 m__law_begin := fd_of T.d__law_begin fun a fd F => begin_hide (ok_begL F T.b_int T.b_list) rfl
theorem ok__law_take (T : Txt K mg) : FD P w K mg base 1 "_law_take" 2 m__law_take := fd_of T.d__law_take fun a fd F => take_hide (ok_takeL F T.b_len T.b_abs T.b_int) rfl
theorem ok_check_bits (T : Txt K mg) : FD P w K mg base 1 "check_bits" 1 m_check_bits := fd_of T.d_check_bits fun a fd F => fn_ok F sc_check_bits fun cdv A outer s H E hr =>
  (dss_one (ds_if (dt_w (dw_or (dt_cmp op_lt og_intB (dv 0) de_int (nomark _)) (dw_or1 (dt_cmp op_gt og_intB (dv 0) de_int (nomark _))))) (dss_one (ds_raise rfl (takes_of rfl rfl rfl rfl) T.e_RangeError)) dss_nil))
theorem ok_greatest_code (T : Txt K mg) : FD P w K mg base 1 "greatest_code" 1 m_greatest_code := fd_of T.d_greatest_code fun a fd F => fn_ok F sc_greatest_code fun cdv A outer s H E hr =>
  (dss_one (ds_ret (de_sub (de_shl de_int (de_sub (dv 0) de_int)) de_int)))
theorem ok_least_code (T : Txt K mg) : FD P w K mg base 1 "least_code" 1 m_least_code := fd_of T.d_least_code fun a fd F => fn_ok F sc_least_code fun cdv A outer s H E hr =>
  (dss_one (ds_ret (de_neg (de_shl de_int (de_sub (dv 0) de_int)))))
theorem ok_nearest (T : Txt K mg) : FD P w K mg base 1 "nearest" 1 m_nearest := fd_of T.d_nearest fun a fd F => fn_ok F sc_nearest fun cdv A outer s H E hr =>
  (dss_one (ds_ret (de_div (de_add (de_mul de_int (de_ix (hu_of hr) (dv 0) de_int)) (de_ix (hu_of hr) (dv 0) de_int)) (de_mul de_int (de_ix (hu_of hr) (dv 0) de_int)))))
theorem ok_fraction (T : Txt K mg) : FD P w K mg base 1 "fraction" 2 m_fraction := fd_of T.d_fraction fun a fd F => fn_ok F sc_fraction fun cdv A outer s H E hr =>
  (dss_cons (ds_if (dt_cmp (op_eqA (hu64 hr)) og_eq (dv 1) de_int (nomark _)) (dss_one (ds_raise rfl (takes_of rfl rfl rfl rfl) T.e_ZeroDenominator)) dss_nil)
  (dss_cons (ds_if (dt_cmp op_lt og_intB (dv 1) de_int (nomark _)) (dss_cons (ds_set (i := 0) sc_fraction.nd rfl (.inl rfl) (de_neg (dv 0)))
  (dss_one (ds_set (i := 1) sc_fraction.nd rfl (.inl rfl) (de_neg (dv 1))))) dss_nil)
  (dss_cons (ds_set (i := 2) sc_fraction.nd rfl (.inl rfl) (de_gcd T.m_gcd (da_cons (dv 0) (da_cons (dv 1) da_nil))))
  (dss_one (ds_ret (de_tup (da_cons (de_div (dv 0) (dv 2)) (da_cons (de_div (dv 1) (dv 2)) da_nil))))))))
theorem ok_over (T : Txt K mg) : FD P w K mg base 2 "over" 2 m_over := fd_of T.d_over fun a fd F => fn_ok F sc_over fun cdv A outer s H E hr =>
  (dss_one (ds_ret (de_call ((ok_fraction T).mono (by decide)) hr (takes_of rfl rfl rfl rfl) (da_cons (de_mul (de_ix (hu_of hr) (dv 0) de_int) (de_ix (hu_of hr) (dv 1) de_int)) (da_cons (de_mul (de_ix (hu_of hr) (dv 0) de_int) (de_ix (hu_of hr) (dv 1) de_int)) da_nil)))))
theorem ok_code_of (T : Txt K mg) : FD P w K mg base 3 "code_of" 3 m_code_of := fd_of T.d_code_of fun a fd F => fn_ok F sc_code_of fun cdv A outer s H E hr =>
  (dss_cons (ds_expr (de_call ((ok_check_bits T).mono (by decide)) hr (takes_of rfl rfl rfl rfl) (da_cons (dv 1) da_nil)))
  (dss_cons (ds_set (i := 3) sc_code_of.nd rfl (.inl rfl) (de_add (de_call ((ok_nearest T).mono (by decide)) hr (takes_of rfl rfl rfl rfl) (da_cons (de_call ((ok_over T).mono (by decide)) hr (takes_of rfl rfl rfl rfl) (da_cons (dv 2) (da_cons (de_ix (hu_of hr) (dv 0) de_int) da_nil))) da_nil)) (de_ix (hu_of hr) (dv 0) de_int)))
  (dss_one (ds_ret (de_max rfl T.b_max (da_cons (de_call ((ok_least_code T).mono (by decide)) hr (takes_of rfl rfl rfl rfl) (da_cons (dv 1) da_nil)) (da_cons (de_min rfl T.b_min (da_cons (de_call ((ok_greatest_code T).mono (by decide)) hr (takes_of rfl rfl rfl rfl) (da_cons (dv 1) da_nil)) (da_cons (dv 3) da_nil))) da_nil)))))))
theorem ok__law_coded (T : Txt K mg) : FD P w K mg base 4 "_law_coded" 3 m__law_coded := fd_of T.d__law_coded fun a fd F => fn_ok F sc__law_coded fun cdv A outer s H E hr =>
  (dss_cons (ds_tryC (i := 4) T.c_TensorError rfl rfl rfl sc__law_coded.nd (takes_of rfl rfl rfl rfl) (fun _ _ _ tk hp => (dss_one (ds_set (i := 3) sc__law_coded.nd rfl (.inl rfl) (de_call ((ok_code_of T).mono (by decide)) hr tk (da_cons (dv 0) (da_cons (dv 1) (da_cons (dv 2) da_nil))))))) (fun cl C a oe pn hcl hz hf => (dss_one (ds_ret (de_if (dt_tru (de_isE T.i_RangeError hcl hz hf T.b_isinstance (by rfl) (.inl rfl))) de_non de_str)))))
  (dss_one (ds_ret (de_if (dt_cmp op_isN og_isN (dv 3) de_non (nomark _)) de_str (dv 3)))))
theorem ok__law_gcd (T : Txt K mg) : FD P w K mg base 1 "_law_gcd" 2 m__law_gcd := fd_of T.d__law_gcd fun a fd F => fn_ok F sc__law_gcd fun cdv A outer s H E hr =>
  (dss_cons (ds_while (fuel := fuelAt 1 1) (passes_of rfl) (dt_cmp (op_neA (hu64 hr)) og_ne (dv 1) de_int (nomark _)) (dss_one (ds_par (i := 0) (j := 1) rfl sc__law_gcd.nd rfl rfl (by decide) rfl rfl (da_cons (dv 1) (da_cons (de_mod (de_intc T.b_int (da_cons (dv 0) da_nil)) (dv 1)) da_nil)) (by rfl))))
  (dss_one (ds_ret (de_abs T.b_abs (da_cons (dv 0) da_nil)))))
theorem ok__law_frac (T : Txt K mg) : FD P w K mg base 2 "_law_frac" 2 m__law_frac := fd_of T.d__law_frac fun a fd F => fn_ok F sc__law_frac fun cdv A outer s H E hr =>
  (dss_cons (ds_if (dt_cmp op_lt og_intB (dv 1) de_int (nomark _)) (dss_cons (ds_set (i := 0) sc__law_frac.nd rfl (.inl rfl) (de_sub de_int (dv 0)))
  (dss_one (ds_set (i := 1) sc__law_frac.nd rfl (.inl rfl) (de_sub de_int (dv 1))))) dss_nil)
  (dss_cons (ds_set (i := 2) sc__law_frac.nd rfl (.inl rfl) (de_call ((ok__law_gcd T).mono (by decide)) hr (takes_of rfl rfl rfl rfl) (da_cons (de_abs T.b_abs (da_cons (dv 0) da_nil)) (da_cons (dv 1) da_nil))))
  (dss_one (ds_ret (de_tup (da_cons (de_div (dv 0) (dv 2)) (da_cons (de_div (dv 1) (dv 2)) da_nil)))))))
theorem ok__law_drawn (T : Txt K mg) : FD P w K mg base 3 "_law_drawn" 1 m__law_drawn := fd_of T.d__law_drawn fun a fd F => fn_ok F sc__law_drawn fun cdv A outer s H E hr =>
  (dss_cons (ds_set (i := 1) sc__law_drawn.nd rfl (.inl rfl) (de_call ((ok__law_take T).mono (by decide)) hr (takes_of rfl rfl rfl rfl) (da_cons (dv 0) (da_cons de_int da_nil))))
  (dss_cons (ds_if (dt_cmp (op_eqA (hu64 hr)) og_eq (dv 1) de_int (nomark _)) (dss_one (ds_ret (de_tup (da_cons (de_shl de_int (de_call ((ok__law_take T).mono (by decide)) hr (takes_of rfl rfl rfl rfl) (da_cons (dv 0) (da_cons de_int da_nil)))) (da_cons de_int da_nil))))) dss_nil)
  (dss_cons (ds_if (dt_cmp (op_eqA (hu64 hr)) og_eq (dv 1) de_int (nomark _)) (dss_one (ds_ret (de_tup (da_cons de_int (da_cons (de_shl de_int (de_call ((ok__law_take T).mono (by decide)) hr (takes_of rfl rfl rfl rfl) (da_cons (dv 0) (da_cons de_int da_nil)))) da_nil))))) dss_nil)
  (dss_cons (ds_if (dt_cmp (op_eqA (hu64 hr)) og_eq (dv 1) de_int (nomark _)) (dss_one (ds_ret (de_call ((ok__law_frac T).mono (by decide)) hr (takes_of rfl rfl rfl rfl) (da_cons (de_add de_int (de_call ((ok__law_take T).mono (by decide)) hr (takes_of rfl rfl rfl rfl) (da_cons (dv 0) (da_cons de_int da_nil)))) (da_cons (de_add de_int (de_call ((ok__law_take T).mono (by decide)) hr (takes_of rfl rfl rfl rfl) (da_cons (dv 0) (da_cons de_int da_nil)))) da_nil))))) dss_nil)
  (dss_cons (ds_set (i := 2) sc__law_drawn.nd rfl (.inl rfl) (de_ix (hu_of hr) (de_tup (da_cons de_int (da_cons (de_pow de_int de_int) (da_cons (de_pow de_int de_int) (da_cons (de_pow de_int de_int) da_nil))))) (de_sub (dv 1) de_int)))
  (dss_one (ds_ret (de_call ((ok__law_frac T).mono (by decide)) hr (takes_of rfl rfl rfl rfl) (da_cons (de_add de_int (de_call ((ok__law_take T).mono (by decide)) hr (takes_of rfl rfl rfl rfl) (da_cons (dv 0) (da_cons (dv 2) da_nil)))) (da_cons (de_add de_int (de_call ((ok__law_take T).mono (by decide)) hr (takes_of rfl rfl rfl rfl) (da_cons (dv 0) (da_cons (dv 2) da_nil)))) da_nil))))))))))
theorem ok__law_ends (T : Txt K mg) : FD P w K mg base 1 "_law_ends" 1 m__law_ends := fd_of T.d__law_ends fun a fd F => fn_ok F sc__law_ends fun cdv A outer s H E hr =>
  (dss_cons (ds_set (i := 1) sc__law_ends.nd rfl (.inl rfl) de_int)
  (dss_cons (ds_for (t := (.one 2)) (passes_of rfl) rfl (di_range1 T.b_range (da_cons (de_sub (dv 0) de_int) da_nil)) (pg_name (i := 2) sc__law_ends.nd rfl (.inl rfl)) (dss_one (ds_set (i := 1) sc__law_ends.nd rfl (.inl rfl) (de_mul (dv 1) de_int))))
  (dss_one (ds_ret (de_tup (da_cons (de_sub de_int (dv 1)) (da_cons (de_sub (dv 1) de_int) da_nil)))))))
theorem ok__law_sum (T : Txt K mg) : FD P w K mg base 3 "_law_sum" 2 m__law_sum := fd_of T.d__law_sum fun a fd F => fn_ok F sc__law_sum fun cdv A outer s H E hr =>
  (dss_one (ds_ret (de_call ((ok__law_frac T).mono (by decide)) hr (takes_of rfl rfl rfl rfl) (da_cons (de_add (de_mul (de_ix (hu_of hr) (dv 0) de_int) (de_ix (hu_of hr) (dv 1) de_int)) (de_mul (de_ix (hu_of hr) (dv 1) de_int) (de_ix (hu_of hr) (dv 0) de_int))) (da_cons (de_mul (de_ix (hu_of hr) (dv 0) de_int) (de_ix (hu_of hr) (dv 1) de_int)) da_nil)))))
theorem ok__law_gap (T : Txt K mg) : FD P w K mg base 4 "_law_gap" 2 m__law_gap := fd_of T.d__law_gap fun a fd F => fn_ok F sc__law_gap fun cdv A outer s H E hr =>
  (dss_cons (ds_set (i := 2) sc__law_gap.nd rfl (.inl rfl) (de_call ((ok__law_sum T).mono (by decide)) hr (takes_of rfl rfl rfl rfl) (da_cons (dv 0) (da_cons (de_tup (da_cons (de_sub de_int (de_ix (hu_of hr) (dv 1) de_int)) (da_cons (de_ix (hu_of hr) (dv 1) de_int) da_nil))) da_nil))))
  (dss_one (ds_ret (de_tup (da_cons (de_abs T.b_abs (da_cons (de_ix (hu_of hr) (dv 2) de_int) da_nil)) (da_cons (de_ix (hu_of hr) (dv 2) de_int) da_nil))))))
theorem ok__law_int (T : Txt K mg) : FD P w K mg base 1 "_law_int" 1 m__law_int := fd_of T.d__law_int fun a fd F => fn_ok F sc__law_int fun cdv A outer s H E hr =>
  (dss_one (ds_ret (de_and (de_isi T.b_isinstance T.b_int (dv 0) (by decide +kernel) (by decide +kernel)) (de_one (de_not (de_isi T.b_isinstance T.b_bool (dv 0) (by decide +kernel) (by decide +kernel)))))))
theorem ok__law_means (T : Txt K mg) : FD P w K mg base 3 "_law_means" 2 m__law_means := fd_of T.d__law_means fun a fd F => fn_ok F sc__law_means fun cdv A outer s H E hr =>
  (dss_one (ds_ret (de_call ((ok__law_frac T).mono (by decide)) hr (takes_of rfl rfl rfl rfl) (da_cons (de_mul (de_ix (hu_of hr) (de_ix (hu_of hr) (dv 0) de_int) de_int) (de_sub (dv 1) (de_ix (hu_of hr) (dv 0) de_int))) (da_cons (de_ix (hu_of hr) (de_ix (hu_of hr) (dv 0) de_int) de_int) da_nil)))))
theorem ok__law_near (T : Txt K mg) : FD P w K mg base 1 "_law_near" 1 m__law_near := fd_of T.d__law_near fun a fd F => fn_ok F sc__law_near fun cdv A outer s H E hr =>
  (dss_one (ds_ret (de_div (de_add (de_mul de_int (de_ix (hu_of hr) (dv 0) de_int)) (de_ix (hu_of hr) (dv 0) de_int)) (de_mul de_int (de_ix (hu_of hr) (dv 0) de_int)))))
theorem ok__law_multiplier (T : Txt K mg) : FD P w K mg base 2 "_law_multiplier" 1 m__law_multiplier := fd_of T.d__law_multiplier fun a fd F => fn_ok F sc__law_multiplier fun cdv A outer s H E hr =>
  (dss_cons (ds_set (i := 1) sc__law_multiplier.nd rfl (.inl rfl) de_int)
  (dss_cons (ds_while (fuel := fuelAt 1 1) (passes_of rfl) (dt_w (dw_and (dt_cmp op_gt og_intB (dv 1) de_int (nomark _)) (dw_and1 (dt_cmp op_gt og_intB (de_call ((ok__law_near T).mono (by decide)) hr (takes_of rfl rfl rfl rfl) (da_cons (de_tup (da_cons (de_shl (de_ix (hu_of hr) (dv 0) de_int) (dv 1)) (da_cons (de_ix (hu_of hr) (dv 0) de_int) da_nil))) da_nil)) de_int (nomark _))))) (dss_one (ds_set (i := 1) sc__law_multiplier.nd rfl (.inl rfl) (de_sub (dv 1) de_int))))
  (dss_cons (ds_set (i := 2) sc__law_multiplier.nd rfl (.inl rfl) (de_call ((ok__law_near T).mono (by decide)) hr (takes_of rfl rfl rfl rfl) (da_cons (de_tup (da_cons (de_shl (de_ix (hu_of hr) (dv 0) de_int) (dv 1)) (da_cons (de_ix (hu_of hr) (dv 0) de_int) da_nil))) da_nil)))
  (dss_one (ds_ret (de_if (dt_w (dw_or (dt_cmp (op_eqA (hu64 hr)) og_eq (dv 2) de_int (nomark _)) (dw_or1 (dt_cmp op_gt og_intB (dv 2) de_int (nomark _))))) de_non (de_tup (da_cons (dv 2) (da_cons (dv 1) da_nil)))))))))
theorem ok__law_over (T : Txt K mg) : FD P w K mg base 3 "_law_over" 2 m__law_over := fd_of T.d__law_over fun a fd F => fn_ok F sc__law_over fun cdv A outer s H E hr =>
  (dss_one (ds_ret (de_call ((ok__law_frac T).mono (by decide)) hr (takes_of rfl rfl rfl rfl) (da_cons (de_mul (de_ix (hu_of hr) (dv 0) de_int) (de_ix (hu_of hr) (dv 1) de_int)) (da_cons (de_mul (de_ix (hu_of hr) (dv 0) de_int) (de_ix (hu_of hr) (dv 1) de_int)) da_nil)))))
theorem ok__law_signed (T : Txt K mg) : FD P w K mg base 2 "_law_signed" 2 m__law_signed := fd_of T.d__law_signed fun a fd F => fn_ok F sc__law_signed fun cdv A outer s H E hr =>
  (dss_one (ds_ret (de_sub (de_call ((ok__law_take T).mono (by decide)) hr (takes_of rfl rfl rfl rfl) (da_cons (dv 0) (da_cons (de_add (de_mul de_int (dv 1)) de_int) da_nil))) (dv 1))))
theorem ok_times (T : Txt K mg) : FD P w K mg base 2 "times" 2 m_times := fd_of T.d_times fun a fd F => fn_ok F sc_times fun cdv A outer s H E hr =>
  (dss_one (ds_ret (de_call ((ok_fraction T).mono (by decide)) hr (takes_of rfl rfl rfl rfl) (da_cons (de_mul (de_ix (hu_of hr) (dv 0) de_int) (de_ix (hu_of hr) (dv 1) de_int)) (da_cons (de_mul (de_ix (hu_of hr) (dv 0) de_int) (de_ix (hu_of hr) (dv 1) de_int)) da_nil)))))
theorem ok_multiplier (T : Txt K mg) : FD P w K mg base 3 "multiplier" 1 m_multiplier := fd_of T.d_multiplier fun a fd F => fn_ok F sc_multiplier fun cdv A outer s H E hr =>
  (dss_cons (ds_for (t := (.one 1)) (passes_of rfl) rfl (di_range3 T.b_range (da_cons de_int (da_cons de_int (da_cons (de_neg de_int) da_nil)))) (pg_name (i := 1) sc_multiplier.nd rfl (.inl rfl)) (dss_cons (ds_set (i := 2) sc_multiplier.nd rfl (.inl rfl) (de_call ((ok_nearest T).mono (by decide)) hr (takes_of rfl rfl rfl rfl) (da_cons (de_call ((ok_times T).mono (by decide)) hr (takes_of rfl rfl rfl rfl) (da_cons (dv 0) (da_cons (de_tup (da_cons (de_shl de_int (dv 1)) (da_cons de_int da_nil))) da_nil))) da_nil)))
  (dss_one (ds_if (dt_cmp op_le og_intB (dv 2) (de_glob T.g_FACTOR_LIMIT) (nomark _)) (dss_cons (ds_if (dt_cmp (op_eqA (hu64 hr)) og_eq (dv 2) de_int (nomark _)) (dss_one ds_break) dss_nil)
  (dss_one (ds_ret (de_tup (da_cons (dv 2) (da_cons (dv 1) da_nil)))))) dss_nil))))
  (dss_one (ds_raise rfl (takes_of rfl rfl rfl rfl) T.e_TableError)))
theorem ok__law_told (T : Txt K mg) : FD P w K mg base 4 "_law_told" 1 m__law_told := fd_of T.d__law_told fun a fd F => fn_ok F sc__law_told fun cdv A outer s H E hr =>
  (dss_cons (ds_tryC (i := 2) T.c_TensorError rfl rfl rfl sc__law_told.nd (takes_of rfl rfl rfl rfl) (fun _ _ _ tk hp => (dss_one (ds_set (i := 1) sc__law_told.nd rfl (.inl rfl) (de_call ((ok_multiplier T).mono (by decide)) hr tk (da_cons (dv 0) da_nil))))) (fun cl C a oe pn hcl hz hf => (dss_one (ds_ret (de_if (dt_tru (de_isE T.i_TableError hcl hz hf T.b_isinstance (by rfl) (.inl rfl))) de_non de_str)))))
  (dss_one (ds_ret (de_if (dt_cmp op_isN og_isN (dv 1) de_non (nomark _)) de_str (dv 1)))))
theorem ok_meaning_of (T : Txt K mg) : FD P w K mg base 3 "meaning_of" 2 m_meaning_of := fd_of T.d_meaning_of fun a fd F => fn_ok F sc_meaning_of fun cdv A outer s H E hr =>
  (dss_one (ds_ret (de_call ((ok_times T).mono (by decide)) hr (takes_of rfl rfl rfl rfl) (da_cons (de_ix (hu_of hr) (dv 0) de_int) (da_cons (de_tup (da_cons (de_sub (dv 1) (de_ix (hu_of hr) (dv 0) de_int)) (da_cons de_int da_nil))) da_nil)))))
theorem ok_law (T : Txt K mg) : FD P w K mg base 5 "law" 1 m_law := fd_of T.d_law fun a fd F => fn_ok F sc_law fun cdv A outer s H E hr =>
  (dss_cons (ds_set (i := 1) sc_law.nd rfl (.inl rfl) (de_call ((ok__law_begin T).mono (by decide)) hr (takes_of rfl rfl rfl rfl) (da_cons (dv 0) da_nil)))
  (dss_cons (ds_for (t := (.one 2)) (passes_of rfl) rfl (di_range1 T.b_range (da_cons de_int da_nil)) (pg_name (i := 2) sc_law.nd rfl (.inl rfl)) (dss_cons (ds_set (i := 3) sc_law.nd rfl (.inl rfl) (de_call ((ok__law_drawn T).mono (by decide)) hr (takes_of rfl rfl rfl rfl) (da_cons (dv 1) da_nil)))
  (dss_cons (ds_set (i := 4) sc_law.nd rfl (.inl rfl) (de_call ((ok__law_told T).mono (by decide)) hr (takes_of rfl rfl rfl rfl) (da_cons (dv 3) da_nil)))
  (dss_cons (ds_if (dt_cmp (op_neA (hu64 hr)) og_ne (dv 4) (de_call ((ok__law_multiplier T).mono (by decide)) hr (takes_of rfl rfl rfl rfl) (da_cons (dv 3) da_nil)) (nomark _)) (dss_one (ds_ret de_bl)) dss_nil)
  (dss_one (ds_if (dt_w (dw_and (dt_cmp op_notN og_notN (dv 4) de_non (nomark _)) (dw_and1 (dt_w (dw_or (dt_not (dt_tru (de_isi T.b_isinstance T.b_tuple (dv 4) (by decide +kernel) (by decide +kernel)))) (dw_or (dt_not (dt_tru (de_call ((ok__law_int T).mono (by decide)) hr (takes_of rfl rfl rfl rfl) (da_cons (de_ix (hu_of hr) (dv 4) de_int) da_nil)))) (dw_or1 (dt_not (dt_tru (de_call ((ok__law_int T).mono (by decide)) hr (takes_of rfl rfl rfl rfl) (da_cons (de_ix (hu_of hr) (dv 4) de_int) da_nil))))))))))) (dss_one (ds_ret de_bl)) dss_nil))))))
  (dss_cons (ds_set (i := 5) sc_law.nd rfl (.inl rfl) (de_add de_int (de_call ((ok__law_take T).mono (by decide)) hr (takes_of rfl rfl rfl rfl) (da_cons (dv 1) (da_cons de_int da_nil)))))
  (dss_cons (ds_unpT rfl (pgs_cons (pg_name (i := 6) sc_law.nd rfl (.inl rfl)) (pgs_cons (pg_name (i := 7) sc_law.nd rfl (.inl rfl)) pgs_nil)) (de_call ((ok__law_ends T).mono (by decide)) hr (takes_of rfl rfl rfl rfl) (da_cons (dv 5) da_nil)) rfl)
  (dss_cons (ds_set (i := 8) sc_law.nd rfl (.inl rfl) (de_tup (da_cons (de_call ((ok__law_drawn T).mono (by decide)) hr (takes_of rfl rfl rfl rfl) (da_cons (dv 1) da_nil)) (da_cons (de_add (dv 6) (de_call ((ok__law_take T).mono (by decide)) hr (takes_of rfl rfl rfl rfl) (da_cons (dv 1) (da_cons (de_add (de_sub (dv 7) (dv 6)) de_int) da_nil)))) da_nil))))
  (dss_cons (ds_for (t := (.one 2)) (passes_of rfl) rfl (di_range1 T.b_range (da_cons de_int da_nil)) (pg_name (i := 2) sc_law.nd rfl (.inl rfl)) (dss_cons (ds_set (i := 9) sc_law.nd rfl (.inl rfl) (de_call ((ok__law_frac T).mono (by decide)) hr (takes_of rfl rfl rfl rfl) (da_cons (de_call ((ok__law_signed T).mono (by decide)) hr (takes_of rfl rfl rfl rfl) (da_cons (dv 1) (da_cons (de_ix (hu_of hr) (de_tup (da_cons de_int (da_cons (de_pow de_int de_int) (da_cons (de_pow de_int de_int) da_nil)))) (de_call ((ok__law_take T).mono (by decide)) hr (takes_of rfl rfl rfl rfl) (da_cons (dv 1) (da_cons de_int da_nil)))) da_nil))) (da_cons (de_add de_int (de_call ((ok__law_take T).mono (by decide)) hr (takes_of rfl rfl rfl rfl) (da_cons (dv 1) (da_cons de_int da_nil)))) da_nil))))
  (dss_cons (ds_set (i := 10) sc_law.nd rfl (.inl rfl) (de_add (de_call ((ok__law_near T).mono (by decide)) hr (takes_of rfl rfl rfl rfl) (da_cons (de_call ((ok__law_over T).mono (by decide)) hr (takes_of rfl rfl rfl rfl) (da_cons (dv 9) (da_cons (de_ix (hu_of hr) (dv 8) de_int) da_nil))) da_nil)) (de_ix (hu_of hr) (dv 8) de_int)))
  (dss_cons (ds_set (i := 11) sc_law.nd rfl (.inl rfl) (de_call ((ok__law_coded T).mono (by decide)) hr (takes_of rfl rfl rfl rfl) (da_cons (dv 8) (da_cons (dv 5) (da_cons (dv 9) da_nil)))))
  (dss_cons (ds_if (dt_w (dw_or (dt_not (dt_tru (de_call ((ok__law_int T).mono (by decide)) hr (takes_of rfl rfl rfl rfl) (da_cons (dv 11) da_nil)))) (dw_or1 (dt_cmp (op_neA (hu64 hr)) og_ne (dv 11) (de_max rfl T.b_max (da_cons (dv 6) (da_cons (de_min rfl T.b_min (da_cons (dv 7) (da_cons (dv 10) da_nil))) da_nil))) (nomark _))))) (dss_one (ds_ret de_bl)) dss_nil)
  (dss_cons (ds_if (dt_cmp (op_neA (hu64 hr)) og_ne (de_call ((ok_meaning_of T).mono (by decide)) hr (takes_of rfl rfl rfl rfl) (da_cons (dv 8) (da_cons (dv 11) da_nil))) (de_call ((ok__law_means T).mono (by decide)) hr (takes_of rfl rfl rfl rfl) (da_cons (dv 8) (da_cons (dv 11) da_nil))) (nomark _)) (dss_one (ds_ret de_bl)) dss_nil)
  (dss_one (ds_if (dt_cmp (op_eqA (hu64 hr)) og_eq (dv 11) (dv 10) (nomark _)) (dss_cons (ds_set (i := 12) sc_law.nd rfl (.inl rfl) (de_call ((ok__law_gap T).mono (by decide)) hr (takes_of rfl rfl rfl rfl) (da_cons (dv 9) (da_cons (de_call ((ok__law_means T).mono (by decide)) hr (takes_of rfl rfl rfl rfl) (da_cons (dv 8) (da_cons (dv 11) da_nil))) da_nil))))
  (dss_one (ds_if (dt_cmp op_gt og_intB (de_mul (de_mul de_int (de_ix (hu_of hr) (dv 12) de_int)) (de_ix (hu_of hr) (de_ix (hu_of hr) (dv 8) de_int) de_int)) (de_mul (de_ix (hu_of hr) (de_ix (hu_of hr) (dv 8) de_int) de_int) (de_ix (hu_of hr) (dv 12) de_int)) (nomark _)) (dss_one (ds_ret de_bl)) dss_nil))) dss_nil))))))))
  (dss_one (ds_ret (de_and (de_cmp op_isN og_isN (de_call ((ok__law_coded T).mono (by decide)) hr (takes_of rfl rfl rfl rfl) (da_cons (dv 8) (da_cons de_int (da_cons (de_tup (da_cons de_int (da_cons de_int da_nil))) da_nil)))) de_non (nomark _)) (de_one (de_cmp op_isN og_isN (de_call ((ok__law_coded T).mono (by decide)) hr (takes_of rfl rfl rfl rfl) (da_cons (dv 8) (da_cons de_int (da_cons (de_tup (da_cons de_int (da_cons de_int da_nil))) da_nil)))) de_non (nomark _))))))))))))
end
/-! ### what the top has written -/
theorem all_mk {P : Program} {w : World} {K : PySem.W.Frag} {h : Heap} {mg : Str → Option Value} {fa : Addr} (X : K.In h) (G : h.Ns mainGlobals mg) (hfa : mg "law" = some (.ref fa))
    {f__law_begin f__law_take f_check_bits f_greatest_code f_least_code f_nearest f_fraction f_over f_code_of f__law_coded f__law_gcd f__law_frac f__law_drawn f__law_ends f__law_sum f__law_gap f__law_int f__law_means f__law_near f__law_multiplier f__law_over f__law_signed f_times f_multiplier f__law_told f_meaning_of f_law C_RangeError C_TableError C_TensorError C_ZeroDenominator : Addr}
    {od__law_begin an__law_begin : Option Addr} {sl__law_begin : Array (Option Value)} {oc__law_begin kV__law_begin dc__law_begin pm__law_begin cd__law_begin ct__law_begin : Value}
    {od__law_take an__law_take : Option Addr} {sl__law_take : Array (Option Value)} {oc__law_take kV__law_take dc__law_take pm__law_take cd__law_take ct__law_take : Value}
    {od_check_bits an_check_bits : Option Addr} {sl_check_bits : Array (Option Value)} {oc_check_bits kV_check_bits dc_check_bits pm_check_bits cd_check_bits ct_check_bits : Value}
    {od_greatest_code an_greatest_code : Option Addr} {sl_greatest_code : Array (Option Value)} {oc_greatest_code kV_greatest_code dc_greatest_code pm_greatest_code cd_greatest_code ct_greatest_code : Value}
    {od_least_code an_least_code : Option Addr} {sl_least_code : Array (Option Value)} {oc_least_code kV_least_code dc_least_code pm_least_code cd_least_code ct_least_code : Value}
    {od_nearest an_nearest : Option Addr} {sl_nearest : Array (Option Value)} {oc_nearest kV_nearest dc_nearest pm_nearest cd_nearest ct_nearest : Value}
    {od_fraction an_fraction : Option Addr} {sl_fraction : Array (Option Value)} {oc_fraction kV_fraction dc_fraction pm_fraction cd_fraction ct_fraction : Value}
    {od_over an_over : Option Addr} {sl_over : Array (Option Value)} {oc_over kV_over dc_over pm_over cd_over ct_over : Value}
    {od_code_of an_code_of : Option Addr} {sl_code_of : Array (Option Value)} {oc_code_of kV_code_of dc_code_of pm_code_of cd_code_of ct_code_of : Value}
    {od__law_coded an__law_coded : Option Addr} {sl__law_coded : Array (Option Value)} {oc__law_coded kV__law_coded dc__law_coded pm__law_coded cd__law_coded ct__law_coded : Value}
    {od__law_gcd an__law_gcd : Option Addr} {sl__law_gcd : Array (Option Value)} {oc__law_gcd kV__law_gcd dc__law_gcd pm__law_gcd cd__law_gcd ct__law_gcd : Value}
    {od__law_frac an__law_frac : Option Addr} {sl__law_frac : Array (Option Value)} {oc__law_frac kV__law_frac dc__law_frac pm__law_frac cd__law_frac ct__law_frac : Value}
    {od__law_drawn an__law_drawn : Option Addr} {sl__law_drawn : Array (Option Value)} {oc__law_drawn kV__law_drawn dc__law_drawn pm__law_drawn cd__law_drawn ct__law_drawn : Value}
    {od__law_ends an__law_ends : Option Addr} {sl__law_ends : Array (Option Value)} {oc__law_ends kV__law_ends dc__law_ends pm__law_ends cd__law_ends ct__law_ends : Value}
    {od__law_sum an__law_sum : Option Addr} {sl__law_sum : Array (Option Value)} {oc__law_sum kV__law_sum dc__law_sum pm__law_sum cd__law_sum ct__law_sum : Value}
    {od__law_gap an__law_gap : Option Addr} {sl__law_gap : Array (Option Value)} {oc__law_gap kV__law_gap dc__law_gap pm__law_gap cd__law_gap ct__law_gap : Value}
    {od__law_int an__law_int : Option Addr} {sl__law_int : Array (Option Value)} {oc__law_int kV__law_int dc__law_int pm__law_int cd__law_int ct__law_int : Value}
    {od__law_means an__law_means : Option Addr} {sl__law_means : Array (Option Value)} {oc__law_means kV__law_means dc__law_means pm__law_means cd__law_means ct__law_means : Value}
    {od__law_near an__law_near : Option Addr} {sl__law_near : Array (Option Value)} {oc__law_near kV__law_near dc__law_near pm__law_near cd__law_near ct__law_near : Value}
    {od__law_multiplier an__law_multiplier : Option Addr} {sl__law_multiplier : Array (Option Value)} {oc__law_multiplier kV__law_multiplier dc__law_multiplier pm__law_multiplier cd__law_multiplier ct__law_multiplier : Value}
    {od__law_over an__law_over : Option Addr} {sl__law_over : Array (Option Value)} {oc__law_over kV__law_over dc__law_over pm__law_over cd__law_over ct__law_over : Value}
    {od__law_signed an__law_signed : Option Addr} {sl__law_signed : Array (Option Value)} {oc__law_signed kV__law_signed dc__law_signed pm__law_signed cd__law_signed ct__law_signed : Value}
    {od_times an_times : Option Addr} {sl_times : Array (Option Value)} {oc_times kV_times dc_times pm_times cd_times ct_times : Value}
    {od_multiplier an_multiplier : Option Addr} {sl_multiplier : Array (Option Value)} {oc_multiplier kV_multiplier dc_multiplier pm_multiplier cd_multiplier ct_multiplier : Value}
    {od__law_told an__law_told : Option Addr} {sl__law_told : Array (Option Value)} {oc__law_told kV__law_told dc__law_told pm__law_told cd__law_told ct__law_told : Value}
    {od_meaning_of an_meaning_of : Option Addr} {sl_meaning_of : Array (Option Value)} {oc_meaning_of kV_meaning_of dc_meaning_of pm_meaning_of cd_meaning_of ct_meaning_of : Value}
    {od_law an_law : Option Addr} {sl_law : Array (Option Value)} {oc_law kV_law dc_law pm_law cd_law ct_law : Value}
    {t1 : Tok}
    (a__law_begin : PySem.W.nsIn K mainGlobals "_law_begin" = some (some (.ref f__law_begin)))
    (l__law_begin : K.lookup f__law_begin = some ⟨oc__law_begin, od__law_begin, .func (PySem.W.fnOf "_law_begin" "_law_begin" (defArgs s__law_begin) (defBody s__law_begin) (defScope s__law_begin) .none kV__law_begin dc__law_begin pm__law_begin an__law_begin cd__law_begin ct__law_begin), sl__law_begin⟩)
    (c__law_begin : PySem.W.codeIn K cd__law_begin "_law_begin" = true)
    (k__law_begin : PySem.W.keepIn K (.ref f__law_begin) = true)
    (a__law_take : PySem.W.nsIn K mainGlobals "_law_take" = some (some (.ref f__law_take)))
    (l__law_take : K.lookup f__law_take = some ⟨oc__law_take, od__law_take, .func (PySem.W.fnOf "_law_take" "_law_take" (defArgs s__law_take) (defBody s__law_take) (defScope s__law_take) .none kV__law_take dc__law_take pm__law_take an__law_take cd__law_take ct__law_take), sl__law_take⟩)
    (c__law_take : PySem.W.codeIn K cd__law_take "_law_take" = true)
    (k__law_take : PySem.W.keepIn K (.ref f__law_take) = true)
    (a_check_bits : PySem.W.nsIn K mainGlobals "check_bits" = some (some (.ref f_check_bits)))
    (l_check_bits : K.lookup f_check_bits = some ⟨oc_check_bits, od_check_bits, .func (PySem.W.fnOf "check_bits" "check_bits" (defArgs s_check_bits) (defBody s_check_bits) (defScope s_check_bits) .none kV_check_bits dc_check_bits pm_check_bits an_check_bits cd_check_bits ct_check_bits), sl_check_bits⟩)
    (c_check_bits : PySem.W.codeIn K cd_check_bits "check_bits" = true)
    (k_check_bits : PySem.W.keepIn K (.ref f_check_bits) = true)
    (a_greatest_code : PySem.W.nsIn K mainGlobals "greatest_code" = some (some (.ref f_greatest_code)))
    (l_greatest_code : K.lookup f_greatest_code = some ⟨oc_greatest_code, od_greatest_code, .func (PySem.W.fnOf "greatest_code" "greatest_code" (defArgs s_greatest_code) (defBody s_greatest_code) (defScope s_greatest_code) .none kV_greatest_code dc_greatest_code pm_greatest_code an_greatest_code cd_greatest_code ct_greatest_code), sl_greatest_code⟩)
    (c_greatest_code : PySem.W.codeIn K cd_greatest_code "greatest_code" = true)
    (k_greatest_code : PySem.W.keepIn K (.ref f_greatest_code) = true)
    (a_least_code : PySem.W.nsIn K mainGlobals "least_code" = some (some (.ref f_least_code)))
    (l_least_code : K.lookup f_least_code = some ⟨oc_least_code, od_least_code, .func (PySem.W.fnOf "least_code" "least_code" (defArgs s_least_code) (defBody s_least_code) (defScope s_least_code) .none kV_least_code dc_least_code pm_least_code an_least_code cd_least_code ct_least_code), sl_least_code⟩)
    (c_least_code : PySem.W.codeIn K cd_least_code "least_code" = true)
    (k_least_code : PySem.W.keepIn K (.ref f_least_code) = true)
    (a_nearest : PySem.W.nsIn K mainGlobals "nearest" = some (some (.ref f_nearest)))
    (l_nearest : K.lookup f_nearest = some ⟨oc_nearest, od_nearest, .func (PySem.W.fnOf "nearest" "nearest" (defArgs s_nearest) (defBody s_nearest) (defScope s_nearest) .none kV_nearest dc_nearest pm_nearest an_nearest cd_nearest ct_nearest), sl_nearest⟩)
    (c_nearest : PySem.W.codeIn K cd_nearest "nearest" = true)
    (k_nearest : PySem.W.keepIn K (.ref f_nearest) = true)
    (a_fraction : PySem.W.nsIn K mainGlobals "fraction" = some (some (.ref f_fraction)))
    (l_fraction : K.lookup f_fraction = some ⟨oc_fraction, od_fraction, .func (PySem.W.fnOf "fraction" "fraction" (defArgs s_fraction) (defBody s_fraction) (defScope s_fraction) .none kV_fraction dc_fraction pm_fraction an_fraction cd_fraction ct_fraction), sl_fraction⟩)
    (c_fraction : PySem.W.codeIn K cd_fraction "fraction" = true)
    (k_fraction : PySem.W.keepIn K (.ref f_fraction) = true)
    (a_over : PySem.W.nsIn K mainGlobals "over" = some (some (.ref f_over)))
    (l_over : K.lookup f_over = some ⟨oc_over, od_over, .func (PySem.W.fnOf "over" "over" (defArgs s_over) (defBody s_over) (defScope s_over) .none kV_over dc_over pm_over an_over cd_over ct_over), sl_over⟩)
    (c_over : PySem.W.codeIn K cd_over "over" = true)
    (k_over : PySem.W.keepIn K (.ref f_over) = true)
    (a_code_of : PySem.W.nsIn K mainGlobals "code_of" = some (some (.ref f_code_of)))
    (l_code_of : K.lookup f_code_of = some ⟨oc_code_of, od_code_of, .func (PySem.W.fnOf "code_of" "code_of" (defArgs s_code_of) (defBody s_code_of) (defScope s_code_of) .none kV_code_of dc_code_of pm_code_of an_code_of cd_code_of ct_code_of), sl_code_of⟩)
    (c_code_of : PySem.W.codeIn K cd_code_of "code_of" = true)
    (k_code_of : PySem.W.keepIn K (.ref f_code_of) = true)
    (a__law_coded : PySem.W.nsIn K mainGlobals "_law_coded" = some (some (.ref f__law_coded)))
    (l__law_coded : K.lookup f__law_coded = some ⟨oc__law_coded, od__law_coded, .func (PySem.W.fnOf "_law_coded" "_law_coded" (defArgs s__law_coded) (defBody s__law_coded) (defScope s__law_coded) .none kV__law_coded dc__law_coded pm__law_coded an__law_coded cd__law_coded ct__law_coded), sl__law_coded⟩)
    (c__law_coded : PySem.W.codeIn K cd__law_coded "_law_coded" = true)
    (k__law_coded : PySem.W.keepIn K (.ref f__law_coded) = true)
    (a__law_gcd : PySem.W.nsIn K mainGlobals "_law_gcd" = some (some (.ref f__law_gcd)))
    (l__law_gcd : K.lookup f__law_gcd = some ⟨oc__law_gcd, od__law_gcd, .func (PySem.W.fnOf "_law_gcd" "_law_gcd" (defArgs s__law_gcd) (defBody s__law_gcd) (defScope s__law_gcd) .none kV__law_gcd dc__law_gcd pm__law_gcd an__law_gcd cd__law_gcd ct__law_gcd), sl__law_gcd⟩)
    (c__law_gcd : PySem.W.codeIn K cd__law_gcd "_law_gcd" = true)
    (k__law_gcd : PySem.W.keepIn K (.ref f__law_gcd) = true)
    (a__law_frac : PySem.W.nsIn K mainGlobals "_law_frac" = some (some (.ref f__law_frac)))
    (l__law_frac : K.lookup f__law_frac = some ⟨oc__law_frac, od__law_frac, .func (PySem.W.fnOf "_law_frac" "_law_frac" (defArgs s__law_frac) (defBody s__law_frac) (defScope s__law_frac) .none kV__law_frac dc__law_frac pm__law_frac an__law_frac cd__law_frac ct__law_frac), sl__law_frac⟩)
    (c__law_frac : PySem.W.codeIn K cd__law_frac "_law_frac" = true)
    (k__law_frac : PySem.W.keepIn K (.ref f__law_frac) = true)
    (a__law_drawn : PySem.W.nsIn K mainGlobals "_law_drawn" = some (some (.ref f__law_drawn)))
    (l__law_drawn : K.lookup f__law_drawn = some ⟨oc__law_drawn, od__law_drawn, .func (PySem.W.fnOf "_law_drawn" "_law_drawn" (defArgs s__law_drawn) (defBody s__law_drawn) (defScope s__law_drawn) .none kV__law_drawn dc__law_drawn pm__law_drawn an__law_drawn cd__law_drawn ct__law_drawn), sl__law_drawn⟩)
    (c__law_drawn : PySem.W.codeIn K cd__law_drawn "_law_drawn" = true)
    (k__law_drawn : PySem.W.keepIn K (.ref f__law_drawn) = true)
    (a__law_ends : PySem.W.nsIn K mainGlobals "_law_ends" = some (some (.ref f__law_ends)))
    (l__law_ends : K.lookup f__law_ends = some ⟨oc__law_ends, od__law_ends, .func (PySem.W.fnOf "_law_ends" "_law_ends" (defArgs s__law_ends) (defBody s__law_ends) (defScope s__law_ends) .none kV__law_ends dc__law_ends pm__law_ends an__law_ends cd__law_ends ct__law_ends), sl__law_ends⟩)
    (c__law_ends : PySem.W.codeIn K cd__law_ends "_law_ends" = true)
    (k__law_ends : PySem.W.keepIn K (.ref f__law_ends) = true)
    (a__law_sum : PySem.W.nsIn K mainGlobals "_law_sum" = some (some (.ref f__law_sum)))
    (l__law_sum : K.lookup f__law_sum = some ⟨oc__law_sum, od__law_sum, .func (PySem.W.fnOf "_law_sum" "_law_sum" (defArgs s__law_sum) (defBody s__law_sum) (defScope s__law_sum) .none kV__law_sum dc__law_sum pm__law_sum an__law_sum cd__law_sum ct__law_sum), sl__law_sum⟩)
    (c__law_sum : PySem.W.codeIn K cd__law_sum "_law_sum" = true)
    (k__law_sum : PySem.W.keepIn K (.ref f__law_sum) = true)
    (a__law_gap : PySem.W.nsIn K mainGlobals "_law_gap" = some (some (.ref f__law_gap)))
    (l__law_gap : K.lookup f__law_gap = some ⟨oc__law_gap, od__law_gap, .func (PySem.W.fnOf "_law_gap" "_law_gap" (defArgs s__law_gap) (defBody s__law_gap) (defScope s__law_gap) .none kV__law_gap dc__law_gap pm__law_gap an__law_gap cd__law_gap ct__law_gap), sl__law_gap⟩)
    (c__law_gap : PySem.W.codeIn K cd__law_gap "_law_gap" = true)
    (k__law_gap : PySem.W.keepIn K (.ref f__law_gap) = true)
    (a__law_int : PySem.W.nsIn K mainGlobals "_law_int" = some (some (.ref f__law_int)))
    (l__law_int : K.lookup f__law_int = some ⟨oc__law_int, od__law_int, .func (PySem.W.fnOf "_law_int" "_law_int" (defArgs s__law_int) (defBody s__law_int) (defScope s__law_int) .none kV__law_int dc__law_int pm__law_int an__law_int cd__law_int ct__law_int), sl__law_int⟩)
    (c__law_int : PySem.W.codeIn K cd__law_int "_law_int" = true)
    (k__law_int : PySem.W.keepIn K (.ref f__law_int) = true)
    (a__law_means : PySem.W.nsIn K mainGlobals "_law_means" = some (some (.ref f__law_means)))
    (l__law_means : K.lookup f__law_means = some ⟨oc__law_means, od__law_means, .func (PySem.W.fnOf "_law_means" "_law_means" (defArgs s__law_means) (defBody s__law_means) (defScope s__law_means) .none kV__law_means dc__law_means pm__law_means an__law_means cd__law_means ct__law_means), sl__law_means⟩)
    (c__law_means : PySem.W.codeIn K cd__law_means "_law_means" = true)
    (k__law_means : PySem.W.keepIn K (.ref f__law_means) = true)
    (a__law_near : PySem.W.nsIn K mainGlobals "_law_near" = some (some (.ref f__law_near)))
    (l__law_near : K.lookup f__law_near = some ⟨oc__law_near, od__law_near, .func (PySem.W.fnOf "_law_near" "_law_near" (defArgs s__law_near) (defBody s__law_near) (defScope s__law_near) .none kV__law_near dc__law_near pm__law_near an__law_near cd__law_near ct__law_near), sl__law_near⟩)
    (c__law_near : PySem.W.codeIn K cd__law_near "_law_near" = true)
    (k__law_near : PySem.W.keepIn K (.ref f__law_near) = true)
    (a__law_multiplier : PySem.W.nsIn K mainGlobals "_law_multiplier" = some (some (.ref f__law_multiplier)))
    (l__law_multiplier : K.lookup f__law_multiplier = some ⟨oc__law_multiplier, od__law_multiplier, .func (PySem.W.fnOf "_law_multiplier" "_law_multiplier" (defArgs s__law_multiplier) (defBody s__law_multiplier) (defScope s__law_multiplier) .none kV__law_multiplier dc__law_multiplier pm__law_multiplier an__law_multiplier cd__law_multiplier ct__law_multiplier), sl__law_multiplier⟩)
    (c__law_multiplier : PySem.W.codeIn K cd__law_multiplier "_law_multiplier" = true)
    (k__law_multiplier : PySem.W.keepIn K (.ref f__law_multiplier) = true)
    (a__law_over : PySem.W.nsIn K mainGlobals "_law_over" = some (some (.ref f__law_over)))
    (l__law_over : K.lookup f__law_over = some ⟨oc__law_over, od__law_over, .func (PySem.W.fnOf "_law_over" "_law_over" (defArgs s__law_over) (defBody s__law_over) (defScope s__law_over) .none kV__law_over dc__law_over pm__law_over an__law_over cd__law_over ct__law_over), sl__law_over⟩)
    (c__law_over : PySem.W.codeIn K cd__law_over "_law_over" = true)
    (k__law_over : PySem.W.keepIn K (.ref f__law_over) = true)
    (a__law_signed : PySem.W.nsIn K mainGlobals "_law_signed" = some (some (.ref f__law_signed)))
    (l__law_signed : K.lookup f__law_signed = some ⟨oc__law_signed, od__law_signed, .func (PySem.W.fnOf "_law_signed" "_law_signed" (defArgs s__law_signed) (defBody s__law_signed) (defScope s__law_signed) .none kV__law_signed dc__law_signed pm__law_signed an__law_signed cd__law_signed ct__law_signed), sl__law_signed⟩)
    (c__law_signed : PySem.W.codeIn K cd__law_signed "_law_signed" = true)
    (k__law_signed : PySem.W.keepIn K (.ref f__law_signed) = true)
    (a_times : PySem.W.nsIn K mainGlobals "times" = some (some (.ref f_times)))
    (l_times : K.lookup f_times = some ⟨oc_times, od_times, .func (PySem.W.fnOf "times" "times" (defArgs s_times) (defBody s_times) (defScope s_times) .none kV_times dc_times pm_times an_times cd_times ct_times), sl_times⟩)
    (c_times : PySem.W.codeIn K cd_times "times" = true)
    (k_times : PySem.W.keepIn K (.ref f_times) = true)
    (a_multiplier : PySem.W.nsIn K mainGlobals "multiplier" = some (some (.ref f_multiplier)))
    (l_multiplier : K.lookup f_multiplier = some ⟨oc_multiplier, od_multiplier, .func (PySem.W.fnOf "multiplier" "multiplier" (defArgs s_multiplier) (defBody s_multiplier) (defScope s_multiplier) .none kV_multiplier dc_multiplier pm_multiplier an_multiplier cd_multiplier ct_multiplier), sl_multiplier⟩)
    (c_multiplier : PySem.W.codeIn K cd_multiplier "multiplier" = true)
    (k_multiplier : PySem.W.keepIn K (.ref f_multiplier) = true)
    (a__law_told : PySem.W.nsIn K mainGlobals "_law_told" = some (some (.ref f__law_told)))
    (l__law_told : K.lookup f__law_told = some ⟨oc__law_told, od__law_told, .func (PySem.W.fnOf "_law_told" "_law_told" (defArgs s__law_told) (defBody s__law_told) (defScope s__law_told) .none kV__law_told dc__law_told pm__law_told an__law_told cd__law_told ct__law_told), sl__law_told⟩)
    (c__law_told : PySem.W.codeIn K cd__law_told "_law_told" = true)
    (k__law_told : PySem.W.keepIn K (.ref f__law_told) = true)
    (a_meaning_of : PySem.W.nsIn K mainGlobals "meaning_of" = some (some (.ref f_meaning_of)))
    (l_meaning_of : K.lookup f_meaning_of = some ⟨oc_meaning_of, od_meaning_of, .func (PySem.W.fnOf "meaning_of" "meaning_of" (defArgs s_meaning_of) (defBody s_meaning_of) (defScope s_meaning_of) .none kV_meaning_of dc_meaning_of pm_meaning_of an_meaning_of cd_meaning_of ct_meaning_of), sl_meaning_of⟩)
    (c_meaning_of : PySem.W.codeIn K cd_meaning_of "meaning_of" = true)
    (k_meaning_of : PySem.W.keepIn K (.ref f_meaning_of) = true)
    (a_law : PySem.W.nsIn K mainGlobals "law" = some (some (.ref f_law)))
    (l_law : K.lookup f_law = some ⟨oc_law, od_law, .func (PySem.W.fnOf "law" "law" (defArgs s_law) (defBody s_law) (defScope s_law) .none kV_law dc_law pm_law an_law cd_law ct_law), sl_law⟩)
    (c_law : PySem.W.codeIn K cd_law "law" = true)
    (k_law : PySem.W.keepIn K (.ref f_law) = true)
    (z_abs : PySem.W.nsIn K mainGlobals "abs" = some none)
    (z_bool : PySem.W.nsIn K mainGlobals "bool" = some none)
    (z_int : PySem.W.nsIn K mainGlobals "int" = some none)
    (z_isinstance : PySem.W.nsIn K mainGlobals "isinstance" = some none)
    (z_len : PySem.W.nsIn K mainGlobals "len" = some none)
    (z_list : PySem.W.nsIn K mainGlobals "list" = some none)
    (z_max : PySem.W.nsIn K mainGlobals "max" = some none)
    (z_min : PySem.W.nsIn K mainGlobals "min" = some none)
    (z_range : PySem.W.nsIn K mainGlobals "range" = some none)
    (z_tuple : PySem.W.nsIn K mainGlobals "tuple" = some none)
    (ca_RangeError : PySem.W.nsIn K mainGlobals "RangeError" = some (some (.ref C_RangeError)))
    (ce_RangeError : PySem.W.excIn K C_RangeError [.type "ValueError", .type "Exception", .type "BaseException", .type "object"] "ValueError.__new__" = true)
    (ck_RangeError : PySem.W.keepIn K (.ref C_RangeError) = true)
    (cs_RangeError : PySem.W.subIn K (.ref C_RangeError) (.type "BaseException") = some true)
    (ct_RangeError : PySem.W.typeIn K (.ref C_RangeError) = some (.type "type"))
    (cg_RangeError : PySem.W.findIn K (.ref C_RangeError) "__getattribute__" = some (some (.builtin "BaseException.__getattribute__")))
    (ch_RangeError : PySem.W.findIn K (.ref C_RangeError) "__getattr__" = some none)
    (cd_RangeError : PySem.W.hasDictIn K C_RangeError = true)
    (cc_RangeError : PySem.W.findIn K (.ref C_RangeError) "__class__" = some (some (.builtin "object.__class__")))
    (cm_RangeError : PySem.W.mroIn K C_RangeError (.type "object") = some true)
    (ca_TableError : PySem.W.nsIn K mainGlobals "TableError" = some (some (.ref C_TableError)))
    (ce_TableError : PySem.W.excIn K C_TableError [.type "ValueError", .type "Exception", .type "BaseException", .type "object"] "ValueError.__new__" = true)
    (ck_TableError : PySem.W.keepIn K (.ref C_TableError) = true)
    (cs_TableError : PySem.W.subIn K (.ref C_TableError) (.type "BaseException") = some true)
    (ct_TableError : PySem.W.typeIn K (.ref C_TableError) = some (.type "type"))
    (cg_TableError : PySem.W.findIn K (.ref C_TableError) "__getattribute__" = some (some (.builtin "BaseException.__getattribute__")))
    (ch_TableError : PySem.W.findIn K (.ref C_TableError) "__getattr__" = some none)
    (cd_TableError : PySem.W.hasDictIn K C_TableError = true)
    (cc_TableError : PySem.W.findIn K (.ref C_TableError) "__class__" = some (some (.builtin "object.__class__")))
    (cm_TableError : PySem.W.mroIn K C_TableError (.type "object") = some true)
    (ca_TensorError : PySem.W.nsIn K mainGlobals "TensorError" = some (some (.ref C_TensorError)))
    (ce_TensorError : PySem.W.excIn K C_TensorError [.type "ValueError", .type "Exception", .type "BaseException", .type "object"] "ValueError.__new__" = true)
    (ck_TensorError : PySem.W.keepIn K (.ref C_TensorError) = true)
    (cs_TensorError : PySem.W.subIn K (.ref C_TensorError) (.type "BaseException") = some true)
    (ct_TensorError : PySem.W.typeIn K (.ref C_TensorError) = some (.type "type"))
    (cg_TensorError : PySem.W.findIn K (.ref C_TensorError) "__getattribute__" = some (some (.builtin "BaseException.__getattribute__")))
    (ch_TensorError : PySem.W.findIn K (.ref C_TensorError) "__getattr__" = some none)
    (cd_TensorError : PySem.W.hasDictIn K C_TensorError = true)
    (cc_TensorError : PySem.W.findIn K (.ref C_TensorError) "__class__" = some (some (.builtin "object.__class__")))
    (cm_TensorError : PySem.W.mroIn K C_TensorError (.type "object") = some true)
    (ca_ZeroDenominator : PySem.W.nsIn K mainGlobals "ZeroDenominator" = some (some (.ref C_ZeroDenominator)))
    (ce_ZeroDenominator : PySem.W.excIn K C_ZeroDenominator [.type "ValueError", .type "Exception", .type "BaseException", .type "object"] "ValueError.__new__" = true)
    (ck_ZeroDenominator : PySem.W.keepIn K (.ref C_ZeroDenominator) = true)
    (cs_ZeroDenominator : PySem.W.subIn K (.ref C_ZeroDenominator) (.type "BaseException") = some true)
    (ct_ZeroDenominator : PySem.W.typeIn K (.ref C_ZeroDenominator) = some (.type "type"))
    (cg_ZeroDenominator : PySem.W.findIn K (.ref C_ZeroDenominator) "__getattribute__" = some (some (.builtin "BaseException.__getattribute__")))
    (ch_ZeroDenominator : PySem.W.findIn K (.ref C_ZeroDenominator) "__getattr__" = some none)
    (cd_ZeroDenominator : PySem.W.hasDictIn K C_ZeroDenominator = true)
    (cc_ZeroDenominator : PySem.W.findIn K (.ref C_ZeroDenominator) "__class__" = some (some (.builtin "object.__class__")))
    (cm_ZeroDenominator : PySem.W.mroIn K C_ZeroDenominator (.type "object") = some true)
    (o1 : PySem.W.specialIn K (.builtin "object.__class__") "__get__" = some (some (.builtin "getset_descriptor.__get__")))
    (o2 : PySem.W.takesIn K (.builtin "object.__class__") = some true)
    (sb_RangeError_RangeError : PySem.W.subIn K (.ref C_RangeError) (.ref C_RangeError) = some true)
    (sb_TableError_RangeError : PySem.W.subIn K (.ref C_TableError) (.ref C_RangeError) = some false)
    (sb_ZeroDenominator_RangeError : PySem.W.subIn K (.ref C_ZeroDenominator) (.ref C_RangeError) = some false)
    (sb_RangeError_TableError : PySem.W.subIn K (.ref C_RangeError) (.ref C_TableError) = some false)
    (sb_TableError_TableError : PySem.W.subIn K (.ref C_TableError) (.ref C_TableError) = some true)
    (sb_ZeroDenominator_TableError : PySem.W.subIn K (.ref C_ZeroDenominator) (.ref C_TableError) = some false)
    (sb_RangeError_TensorError : PySem.W.subIn K (.ref C_RangeError) (.ref C_TensorError) = some true)
    (sb_TableError_TensorError : PySem.W.subIn K (.ref C_TableError) (.ref C_TensorError) = some true)
    (sb_ZeroDenominator_TensorError : PySem.W.subIn K (.ref C_ZeroDenominator) (.ref C_TensorError) = some true)
    (zm_gcd : PySem.W.nsIn K mainGlobals "gcd" = some (some (.builtin "math.gcd")))
    (ga_FACTOR_LIMIT : PySem.W.nsIn K mainGlobals "FACTOR_LIMIT" = some (some (.int (65535) t1))) :
    ∃ fd : FuncData, (∀ (s : Shared) (v : Value), BindsTo s fd ⟨[v], []⟩ [("script", v)]) ∧ ∀ base : Heap, K.In base → base.Ns mainGlobals mg → FnOk P w K mg base (L2.CX P w) 5 fa fd ["script"] (spD K mg 1 m_law) := by
  have e := hfa.symm.trans (PySem.W.mg_of X G a_law)
  cases e
  have T_RangeError : ClsT K mg "RangeError" C_RangeError := ⟨PySem.W.mg_of X G ca_RangeError, ce_RangeError, ck_RangeError, cs_RangeError, ct_RangeError, cg_RangeError, ch_RangeError, cd_RangeError, cc_RangeError, cm_RangeError⟩
  have T_TableError : ClsT K mg "TableError" C_TableError := ⟨PySem.W.mg_of X G ca_TableError, ce_TableError, ck_TableError, cs_TableError, ct_TableError, cg_TableError, ch_TableError, cd_TableError, cc_TableError, cm_TableError⟩
  have T_TensorError : ClsT K mg "TensorError" C_TensorError := ⟨PySem.W.mg_of X G ca_TensorError, ce_TensorError, ck_TensorError, cs_TensorError, ct_TensorError, cg_TensorError, ch_TensorError, cd_TensorError, cc_TensorError, cm_TensorError⟩
  have T_ZeroDenominator : ClsT K mg "ZeroDenominator" C_ZeroDenominator := ⟨PySem.W.mg_of X G ca_ZeroDenominator, ce_ZeroDenominator, ck_ZeroDenominator, cs_ZeroDenominator, ct_ZeroDenominator, cg_ZeroDenominator, ch_ZeroDenominator, cd_ZeroDenominator, cc_ZeroDenominator, cm_ZeroDenominator⟩
  have O : ObjT K := ⟨o1, o2⟩
  have F__law_begin := fun_mk (st := s__law_begin) l__law_begin c__law_begin k__law_begin
  have B__law_begin := F__law_begin.binds (ps := ["script"]) fun _ _ _ _ _ _ us hl => match us, hl with | [_], _ => rfl
  have F__law_take := fun_mk (st := s__law_take) l__law_take c__law_take k__law_take
  have B__law_take := F__law_take.binds (ps := ["d", "many"]) fun _ _ _ _ _ _ us hl => match us, hl with | [_, _], _ => rfl
  have F_check_bits := fun_mk (st := s_check_bits) l_check_bits c_check_bits k_check_bits
  have B_check_bits := F_check_bits.binds (ps := ["bits"]) fun _ _ _ _ _ _ us hl => match us, hl with | [_], _ => rfl
  have F_greatest_code := fun_mk (st := s_greatest_code) l_greatest_code c_greatest_code k_greatest_code
  have B_greatest_code := F_greatest_code.binds (ps := ["bits"]) fun _ _ _ _ _ _ us hl => match us, hl with | [_], _ => rfl
  have F_least_code := fun_mk (st := s_least_code) l_least_code c_least_code k_least_code
  have B_least_code := F_least_code.binds (ps := ["bits"]) fun _ _ _ _ _ _ us hl => match us, hl with | [_], _ => rfl
  have F_nearest := fun_mk (st := s_nearest) l_nearest c_nearest k_nearest
  have B_nearest := F_nearest.binds (ps := ["a"]) fun _ _ _ _ _ _ us hl => match us, hl with | [_], _ => rfl
  have F_fraction := fun_mk (st := s_fraction) l_fraction c_fraction k_fraction
  have B_fraction := F_fraction.binds (ps := ["numerator", "denominator"]) fun _ _ _ _ _ _ us hl => match us, hl with | [_, _], _ => rfl
  have F_over := fun_mk (st := s_over) l_over c_over k_over
  have B_over := F_over.binds (ps := ["a", "b"]) fun _ _ _ _ _ _ us hl => match us, hl with | [_, _], _ => rfl
  have F_code_of := fun_mk (st := s_code_of) l_code_of c_code_of k_code_of
  have B_code_of := F_code_of.binds (ps := ["pair", "bits", "x"]) fun _ _ _ _ _ _ us hl => match us, hl with | [_, _, _], _ => rfl
  have F__law_coded := fun_mk (st := s__law_coded) l__law_coded c__law_coded k__law_coded
  have B__law_coded := F__law_coded.binds (ps := ["pair", "bits", "x"]) fun _ _ _ _ _ _ us hl => match us, hl with | [_, _, _], _ => rfl
  have F__law_gcd := fun_mk (st := s__law_gcd) l__law_gcd c__law_gcd k__law_gcd
  have B__law_gcd := F__law_gcd.binds (ps := ["a", "b"]) fun _ _ _ _ _ _ us hl => match us, hl with | [_, _], _ => rfl
  have F__law_frac := fun_mk (st := s__law_frac) l__law_frac c__law_frac k__law_frac
  have B__law_frac := F__law_frac.binds (ps := ["a", "b"]) fun _ _ _ _ _ _ us hl => match us, hl with | [_, _], _ => rfl
  have F__law_drawn := fun_mk (st := s__law_drawn) l__law_drawn c__law_drawn k__law_drawn
  have B__law_drawn := F__law_drawn.binds (ps := ["d"]) fun _ _ _ _ _ _ us hl => match us, hl with | [_], _ => rfl
  have F__law_ends := fun_mk (st := s__law_ends) l__law_ends c__law_ends k__law_ends
  have B__law_ends := F__law_ends.binds (ps := ["bits"]) fun _ _ _ _ _ _ us hl => match us, hl with | [_], _ => rfl
  have F__law_sum := fun_mk (st := s__law_sum) l__law_sum c__law_sum k__law_sum
  have B__law_sum := F__law_sum.binds (ps := ["a", "b"]) fun _ _ _ _ _ _ us hl => match us, hl with | [_, _], _ => rfl
  have F__law_gap := fun_mk (st := s__law_gap) l__law_gap c__law_gap k__law_gap
  have B__law_gap := F__law_gap.binds (ps := ["a", "b"]) fun _ _ _ _ _ _ us hl => match us, hl with | [_, _], _ => rfl
  have F__law_int := fun_mk (st := s__law_int) l__law_int c__law_int k__law_int
  have B__law_int := F__law_int.binds (ps := ["actual"]) fun _ _ _ _ _ _ us hl => match us, hl with | [_], _ => rfl
  have F__law_means := fun_mk (st := s__law_means) l__law_means c__law_means k__law_means
  have B__law_means := F__law_means.binds (ps := ["pair", "code"]) fun _ _ _ _ _ _ us hl => match us, hl with | [_, _], _ => rfl
  have F__law_near := fun_mk (st := s__law_near) l__law_near c__law_near k__law_near
  have B__law_near := F__law_near.binds (ps := ["a"]) fun _ _ _ _ _ _ us hl => match us, hl with | [_], _ => rfl
  have F__law_multiplier := fun_mk (st := s__law_multiplier) l__law_multiplier c__law_multiplier k__law_multiplier
  have B__law_multiplier := F__law_multiplier.binds (ps := ["a"]) fun _ _ _ _ _ _ us hl => match us, hl with | [_], _ => rfl
  have F__law_over := fun_mk (st := s__law_over) l__law_over c__law_over k__law_over
  have B__law_over := F__law_over.binds (ps := ["a", "b"]) fun _ _ _ _ _ _ us hl => match us, hl with | [_, _], _ => rfl
  have F__law_signed := fun_mk (st := s__law_signed) l__law_signed c__law_signed k__law_signed
  have B__law_signed := F__law_signed.binds (ps := ["d", "most"]) fun _ _ _ _ _ _ us hl => match us, hl with | [_, _], _ => rfl
  have F_times := fun_mk (st := s_times) l_times c_times k_times
  have B_times := F_times.binds (ps := ["a", "b"]) fun _ _ _ _ _ _ us hl => match us, hl with | [_, _], _ => rfl
  have F_multiplier := fun_mk (st := s_multiplier) l_multiplier c_multiplier k_multiplier
  have B_multiplier := F_multiplier.binds (ps := ["a"]) fun _ _ _ _ _ _ us hl => match us, hl with | [_], _ => rfl
  have F__law_told := fun_mk (st := s__law_told) l__law_told c__law_told k__law_told
  have B__law_told := F__law_told.binds (ps := ["a"]) fun _ _ _ _ _ _ us hl => match us, hl with | [_], _ => rfl
  have F_meaning_of := fun_mk (st := s_meaning_of) l_meaning_of c_meaning_of k_meaning_of
  have B_meaning_of := F_meaning_of.binds (ps := ["pair", "code"]) fun _ _ _ _ _ _ us hl => match us, hl with | [_, _], _ => rfl
  have F_law := fun_mk (st := s_law) l_law c_law k_law
  have B_law := F_law.binds (ps := ["script"]) fun _ _ _ _ _ _ us hl => match us, hl with | [_], _ => rfl
  have T : Txt K mg := { b_abs := PySem.W.mg_none_of X G z_abs, b_bool := PySem.W.mg_none_of X G z_bool, b_int := PySem.W.mg_none_of X G z_int, b_isinstance := PySem.W.mg_none_of X G z_isinstance, b_len := PySem.W.mg_none_of X G z_len, b_list := PySem.W.mg_none_of X G z_list, b_max := PySem.W.mg_none_of X G z_max, b_min := PySem.W.mg_none_of X G z_min, b_range := PySem.W.mg_none_of X G z_range, b_tuple := PySem.W.mg_none_of X G z_tuple, d__law_begin := ⟨_, _, PySem.W.mg_of X G a__law_begin, F__law_begin, B__law_begin⟩, d__law_take := ⟨_, _, PySem.W.mg_of X G a__law_take, F__law_take, B__law_take⟩, d_check_bits := ⟨_, _, PySem.W.mg_of X G a_check_bits, F_check_bits, B_check_bits⟩, d_greatest_code := ⟨_, _, PySem.W.mg_of X G a_greatest_code, F_greatest_code, B_greatest_code⟩, d_least_code := ⟨_, _, PySem.W.mg_of X G a_least_code, F_least_code, B_least_code⟩, d_nearest := ⟨_, _, PySem.W.mg_of X G a_nearest, F_nearest, B_nearest⟩, d_fraction := ⟨_, _, PySem.W.mg_of X G a_fraction, F_fraction, B_fraction⟩, d_over := ⟨_, _, PySem.W.mg_of X G a_over, F_over, B_over⟩, d_code_of := ⟨_, _, PySem.W.mg_of X G a_code_of, F_code_of, B_code_of⟩, d__law_coded := ⟨_, _, PySem.W.mg_of X G a__law_coded, F__law_coded, B__law_coded⟩, d__law_gcd := ⟨_, _, PySem.W.mg_of X G a__law_gcd, F__law_gcd, B__law_gcd⟩, d__law_frac := ⟨_, _, PySem.W.mg_of X G a__law_frac, F__law_frac, B__law_frac⟩, d__law_drawn := ⟨_, _, PySem.W.mg_of X G a__law_drawn, F__law_drawn, B__law_drawn⟩, d__law_ends := ⟨_, _, PySem.W.mg_of X G a__law_ends, F__law_ends, B__law_ends⟩, d__law_sum := ⟨_, _, PySem.W.mg_of X G a__law_sum, F__law_sum, B__law_sum⟩, d__law_gap := ⟨_, _, PySem.W.mg_of X G a__law_gap, F__law_gap, B__law_gap⟩, d__law_int := ⟨_, _, PySem.W.mg_of X G a__law_int, F__law_int, B__law_int⟩, d__law_means := ⟨_, _, PySem.W.mg_of X G a__law_means, F__law_means, B__law_means⟩, d__law_near := ⟨_, _, PySem.W.mg_of X G a__law_near, F__law_near, B__law_near⟩, d__law_multiplier := ⟨_, _, PySem.W.mg_of X G a__law_multiplier, F__law_multiplier, B__law_multiplier⟩, d__law_over := ⟨_, _, PySem.W.mg_of X G a__law_over, F__law_over, B__law_over⟩, d__law_signed := ⟨_, _, PySem.W.mg_of X G a__law_signed, F__law_signed, B__law_signed⟩, d_times := ⟨_, _, PySem.W.mg_of X G a_times, F_times, B_times⟩, d_multiplier := ⟨_, _, PySem.W.mg_of X G a_multiplier, F_multiplier, B_multiplier⟩, d__law_told := ⟨_, _, PySem.W.mg_of X G a__law_told, F__law_told, B__law_told⟩, d_meaning_of := ⟨_, _, PySem.W.mg_of X G a_meaning_of, F_meaning_of, B_meaning_of⟩, d_law := ⟨_, _, PySem.W.mg_of X G a_law, F_law, B_law⟩, e_RangeError := T_RangeError.err, e_TableError := T_TableError.err, e_ZeroDenominator := T_ZeroDenominator.err, c_TensorError := catch_of T_TensorError (.cons T_RangeError sb_RangeError_TensorError (.cons T_TableError sb_TableError_TensorError (.cons T_ZeroDenominator sb_ZeroDenominator_TensorError .nil))), i_RangeError := isT_of T_RangeError O (.cons T_RangeError sb_RangeError_RangeError (.cons T_TableError sb_TableError_RangeError (.cons T_ZeroDenominator sb_ZeroDenominator_RangeError .nil))) (by simp [ti_RangeError]) sb_RangeError_RangeError, i_TableError := isT_of T_TableError O (.cons T_RangeError sb_RangeError_TableError (.cons T_TableError sb_TableError_TableError (.cons T_ZeroDenominator sb_ZeroDenominator_TableError .nil))) (by simp [ti_TableError]) sb_TableError_TableError, m_gcd := PySem.W.mg_of X G zm_gcd, g_FACTOR_LIMIT := gc_of (PySem.W.mg_of X G ga_FACTOR_LIMIT) .int }
  refine ⟨PySem.W.fnOf "law" "law" (defArgs s_law) (defBody s_law) (defScope s_law) .none kV_law dc_law pm_law an_law cd_law ct_law, fun s v => .of_eq rfl, fun base _ _ => ?_⟩
  exact fn_ok F_law sc_law fun cdv A outer s H E hr =>
  (dss_cons (ds_set (i := 1) sc_law.nd rfl (.inl rfl) (de_call ((ok__law_begin T).mono (by decide)) hr (takes_of rfl rfl rfl rfl) (da_cons (dv 0) da_nil)))
  (dss_cons (ds_for (t := (.one 2)) (passes_of rfl) rfl (di_range1 T.b_range (da_cons de_int da_nil)) (pg_name (i := 2) sc_law.nd rfl (.inl rfl)) (dss_cons (ds_set (i := 3) sc_law.nd rfl (.inl rfl) (de_call ((ok__law_drawn T).mono (by decide)) hr (takes_of rfl rfl rfl rfl) (da_cons (dv 1) da_nil)))
  (dss_cons (ds_set (i := 4) sc_law.nd rfl (.inl rfl) (de_call ((ok__law_told T).mono (by decide)) hr (takes_of rfl rfl rfl rfl) (da_cons (dv 3) da_nil)))
  (dss_cons (ds_if (dt_cmp (op_neA (hu64 hr)) og_ne (dv 4) (de_call ((ok__law_multiplier T).mono (by decide)) hr (takes_of rfl rfl rfl rfl) (da_cons (dv 3) da_nil)) (nomark _)) (dss_one (ds_ret de_bl)) dss_nil)
  (dss_one (ds_if (dt_w (dw_and (dt_cmp op_notN og_notN (dv 4) de_non (nomark _)) (dw_and1 (dt_w (dw_or (dt_not (dt_tru (de_isi T.b_isinstance T.b_tuple (dv 4) (by decide +kernel) (by decide +kernel)))) (dw_or (dt_not (dt_tru (de_call ((ok__law_int T).mono (by decide)) hr (takes_of rfl rfl rfl rfl) (da_cons (de_ix (hu_of hr) (dv 4) de_int) da_nil)))) (dw_or1 (dt_not (dt_tru (de_call ((ok__law_int T).mono (by decide)) hr (takes_of rfl rfl rfl rfl) (da_cons (de_ix (hu_of hr) (dv 4) de_int) da_nil))))))))))) (dss_one (ds_ret de_bl)) dss_nil))))))
  (dss_cons (ds_set (i := 5) sc_law.nd rfl (.inl rfl) (de_add de_int (de_call ((ok__law_take T).mono (by decide)) hr (takes_of rfl rfl rfl rfl) (da_cons (dv 1) (da_cons de_int da_nil)))))
  (dss_cons (ds_unpT rfl (pgs_cons (pg_name (i := 6) sc_law.nd rfl (.inl rfl)) (pgs_cons (pg_name (i := 7) sc_law.nd rfl (.inl rfl)) pgs_nil)) (de_call ((ok__law_ends T).mono (by decide)) hr (takes_of rfl rfl rfl rfl) (da_cons (dv 5) da_nil)) rfl)
  (dss_cons (ds_set (i := 8) sc_law.nd rfl (.inl rfl) (de_tup (da_cons (de_call ((ok__law_drawn T).mono (by decide)) hr (takes_of rfl rfl rfl rfl) (da_cons (dv 1) da_nil)) (da_cons (de_add (dv 6) (de_call ((ok__law_take T).mono (by decide)) hr (takes_of rfl rfl rfl rfl) (da_cons (dv 1) (da_cons (de_add (de_sub (dv 7) (dv 6)) de_int) da_nil)))) da_nil))))
  (dss_cons (ds_for (t := (.one 2)) (passes_of rfl) rfl (di_range1 T.b_range (da_cons de_int da_nil)) (pg_name (i := 2) sc_law.nd rfl (.inl rfl)) (dss_cons (ds_set (i := 9) sc_law.nd rfl (.inl rfl) (de_call ((ok__law_frac T).mono (by decide)) hr (takes_of rfl rfl rfl rfl) (da_cons (de_call ((ok__law_signed T).mono (by decide)) hr (takes_of rfl rfl rfl rfl) (da_cons (dv 1) (da_cons (de_ix (hu_of hr) (de_tup (da_cons de_int (da_cons (de_pow de_int de_int) (da_cons (de_pow de_int de_int) da_nil)))) (de_call ((ok__law_take T).mono (by decide)) hr (takes_of rfl rfl rfl rfl) (da_cons (dv 1) (da_cons de_int da_nil)))) da_nil))) (da_cons (de_add de_int (de_call ((ok__law_take T).mono (by decide)) hr (takes_of rfl rfl rfl rfl) (da_cons (dv 1) (da_cons de_int da_nil)))) da_nil))))
  (dss_cons (ds_set (i := 10) sc_law.nd rfl (.inl rfl) (de_add (de_call ((ok__law_near T).mono (by decide)) hr (takes_of rfl rfl rfl rfl) (da_cons (de_call ((ok__law_over T).mono (by decide)) hr (takes_of rfl rfl rfl rfl) (da_cons (dv 9) (da_cons (de_ix (hu_of hr) (dv 8) de_int) da_nil))) da_nil)) (de_ix (hu_of hr) (dv 8) de_int)))
  (dss_cons (ds_set (i := 11) sc_law.nd rfl (.inl rfl) (de_call ((ok__law_coded T).mono (by decide)) hr (takes_of rfl rfl rfl rfl) (da_cons (dv 8) (da_cons (dv 5) (da_cons (dv 9) da_nil)))))
  (dss_cons (ds_if (dt_w (dw_or (dt_not (dt_tru (de_call ((ok__law_int T).mono (by decide)) hr (takes_of rfl rfl rfl rfl) (da_cons (dv 11) da_nil)))) (dw_or1 (dt_cmp (op_neA (hu64 hr)) og_ne (dv 11) (de_max rfl T.b_max (da_cons (dv 6) (da_cons (de_min rfl T.b_min (da_cons (dv 7) (da_cons (dv 10) da_nil))) da_nil))) (nomark _))))) (dss_one (ds_ret de_bl)) dss_nil)
  (dss_cons (ds_if (dt_cmp (op_neA (hu64 hr)) og_ne (de_call ((ok_meaning_of T).mono (by decide)) hr (takes_of rfl rfl rfl rfl) (da_cons (dv 8) (da_cons (dv 11) da_nil))) (de_call ((ok__law_means T).mono (by decide)) hr (takes_of rfl rfl rfl rfl) (da_cons (dv 8) (da_cons (dv 11) da_nil))) (nomark _)) (dss_one (ds_ret de_bl)) dss_nil)
  (dss_one (ds_if (dt_cmp (op_eqA (hu64 hr)) og_eq (dv 11) (dv 10) (nomark _)) (dss_cons (ds_set (i := 12) sc_law.nd rfl (.inl rfl) (de_call ((ok__law_gap T).mono (by decide)) hr (takes_of rfl rfl rfl rfl) (da_cons (dv 9) (da_cons (de_call ((ok__law_means T).mono (by decide)) hr (takes_of rfl rfl rfl rfl) (da_cons (dv 8) (da_cons (dv 11) da_nil))) da_nil))))
  (dss_one (ds_if (dt_cmp op_gt og_intB (de_mul (de_mul de_int (de_ix (hu_of hr) (dv 12) de_int)) (de_ix (hu_of hr) (de_ix (hu_of hr) (dv 8) de_int) de_int)) (de_mul (de_ix (hu_of hr) (de_ix (hu_of hr) (dv 8) de_int) de_int) (de_ix (hu_of hr) (dv 12) de_int)) (nomark _)) (dss_one (ds_ret de_bl)) dss_nil))) dss_nil))))))))
  (dss_one (ds_ret (de_and (de_cmp op_isN og_isN (de_call ((ok__law_coded T).mono (by decide)) hr (takes_of rfl rfl rfl rfl) (da_cons (dv 8) (da_cons de_int (da_cons (de_tup (da_cons de_int (da_cons de_int da_nil))) da_nil)))) de_non (nomark _)) (de_one (de_cmp op_isN og_isN (de_call ((ok__law_coded T).mono (by decide)) hr (takes_of rfl rfl rfl rfl) (da_cons (dv 8) (da_cons de_int (da_cons (de_tup (da_cons de_int (da_cons de_int da_nil))) da_nil)))) de_non (nomark _))))))))))))
end Lw
namespace Lw
open PySem PySem.Spec PyProof.Rows L2 DL
theorem sgn : m__law_signed = signedF := rfl
theorem v_int (n : Int) : m__law_int [.p (.int n)] = .ok (.p (.bl true)) := rfl
def gI (n d : Int) : Int := ((Nat.gcd n.natAbs d.natAbs : Nat) : Int)
def fN (n d : Int) : Int := (if d < 0 then -n else n) / gI n d
def fD (n d : Int) : Int := (if d < 0 then -d else d) / gI n d
theorem gI_pos {n d : Int} (hd : d ≠ 0) : 0 < gI n d := by
  have := Nat.gcd_pos_of_pos_right n.natAbs (show 0 < d.natAbs by omega)
  show 0 < ((Nat.gcd n.natAbs d.natAbs : Nat) : Int)
  omega
theorem gI_z {k : Nat} {n d : Int} (hd : d ≠ 0) (zd : Z k d) : Z k (gI n d) := ⟨by
  have h1 := Nat.gcd_le_right n.natAbs (show 0 < d.natAbs by omega)
  have h2 := zd.h
  show (((Nat.gcd n.natAbs d.natAbs : Nat) : Int)).natAbs < 2 ^ k
  rw [Int.natAbs_natCast]
  exact Nat.lt_of_le_of_lt h1 h2⟩
theorem v_fraction {n d : Int} (hd : d ≠ 0) (zd : Z 600 d) : m_fraction [.p (.int n), .p (.int d)] = .ok (.p (.tup [.int (fN n d), .int (fD n d)])) := by
  have hg := gI_pos (n := n) hd
  have zg := gI_z (n := n) hd zd
  have cd : ∀ x, CDivW x (gI n d) := fun x => zg.cdiv hg
  unfold m_fraction fnD g_fraction fN fD
  by_cases h : d < 0
  · have e : gI n d = ((Nat.gcd (-n).natAbs (-d).natAbs : Nat) : Int) := by rw [Int.natAbs_neg, Int.natAbs_neg]; rfl
    rw [e] at cd ⊢
    simp only [Int.natAbs_neg] at cd
    simp [startS, DL.gCons, DL.gNil, gC, gVar, gOp1, gOp2, gSet, gFn, gCall, DL.gTup, DL.gLst, gTB, gTru, gIf, gIfS, gOr, gAnd, gNot, gOrV, gAndV, gNotV, gRet, gRetV, gNext, gIsi, gIsE, gExpr, gChain, gRaise, gSeq, gFor, gForL, gSeqI, R.items, gSeqL, R.itemsL, gRevL, gRevI, fLtA, gForV, gSl, gPart, gNoPart, gRangeI, fRange1, fRange2, range_2, range_3, range_4, range_5, gLc, lcL, gYes, wipeS, Rn.noErr, Rn.noErrS, gTry, gTryW, plains, owns, fB, fIntB, fIx, fAdd, iSub, fInt, fIntC, fMul, fNeg, fIsN, fEqB, fTru, fLen, fTuple, fList, fTru, P.scal, P.seq, D.bool?, R.d, lift, Rn.bind, Rn.mapErr, Rn.bind_ite, Rn.mapErr_ite, tryW_ite, atI, ixN, Tg.set, tabS, Fl.map, outEx, S.noExn, m__law_begin, m__law_take, take_ok, D.ty?, tyB, hd, h, fLt, fGcd, fDiv, cd]
  · have e : gI n d = ((Nat.gcd n.natAbs d.natAbs : Nat) : Int) := rfl
    rw [e] at cd ⊢
    simp [startS, DL.gCons, DL.gNil, gC, gVar, gOp1, gOp2, gSet, gFn, gCall, DL.gTup, DL.gLst, gTB, gTru, gIf, gIfS, gOr, gAnd, gNot, gOrV, gAndV, gNotV, gRet, gRetV, gNext, gIsi, gIsE, gExpr, gChain, gRaise, gSeq, gFor, gForL, gSeqI, R.items, gSeqL, R.itemsL, gRevL, gRevI, fLtA, gForV, gSl, gPart, gNoPart, gRangeI, fRange1, fRange2, range_2, range_3, range_4, range_5, gLc, lcL, gYes, wipeS, Rn.noErr, Rn.noErrS, gTry, gTryW, plains, owns, fB, fIntB, fIx, fAdd, iSub, fInt, fIntC, fMul, fNeg, fIsN, fEqB, fTru, fLen, fTuple, fList, fTru, P.scal, P.seq, D.bool?, R.d, lift, Rn.bind, Rn.mapErr, Rn.bind_ite, Rn.mapErr_ite, tryW_ite, atI, ixN, Tg.set, tabS, Fl.map, outEx, S.noExn, m__law_begin, m__law_take, take_ok, D.ty?, tyB, hd, h, fLt, fGcd, fDiv, cd]
theorem v_fraction0 (n : Int) : m_fraction [.p (.int n), .p (.int 0)] = .err "ZeroDenominator" () := rfl
structure Fr (k : Nat) (p q : Int) : Prop where
  pos : 1 ≤ q
  cop : Nat.gcd p.natAbs q.natAbs = 1
  zp : Z k p
  zq : Z k q
theorem fr_ok {k : Nat} {n d : Int} (hd : d ≠ 0) (zn : Z k n) (zd : Z k d) : Fr k (fN n d) (fD n d) ∧ fN n d * d = n * fD n d := by
  have hg := gI_pos (n := n) hd
  obtain ⟨x, hx⟩ : gI n d ∣ n := Int.ofNat_dvd_left.mpr (Nat.gcd_dvd_left _ _)
  obtain ⟨y, hy⟩ : gI n d ∣ d := Int.ofNat_dvd_left.mpr (Nat.gcd_dvd_right _ _)
  have hG : gI n d = ((Nat.gcd n.natAbs d.natAbs : Nat) : Int) := rfl
  have cop : Nat.gcd x.natAbs y.natAbs = 1 := by
    have e1 : n.natAbs = (gI n d).natAbs * x.natAbs := by rw [← Int.natAbs_mul, ← hx]
    have e2 : d.natAbs = (gI n d).natAbs * y.natAbs := by rw [← Int.natAbs_mul, ← hy]
    have e3 : Nat.gcd n.natAbs d.natAbs = (gI n d).natAbs * Nat.gcd x.natAbs y.natAbs := by
      rw [← Nat.gcd_mul_left, ← e1, ← e2]
    have e4 : (gI n d).natAbs = Nat.gcd n.natAbs d.natAbs := by rw [hG, Int.natAbs_natCast]
    rw [← e4] at e3
    have hp : 0 < (gI n d).natAbs := by omega
    exact Nat.eq_of_mul_eq_mul_left hp (by rw [← e3, Nat.mul_one])
  have zN : Z k (fN n d) := by
    unfold fN
    refine Z.div ?_ hg
    split
    · exact zn.neg
    · exact zn
  have zD : Z k (fD n d) := by
    unfold fD
    refine Z.div ?_ hg
    split
    · exact zd.neg
    · exact zd
  have ne : gI n d ≠ 0 := by omega
  have q1 : ∀ z : Int, gI n d * z / gI n d = z := fun z => Int.mul_ediv_cancel_left z ne
  by_cases h : d < 0
  · have eN : fN n d = -x := by
      have e : -n = gI n d * (-x) := by rw [Int.mul_neg, ← hx]
      unfold fN
      rw [if_pos h, e, q1]
    have eD : fD n d = -y := by
      have e : -d = gI n d * (-y) := by rw [Int.mul_neg, ← hy]
      unfold fD
      rw [if_pos h, e, q1]
    have hy0 : y < 0 := by
      refine Int.not_le.mp fun z => ?_
      have := Int.mul_nonneg (Int.le_of_lt hg) z
      omega
    refine ⟨⟨by omega, by rw [eN, eD, Int.natAbs_neg, Int.natAbs_neg]; exact cop, zN, zD⟩, ?_⟩
    rw [eN, eD]
    generalize gI n d = G at hx hy
    rw [hx, hy]
    rw [Int.neg_mul, Int.mul_neg, ← Int.mul_assoc, Int.mul_comm x G]
  · have eN : fN n d = x := by
      unfold fN
      rw [if_neg h, show n / gI n d = gI n d * x / gI n d by rw [← hx], q1]
    have eD : fD n d = y := by
      unfold fD
      rw [if_neg h, show d / gI n d = gI n d * y / gI n d by rw [← hy], q1]
    have hy0 : 0 < y := by
      refine Int.not_le.mp fun z => ?_
      have := Int.mul_nonneg (Int.le_of_lt hg) (show 0 ≤ -y by omega)
      rw [Int.mul_neg] at this
      omega
    refine ⟨⟨by omega, by rw [eN, eD]; exact cop, zN, zD⟩, ?_⟩
    rw [eN, eD]
    generalize gI n d = G at hx hy
    rw [hx, hy]
    simp [Int.mul_comm, Int.mul_left_comm, Int.mul_assoc]

def near (n d : Int) : Int := (2 * n + d) / (2 * d)
theorem near_eq {p q n d : Int} (h : p * d = n * q) (hq : 0 < q) (hd : 0 < d) : near p q = near n d := by
  unfold near
  rw [← Int.mul_ediv_mul_of_pos (2 * p + q) (2 * q) hd, ← Int.mul_ediv_mul_of_pos (2 * n + d) (2 * d) hq]
  have e1 : d * (2 * p + q) = q * (2 * n + d) := by
    have a1 : d * (2 * p) = 2 * (p * d) := by rw [Int.mul_left_comm, Int.mul_comm d p]
    have a2 : q * (2 * n) = 2 * (n * q) := by rw [Int.mul_left_comm, Int.mul_comm q n]
    rw [Int.mul_add, Int.mul_add, a1, a2, h, Int.mul_comm d q]
  have e2 : d * (2 * q) = q * (2 * d) := by rw [Int.mul_left_comm, Int.mul_comm d q, Int.mul_left_comm q 2 d]
  rw [e1, e2]
theorem z2 {k : Nat} {x : Int} (h : Z k x) : Z (k + 2) (2 * x) := by
  have := Z.mul (j := 2) (k := k) (x := 2) ⟨by decide⟩ h
  rwa [Nat.add_comm] at this
theorem c2 {k : Nat} {x : Int} (h : Z k x) (hk : k < 5000) : CMulW 2 x := by
  have h1 := h.log
  have e : (2 : Int).natAbs.log2 = 1 := by decide
  show (2 : Int).natAbs.log2 + x.natAbs.log2 < 1000000
  omega
theorem near_z {k : Nat} {p q : Int} (zp : Z k p) (zq : Z k q) (hq : 0 < q) : Z (k + 3) (near p q) :=
  Z.div ((z2 zp).add (zq.mono (by omega))) (by omega)
theorem v_nearest {k : Nat} {p q : Int} (zp : Z k p) (zq : Z k q) (hq : 0 < q) (hk : k < 4000) : m_nearest [.p (.tup [.int p, .int q])] = .ok (.p (.int (near p q))) := by
  have c1 := c2 zp (by omega)
  have c2' := c2 zq (by omega)
  have d1 : CDivW (2 * p + q) (2 * q) := ⟨by omega, Nat.lt_of_le_of_lt (z2 zq).log (by omega)⟩
  unfold m_nearest fnD g_nearest near
  simp [startS, DL.gCons, DL.gNil, gC, gVar, gOp1, gOp2, gSet, gFn, gCall, DL.gTup, DL.gLst, gTB, gTru, gIf, gIfS, gOr, gAnd, gNot, gOrV, gAndV, gNotV, gRet, gRetV, gNext, gIsi, gIsE, gExpr, gChain, gRaise, gSeq, gFor, gForL, gSeqI, R.items, gSeqL, R.itemsL, gRevL, gRevI, fLtA, gForV, gSl, gPart, gNoPart, gRangeI, fRange1, fRange2, range_2, range_3, range_4, range_5, gLc, lcL, gYes, wipeS, Rn.noErr, Rn.noErrS, gTry, gTryW, plains, owns, fB, fIntB, fIx, fAdd, iSub, fInt, fIntC, fMul, fNeg, fIsN, fEqB, fTru, fLen, fTuple, fList, fTru, P.scal, P.seq, D.bool?, R.d, lift, Rn.bind, Rn.mapErr, Rn.bind_ite, Rn.mapErr_ite, tryW_ite, atI, ixN, Tg.set, tabS, Fl.map, outEx, S.noExn, m__law_begin, m__law_take, take_ok, D.ty?, tyB, fDiv, d1, c1, c2']
theorem same_near : m__law_near = m_nearest := rfl
theorem fr_val {k : Nat} {n d : Int} (hd : 0 < d) (zn : Z k n) (zd : Z k d) : near (fN n d) (fD n d) = near n d := by
  obtain ⟨f, x⟩ := fr_ok (show d ≠ 0 by omega) zn zd
  exact near_eq x (by have := f.pos; omega) hd
theorem v_times {p q u v : Int} (zp : Z 290 p) (zq : Z 290 q) (zu : Z 290 u) (zv : Z 290 v) (hd : q * v ≠ 0) : m_times [.p (.tup [.int p, .int q]), .p (.tup [.int u, .int v])] = .ok (.p (.tup [.int (fN (p * u) (q * v)), .int (fD (p * u) (q * v))])) := by
  have c1 : CMulW p u := zp.cmul zu
  have c3 : CMulW q v := zq.cmul zv
  have vf := v_fraction (n := p * u) hd ((zq.mul zv).mono (by decide))
  unfold m_times fnD g_times
  simp [startS, DL.gCons, DL.gNil, gC, gVar, gOp1, gOp2, gSet, gFn, gCall, DL.gTup, DL.gLst, gTB, gTru, gIf, gIfS, gOr, gAnd, gNot, gOrV, gAndV, gNotV, gRet, gRetV, gNext, gIsi, gIsE, gExpr, gChain, gRaise, gSeq, gFor, gForL, gSeqI, R.items, gSeqL, R.itemsL, gRevL, gRevI, fLtA, gForV, gSl, gPart, gNoPart, gRangeI, fRange1, fRange2, range_2, range_3, range_4, range_5, gLc, lcL, gYes, wipeS, Rn.noErr, Rn.noErrS, gTry, gTryW, plains, owns, fB, fIntB, fIx, fAdd, iSub, fInt, fIntC, fMul, fNeg, fIsN, fEqB, fTru, fLen, fTuple, fList, fTru, P.scal, P.seq, D.bool?, R.d, lift, Rn.bind, Rn.mapErr, Rn.bind_ite, Rn.mapErr_ite, tryW_ite, atI, ixN, Tg.set, tabS, Fl.map, outEx, S.noExn, m__law_begin, m__law_take, take_ok, D.ty?, tyB, c1, c3, vf]
theorem v_over {p q u v : Int} (zp : Z 290 p) (zq : Z 290 q) (zu : Z 290 u) (zv : Z 290 v) (hd : q * u ≠ 0) : m_over [.p (.tup [.int p, .int q]), .p (.tup [.int u, .int v])] = .ok (.p (.tup [.int (fN (p * v) (q * u)), .int (fD (p * v) (q * u))])) := by
  have c1 : CMulW p v := zp.cmul zv
  have c3 : CMulW q u := zq.cmul zu
  have vf := v_fraction (n := p * v) hd ((zq.mul zu).mono (by decide))
  unfold m_over fnD g_over
  simp [startS, DL.gCons, DL.gNil, gC, gVar, gOp1, gOp2, gSet, gFn, gCall, DL.gTup, DL.gLst, gTB, gTru, gIf, gIfS, gOr, gAnd, gNot, gOrV, gAndV, gNotV, gRet, gRetV, gNext, gIsi, gIsE, gExpr, gChain, gRaise, gSeq, gFor, gForL, gSeqI, R.items, gSeqL, R.itemsL, gRevL, gRevI, fLtA, gForV, gSl, gPart, gNoPart, gRangeI, fRange1, fRange2, range_2, range_3, range_4, range_5, gLc, lcL, gYes, wipeS, Rn.noErr, Rn.noErrS, gTry, gTryW, plains, owns, fB, fIntB, fIx, fAdd, iSub, fInt, fIntC, fMul, fNeg, fIsN, fEqB, fTru, fLen, fTuple, fList, fTru, P.scal, P.seq, D.bool?, R.d, lift, Rn.bind, Rn.mapErr, Rn.bind_ite, Rn.mapErr_ite, tryW_ite, atI, ixN, Tg.set, tabS, Fl.map, outEx, S.noExn, m__law_begin, m__law_take, take_ok, D.ty?, tyB, c1, c3, vf]
theorem v_gcd (a b : Nat) : m__law_gcd [.p (.int (a : Int)), .p (.int (b : Int))] = .ok (.p (.int ((Nat.gcd a b : Nat) : Int))) := by
  obtain ⟨t0, t1, i0, w⟩ := euclidN b a b (.bor none (.p (.int (a : Int)))) (.bor none (.p (.int (b : Int)))) [] (.inr rfl) (.inr rfl) (Nat.le_refl _)
  refine fn_eq (seq_eq (δ' := [t0, t1]) w (ret_eq (call_eq (rs := [.own (.p (.int ((Nat.gcd a b : Nat) : Int)))]) ?_ ?_)))
  · rcases i0 with rfl | rfl <;> rfl
  · show Rn.ok _ = _
    rw [if_neg (by omega)]
theorem v_frac {k : Nat} {n d : Int} (hd : 0 < d) (zd : Z k d) (hk : k < 5000) : m__law_frac [.p (.int n), .p (.int d)] = .ok (.p (.tup [.int (fN n d), .int (fD n d)])) := by
  have hg := gI_pos (n := n) (show d ≠ 0 by omega)
  have zg := gI_z (n := n) (show d ≠ 0 by omega) zd
  have cd : ∀ x, CDivW x (gI n d) := fun x => ⟨hg, Nat.lt_of_le_of_lt zg.log (by omega)⟩
  have ab : (if n < 0 then -n else n) = ((n.natAbs : Nat) : Int) := by split <;> omega
  have vg := v_gcd n.natAbs d.natAbs
  have ed : ((d.natAbs : Nat) : Int) = d := by omega
  rw [ed] at vg
  have h : ¬ d < 0 := by omega
  have vg' : m__law_gcd [.p (.int ((n.natAbs : Nat) : Int)), .p (.int d)] = .ok (.p (.int (gI n d))) := vg
  have fa : fAbs [.p (.int n)] = .ok (.own (.p (.int ((n.natAbs : Nat) : Int)))) := by rw [← ab]; rfl
  unfold m__law_frac fnD g__law_frac fN fD
  generalize gI n d = G at *
  simp [startS, DL.gCons, DL.gNil, gC, gVar, gOp1, gOp2, gSet, gFn, gCall, DL.gTup, DL.gLst, gTB, gTru, gIf, gIfS, gOr, gAnd, gNot, gOrV, gAndV, gNotV, gRet, gRetV, gNext, gIsi, gIsE, gExpr, gChain, gRaise, gSeq, gFor, gForL, gSeqI, R.items, gSeqL, R.itemsL, gRevL, gRevI, fLtA, gForV, gSl, gPart, gNoPart, gRangeI, fRange1, fRange2, range_2, range_3, range_4, range_5, gLc, lcL, gYes, wipeS, Rn.noErr, Rn.noErrS, gTry, gTryW, plains, owns, fB, fIntB, fIx, fAdd, iSub, fInt, fIntC, fMul, fNeg, fIsN, fEqB, fTru, fLen, fTuple, fList, fTru, P.scal, P.seq, D.bool?, R.d, lift, Rn.bind, Rn.mapErr, Rn.bind_ite, Rn.mapErr_ite, tryW_ite, atI, ixN, Tg.set, tabS, Fl.map, outEx, S.noExn, m__law_begin, m__law_take, take_ok, D.ty?, tyB, h, fLt, fa, vg', fDiv, cd]
def res (p q : Int) : Nat → Option (Int × Int)
  | 0 => none
  | s + 1 => if near (p * 2 ^ (s + 1)) q ≤ 65535 then (if near (p * 2 ^ (s + 1)) q = 0 then none else some (near (p * 2 ^ (s + 1)) q, ((s + 1 : Nat) : Int))) else res p q s
def outR : Option (Int × Int) → P
  | none => .non
  | some (m, s) => .tup [.int m, .int s]
def downL (s : Nat) : List P := (List.range s).map fun (i : Nat) => P.int ((s : Int) + (i : Int) * (-1))
theorem downL_succ (s : Nat) : downL (s + 1) = .int ((s + 1 : Nat) : Int) :: downL s := by
  unfold downL
  rw [List.range_succ_eq_map, List.map_cons, List.map_map]
  have e0 : P.int (((s + 1 : Nat) : Int) + ((0 : Nat) : Int) * (-1)) = P.int ((s + 1 : Nat) : Int) := by
    congr 1
  rw [e0]
  congr 1
  refine List.map_congr_left fun i _ => ?_
  show P.int (((s + 1 : Nat) : Int) + ((i + 1 : Nat) : Int) * (-1)) = P.int ((s : Int) + (i : Int) * (-1))
  congr 1
  omega
def bodyM : GS := gSeq (gSet 2 (gFn 1 m_nearest (DL.gCons (gFn 2 m_times (DL.gCons (gVar 0) (DL.gCons (DL.gTup (DL.gCons (gOp2 (fIntC CShl fun i j => i * 2 ^ j.toNat) (gC (.int 1)) (gVar 1)) (DL.gCons (gC (.int 1)) DL.gNil))) DL.gNil))) DL.gNil)))
  (gIfS (gTB (gOp2 (fB fLe) (gVar 2) (gC (.int 65535)))) (gSeq (gIfS (gTB (gOp2 (fB (fEqB false)) (gVar 2) (gC (.int 0)))) gBk gNext)
  (gRet (DL.gTup (DL.gCons (gVar 2) (DL.gCons (gVar 1) DL.gNil))))) gNext)
theorem v_bodyM {p q : Int} (zp : Z 210 p) (zq : Z 210 q) (hq : 0 < q) (s : Nat) (hs : s ≤ 30) (s2 : S) : bodyM [.bor none (.p (.tup [.int p, .int q])), .own (.p (.int (s : Int))), s2] =
    if near (p * 2 ^ s) q ≤ 65535 then (if near (p * 2 ^ s) q = 0 then .ok (.bk [.bor none (.p (.tup [.int p, .int q])), .own (.p (.int (s : Int))), .own (.p (.int (near (p * 2 ^ s) q)))]) else .ok (.ret (.p (.tup [.int (near (p * 2 ^ s) q), .int (s : Int)])))) else .ok (.nx [.bor none (.p (.tup [.int p, .int q])), .own (.p (.int (s : Int))), .own (.p (.int (near (p * 2 ^ s) q)))]) := by
  have c : CShl 1 (s : Int) := Z.cshl (k := 1) ⟨by decide⟩ (by omega) (by omega)
  have zu : Z 31 ((2 : Int) ^ s) := Z.pow2 (by omega)
  have hd : q * 1 ≠ 0 := by omega
  have vt := v_times (u := (2 : Int) ^ s) (v := 1) (zp.mono (by decide)) (zq.mono (by decide)) (zu.mono (by decide)) (Z.mono (j := 1) ⟨by decide⟩ (by decide)) hd
  have z1 : Z 245 (p * 2 ^ s) := (zp.mul zu).mono (by decide)
  have z2 : Z 245 (q * 1) := by rw [Int.mul_one]; exact zq.mono (by decide)
  obtain ⟨f, x⟩ := fr_ok hd z1 z2
  have vn := v_nearest f.zp f.zq (by have := f.pos; omega) (by decide)
  rw [fr_val (by omega) z1 z2, Int.mul_one] at vn
  rw [Int.mul_one] at vt
  have sh : (1 : Int) * 2 ^ ((s : Int)).toNat = 2 ^ s := by rw [Int.one_mul]; rfl
  unfold bodyM
  generalize near (p * 2 ^ s) q = M at *
  by_cases h1 : M ≤ 65535
  · by_cases h2 : M = 0
    · simp [startS, DL.gCons, DL.gNil, gC, gVar, gOp1, gOp2, gSet, gFn, gCall, DL.gTup, DL.gLst, gTB, gTru, gIf, gIfS, gOr, gAnd, gNot, gOrV, gAndV, gNotV, gRet, gRetV, gNext, gIsi, gIsE, gExpr, gChain, gRaise, gSeq, gFor, gForL, gSeqI, R.items, gSeqL, R.itemsL, gRevL, gRevI, fLtA, gForV, gSl, gPart, gNoPart, gRangeI, fRange1, fRange2, range_2, range_3, range_4, range_5, gLc, lcL, gYes, wipeS, Rn.noErr, Rn.noErrS, gTry, gTryW, plains, owns, fB, fIntB, fIx, fAdd, iSub, fInt, fIntC, fMul, fNeg, fIsN, fEqB, fTru, fLen, fTuple, fList, fTru, P.scal, P.seq, D.bool?, R.d, lift, Rn.bind, Rn.mapErr, Rn.bind_ite, Rn.mapErr_ite, tryW_ite, atI, ixN, Tg.set, tabS, Fl.map, outEx, S.noExn, m__law_begin, m__law_take, take_ok, D.ty?, tyB, c, sh, vt, vn, h1, h2, fLe, gBk]
    · simp [startS, DL.gCons, DL.gNil, gC, gVar, gOp1, gOp2, gSet, gFn, gCall, DL.gTup, DL.gLst, gTB, gTru, gIf, gIfS, gOr, gAnd, gNot, gOrV, gAndV, gNotV, gRet, gRetV, gNext, gIsi, gIsE, gExpr, gChain, gRaise, gSeq, gFor, gForL, gSeqI, R.items, gSeqL, R.itemsL, gRevL, gRevI, fLtA, gForV, gSl, gPart, gNoPart, gRangeI, fRange1, fRange2, range_2, range_3, range_4, range_5, gLc, lcL, gYes, wipeS, Rn.noErr, Rn.noErrS, gTry, gTryW, plains, owns, fB, fIntB, fIx, fAdd, iSub, fInt, fIntC, fMul, fNeg, fIsN, fEqB, fTru, fLen, fTuple, fList, fTru, P.scal, P.seq, D.bool?, R.d, lift, Rn.bind, Rn.mapErr, Rn.bind_ite, Rn.mapErr_ite, tryW_ite, atI, ixN, Tg.set, tabS, Fl.map, outEx, S.noExn, m__law_begin, m__law_take, take_ok, D.ty?, tyB, c, sh, vt, vn, h1, h2, fLe, gBk]
  · simp [startS, DL.gCons, DL.gNil, gC, gVar, gOp1, gOp2, gSet, gFn, gCall, DL.gTup, DL.gLst, gTB, gTru, gIf, gIfS, gOr, gAnd, gNot, gOrV, gAndV, gNotV, gRet, gRetV, gNext, gIsi, gIsE, gExpr, gChain, gRaise, gSeq, gFor, gForL, gSeqI, R.items, gSeqL, R.itemsL, gRevL, gRevI, fLtA, gForV, gSl, gPart, gNoPart, gRangeI, fRange1, fRange2, range_2, range_3, range_4, range_5, gLc, lcL, gYes, wipeS, Rn.noErr, Rn.noErrS, gTry, gTryW, plains, owns, fB, fIntB, fIx, fAdd, iSub, fInt, fIntC, fMul, fNeg, fIsN, fEqB, fTru, fLen, fTuple, fList, fTru, P.scal, P.seq, D.bool?, R.d, lift, Rn.bind, Rn.mapErr, Rn.bind_ite, Rn.mapErr_ite, tryW_ite, atI, ixN, Tg.set, tabS, Fl.map, outEx, S.noExn, m__law_begin, m__law_take, take_ok, D.ty?, tyB, c, sh, vt, vn, h1, fLe, gBk]
theorem loopM {p q : Int} (zp : Z 210 p) (zq : Z 210 q) (hq : 0 < q) : ∀ (s : Nat) (s1 s2 : S), s ≤ 30 → match res p q s with
    | some (m, t) => gForL (.one 1) bodyM (downL s) [.bor none (.p (.tup [.int p, .int q])), s1, s2] = .ok (.ret (.p (.tup [.int m, .int t])))
    | none => ∃ δ', gForL (.one 1) bodyM (downL s) [.bor none (.p (.tup [.int p, .int q])), s1, s2] = .ok (.nx δ')
  | 0, s1, s2, _ => ⟨_, rfl⟩
  | s + 1, s1, s2, hs => by
    have ih := loopM zp zq hq s (.own (.p (.int ((s + 1 : Nat) : Int)))) (.own (.p (.int (near (p * 2 ^ (s + 1)) q)))) (by omega)
    have vb := v_bodyM zp zq hq (s + 1) hs s2
    rw [downL_succ]
    have un : gForL (.one 1) bodyM (.int ((s + 1 : Nat) : Int) :: downL s) [.bor none (.p (.tup [.int p, .int q])), s1, s2] = (bodyM [.bor none (.p (.tup [.int p, .int q])), .own (.p (.int ((s + 1 : Nat) : Int))), s2]).bind fun
      | .nx δ' => gForL (.one 1) bodyM (downL s) δ'
      | .ct δ' => gForL (.one 1) bodyM (downL s) δ'
      | .bk δ' => .ok (.nx δ')
      | .ret d => .ok (.ret d) := rfl
    rw [un, vb]
    unfold res
    by_cases h1 : near (p * 2 ^ (s + 1)) q ≤ 65535
    · rw [if_pos h1, if_pos h1]
      by_cases h2 : near (p * 2 ^ (s + 1)) q = 0
      · rw [if_pos h2, if_pos h2]
        exact ⟨_, rfl⟩
      · rw [if_neg h2, if_neg h2]
        rfl
    · rw [if_neg h1, if_neg h1]
      exact ih
theorem v_multiplier {p q : Int} (zp : Z 210 p) (zq : Z 210 q) (hq : 0 < q) : m_multiplier [.p (.tup [.int p, .int q])] = match res p q 30 with
    | some (m, t) => .ok (.p (.tup [.int m, .int t]))
    | none => .err "TableError" () := by
  have lp := loopM zp zq hq 30 .no .no (Nat.le_refl _)
  have fr : gFor (.one 1) (gRangeI fRange3 (DL.gCons (gC (.int 30)) (DL.gCons (gC (.int 0)) (DL.gCons (gOp1 fNeg (gC (.int 1))) DL.gNil)))) bodyM [.bor none (.p (.tup [.int p, .int q])), .no, .no] = gForL (.one 1) bodyM (downL 30) [.bor none (.p (.tup [.int p, .int q])), .no, .no] :=
    for_eq (xs := downL 30) rfl rfl
  unfold m_multiplier g_multiplier
  split
  · rename_i m t e
    rw [e] at lp
    exact fn_eq (seq_eqr (fr.trans lp))
  · rename_i e
    rw [e] at lp
    obtain ⟨δ', lp⟩ := lp
    exact fn_eqE (seq_eq (fr.trans lp) rfl)
theorem v_told {p q : Int} (zp : Z 210 p) (zq : Z 210 q) (hq : 0 < q) : m__law_told [.p (.tup [.int p, .int q])] = .ok (.p (outR (res p q 30))) := by
  have v := v_multiplier zp zq hq
  have t1 : tabS tc_TensorError "TableError" = some true := by decide +kernel
  have t2 : tabS ti_TableError "TableError" = some true := by decide +kernel
  unfold m__law_told fnD g__law_told
  generalize res p q 30 = r at v ⊢
  match r, v with
  | none, v => simp [startS, DL.gCons, DL.gNil, gC, gVar, gOp1, gOp2, gSet, gFn, gCall, DL.gTup, DL.gLst, gTB, gTru, gIf, gIfS, gOr, gAnd, gNot, gOrV, gAndV, gNotV, gRet, gRetV, gNext, gIsi, gIsE, gExpr, gChain, gRaise, gSeq, gFor, gForL, gSeqI, R.items, gSeqL, R.itemsL, gRevL, gRevI, fLtA, gForV, gSl, gPart, gNoPart, gRangeI, fRange1, fRange2, range_2, range_3, range_4, range_5, gLc, lcL, gYes, wipeS, Rn.noErr, Rn.noErrS, plains, owns, fB, fIntB, fIx, iSub, fInt, fIntC, fMul, fNeg, fIsN, fEqB, fTru, fLen, fTuple, fList, fTru, P.scal, P.seq, D.bool?, R.d, lift, Rn.bind, Rn.mapErr, Rn.bind_ite, Rn.mapErr_ite, tryW_ite, atI, ixN, Tg.set, Fl.map, outEx, S.noExn, m__law_begin, m__law_take, take_ok, D.ty?, tyB, gTry, v, tryW_err, t1, t2, outR]
  | some (m, t), v => simp [startS, DL.gCons, DL.gNil, gC, gVar, gOp1, gOp2, gSet, gFn, gCall, DL.gTup, DL.gLst, gTB, gTru, gIf, gIfS, gOr, gAnd, gNot, gOrV, gAndV, gNotV, gRet, gRetV, gNext, gIsi, gIsE, gExpr, gChain, gRaise, gSeq, gFor, gForL, gSeqI, R.items, gSeqL, R.itemsL, gRevL, gRevI, fLtA, gForV, gSl, gPart, gNoPart, gRangeI, fRange1, fRange2, range_2, range_3, range_4, range_5, gLc, lcL, gYes, wipeS, Rn.noErr, Rn.noErrS, plains, owns, fB, fIntB, fIx, iSub, fInt, fIntC, fMul, fNeg, fIsN, fEqB, fTru, fLen, fTuple, fList, fTru, P.scal, P.seq, D.bool?, R.d, lift, Rn.bind, Rn.mapErr, Rn.bind_ite, Rn.mapErr_ite, tryW_ite, atI, ixN, Tg.set, Fl.map, outEx, S.noExn, m__law_begin, m__law_take, take_ok, D.ty?, tyB, gTry, v, tryW_ok, outR]

theorem stepL {p q : Int} (zp : Z 210 p) (zq : Z 210 q) (hq : 0 < q) (s : Nat) (hs : s ≤ 30) (s2 : S) : gFn 1 m__law_near (DL.gCons (DL.gTup (DL.gCons (gOp2 (fIntC CShl fun i j => i * 2 ^ j.toNat) (gOp2 fIx (gVar 0) (gC (.int 0))) (gVar 1)) (DL.gCons (gOp2 fIx (gVar 0) (gC (.int 1))) DL.gNil))) DL.gNil) [.bor none (.p (.tup [.int p, .int q])), .own (.p (.int (s : Int))), s2] = .ok (.own (.p (.int (near (p * 2 ^ s) q)))) := by
  have c : CShl p (s : Int) := zp.cshl (by omega) (by omega)
  have zu : Z 31 ((2 : Int) ^ s) := Z.pow2 (by omega)
  have vn := v_nearest (p := p * 2 ^ s) (q := q) (k := 241) (zp.mul zu) (zq.mono (by decide)) hq (by decide)
  rw [same_near]
  simp [startS, DL.gCons, DL.gNil, gC, gVar, gOp1, gOp2, gSet, gFn, gCall, DL.gTup, DL.gLst, gTB, gTru, gIf, gIfS, gOr, gAnd, gNot, gOrV, gAndV, gNotV, gRet, gRetV, gNext, gIsi, gIsE, gExpr, gChain, gRaise, gSeq, gFor, gForL, gSeqI, R.items, gSeqL, R.itemsL, gRevL, gRevI, fLtA, gForV, gSl, gPart, gNoPart, gRangeI, fRange1, fRange2, range_2, range_3, range_4, range_5, gLc, lcL, gYes, wipeS, Rn.noErr, Rn.noErrS, gTry, gTryW, plains, owns, fB, fIntB, fIx, fAdd, iSub, fInt, fIntC, fMul, fNeg, fIsN, fEqB, fTru, fLen, fTuple, fList, fTru, P.scal, P.seq, D.bool?, R.d, lift, Rn.bind, Rn.mapErr, Rn.bind_ite, Rn.mapErr_ite, tryW_ite, atI, ixN, Tg.set, tabS, Fl.map, outEx, S.noExn, m__law_begin, m__law_take, take_ok, D.ty?, tyB, c, vn]
def outS (p q : Int) (s : Nat) : Option (Int × Int) := if near (p * 2 ^ s) q = 0 ∨ 65535 < near (p * 2 ^ s) q then none else some (near (p * 2 ^ s) q, (s : Int))
def testL : GT := gAnd (gTB (gOp2 (fB fGt) (gVar 1) (gC (.int 1)))) (gTB (gOp2 (fB fGt) (gFn 1 m__law_near (DL.gCons (DL.gTup (DL.gCons (gOp2 (fIntC CShl fun i j => i * 2 ^ j.toNat) (gOp2 fIx (gVar 0) (gC (.int 0))) (gVar 1)) (DL.gCons (gOp2 fIx (gVar 0) (gC (.int 1))) DL.gNil))) DL.gNil)) (gC (.int 65535))))
theorem v_testL {p q : Int} (zp : Z 210 p) (zq : Z 210 q) (hq : 0 < q) (s : Nat) (hs : s ≤ 30) (s2 : S) : testL [.bor none (.p (.tup [.int p, .int q])), .own (.p (.int (s : Int))), s2] = .ok (decide (1 < s) && decide (65535 < near (p * 2 ^ s) q)) := by
  have st := stepL zp zq hq s hs s2
  have e1 : gTB (gOp2 (fB fGt) (gVar 1) (gC (.int 1))) [.bor none (.p (.tup [.int p, .int q])), .own (.p (.int (s : Int))), s2] = .ok (decide (1 < s)) := by
    refine tb_eq (op2_eq (x := .own (.p (.int (s : Int)))) rfl rfl (fB_eq ?_))
    show Rn.ok _ = _
    by_cases h : 1 < s
    · have : (1 : Int) < s := by omega
      simp [h, this]
    · have : ¬ (1 : Int) < s := by omega
      simp [h, this]
  unfold testL
  by_cases h : 1 < s
  · refine (and_eqT (by rw [e1, decide_eq_true h]) (tb_eq (op2_eq st rfl (fB_eq (k := decide (65535 < near (p * 2 ^ s) q)) rfl)))).trans ?_
    simp [h]
  · refine (and_eqF (by rw [e1, decide_eq_false h])).trans ?_
    simp [h]
theorem whileL {p q : Int} (zp : Z 210 p) (zq : Z 210 q) (hq : 0 < q) : ∀ (s n : Nat) (s2 : S), s + 1 ≤ 30 → s + 1 ≤ n → ∃ t : Nat, t ≤ 30 ∧ gWhile testL (gSet 1 (gOp2 iSub (gVar 1) (gC (.int 1)))) n [.bor none (.p (.tup [.int p, .int q])), .own (.p (.int ((s + 1 : Nat) : Int))), s2] = .ok (.nx [.bor none (.p (.tup [.int p, .int q])), .own (.p (.int (t : Int))), s2]) ∧ outS p q t = res p q (s + 1)
  | s, 0, s2, _, hn => by omega
  | s, n + 1, s2, hs, hn => by
    have vt := v_testL zp zq hq (s + 1) hs s2
    by_cases h : 0 < s ∧ 65535 < near (p * 2 ^ (s + 1)) q
    · obtain ⟨h1, h2⟩ := h
      obtain ⟨r, rfl⟩ : ∃ r, s = r + 1 := ⟨s - 1, by omega⟩
      obtain ⟨t, ht, w, o⟩ := whileL zp zq hq r n s2 (by omega) (by omega)
      refine ⟨t, ht, while_tt (δ' := [.bor none (.p (.tup [.int p, .int q])), .own (.p (.int ((r + 1 : Nat) : Int))), s2]) ?_ ?_ w, ?_⟩
      · rw [vt]
        simp [h2]
      · refine (set_eq (op2_eq (x := .own (.p (.int ((r + 1 + 1 : Nat) : Int)))) rfl rfl (rfl : iSub _ _ = .ok (.own (.p (.int (((r + 1 + 1 : Nat) : Int) - 1))))))).trans ?_
        have e : ((r + 1 + 1 : Nat) : Int) - 1 = ((r + 1 : Nat) : Int) := by omega
        rw [e]
        rfl
      · rw [o]
        show _ = if near (p * 2 ^ (r + 1 + 1)) q ≤ 65535 then _ else _
        rw [if_neg (by omega)]
    · refine ⟨s + 1, hs, while_ff ?_, ?_⟩
      · rw [vt]
        by_cases h1 : 0 < s
        · have h2 : ¬ 65535 < near (p * 2 ^ (s + 1)) q := fun z => h ⟨h1, z⟩
          simp [h2]
        · simp [h1]
      · unfold outS
        show _ = if near (p * 2 ^ (s + 1)) q ≤ 65535 then _ else _
        by_cases h2 : near (p * 2 ^ (s + 1)) q ≤ 65535
        · rw [if_pos h2]
          by_cases h3 : near (p * 2 ^ (s + 1)) q = 0
          · rw [if_pos (.inl h3), if_pos h3]
          · rw [if_neg (by omega), if_neg h3]
        · have h1 : s = 0 := by
            by_cases z : 0 < s
            · exact absurd ⟨z, by omega⟩ h
            · omega
          subst h1
          rw [if_pos (.inr (by omega)), if_neg h2]
          rfl
theorem v_lawmult {p q : Int} (zp : Z 210 p) (zq : Z 210 q) (hq : 0 < q) : m__law_multiplier [.p (.tup [.int p, .int q])] = .ok (.p (outR (res p q 30))) := by
  obtain ⟨t, ht, w, o⟩ := whileL zp zq hq 29 31 .no (by decide) (by decide)
  rw [← o]
  have st := stepL zp zq hq t ht .no
  refine fn_eq (seq_eq (δ' := [.bor none (.p (.tup [.int p, .int q])), .own (.p (.int 30)), .no]) rfl (seq_eq w (seq_eq (set_eq st) (ret_eq ?_))))
  unfold outS
  generalize near (p * 2 ^ t) q = M
  by_cases h1 : M = 0
  · simp [startS, DL.gCons, DL.gNil, gC, gVar, gOp1, gOp2, gSet, gFn, gCall, DL.gTup, DL.gLst, gTB, gTru, gIf, gIfS, gOr, gAnd, gNot, gOrV, gAndV, gNotV, gRet, gRetV, gNext, gIsi, gIsE, gExpr, gChain, gRaise, gSeq, gFor, gForL, gSeqI, R.items, gSeqL, R.itemsL, gRevL, gRevI, fLtA, gForV, gSl, gPart, gNoPart, gRangeI, fRange1, fRange2, range_2, range_3, range_4, range_5, gLc, lcL, gYes, wipeS, Rn.noErr, Rn.noErrS, gTry, gTryW, plains, owns, fB, fIntB, fIx, fAdd, iSub, fInt, fIntC, fMul, fNeg, fIsN, fEqB, fTru, fLen, fTuple, fList, fTru, P.scal, P.seq, D.bool?, R.d, lift, Rn.bind, Rn.mapErr, Rn.bind_ite, Rn.mapErr_ite, tryW_ite, atI, ixN, Tg.set, tabS, Fl.map, outEx, S.noExn, m__law_begin, m__law_take, take_ok, D.ty?, tyB, fGt, h1, outR]
  · by_cases h2 : 65535 < M
    · simp [startS, DL.gCons, DL.gNil, gC, gVar, gOp1, gOp2, gSet, gFn, gCall, DL.gTup, DL.gLst, gTB, gTru, gIf, gIfS, gOr, gAnd, gNot, gOrV, gAndV, gNotV, gRet, gRetV, gNext, gIsi, gIsE, gExpr, gChain, gRaise, gSeq, gFor, gForL, gSeqI, R.items, gSeqL, R.itemsL, gRevL, gRevI, fLtA, gForV, gSl, gPart, gNoPart, gRangeI, fRange1, fRange2, range_2, range_3, range_4, range_5, gLc, lcL, gYes, wipeS, Rn.noErr, Rn.noErrS, gTry, gTryW, plains, owns, fB, fIntB, fIx, fAdd, iSub, fInt, fIntC, fMul, fNeg, fIsN, fEqB, fTru, fLen, fTuple, fList, fTru, P.scal, P.seq, D.bool?, R.d, lift, Rn.bind, Rn.mapErr, Rn.bind_ite, Rn.mapErr_ite, tryW_ite, atI, ixN, Tg.set, tabS, Fl.map, outEx, S.noExn, m__law_begin, m__law_take, take_ok, D.ty?, tyB, fGt, h1, h2, outR]
    · simp [startS, DL.gCons, DL.gNil, gC, gVar, gOp1, gOp2, gSet, gFn, gCall, DL.gTup, DL.gLst, gTB, gTru, gIf, gIfS, gOr, gAnd, gNot, gOrV, gAndV, gNotV, gRet, gRetV, gNext, gIsi, gIsE, gExpr, gChain, gRaise, gSeq, gFor, gForL, gSeqI, R.items, gSeqL, R.itemsL, gRevL, gRevI, fLtA, gForV, gSl, gPart, gNoPart, gRangeI, fRange1, fRange2, range_2, range_3, range_4, range_5, gLc, lcL, gYes, wipeS, Rn.noErr, Rn.noErrS, gTry, gTryW, plains, owns, fB, fIntB, fIx, fAdd, iSub, fInt, fIntC, fMul, fNeg, fIsN, fEqB, fTru, fLen, fTuple, fList, fTru, P.scal, P.seq, D.bool?, R.d, lift, Rn.bind, Rn.mapErr, Rn.bind_ite, Rn.mapErr_ite, tryW_ite, atI, ixN, Tg.set, tabS, Fl.map, outEx, S.noExn, m__law_begin, m__law_take, take_ok, D.ty?, tyB, fGt, h1, h2, outR]
theorem v_ends (b : Int) (h1 : 3 ≤ b) (h2 : b ≤ 12) : ∃ h : Int, 4 ≤ h ∧ h ≤ 2048 ∧ m__law_ends [.p (.int b)] = .ok (.p (.tup [.int (0 - h), .int (h - 1)])) ∧ m_least_code [.p (.int b)] = .ok (.p (.int (0 - h))) ∧ m_greatest_code [.p (.int b)] = .ok (.p (.int (h - 1))) := by
  rcases (by omega : b = 3 ∨ b = 4 ∨ b = 5 ∨ b = 6 ∨ b = 7 ∨ b = 8 ∨ b = 9 ∨ b = 10 ∨ b = 11 ∨ b = 12) with rfl | rfl | rfl | rfl | rfl | rfl | rfl | rfl | rfl | rfl
  · exact ⟨4, by decide, by decide, rfl, rfl, rfl⟩
  · exact ⟨8, by decide, by decide, rfl, rfl, rfl⟩
  · exact ⟨16, by decide, by decide, rfl, rfl, rfl⟩
  · exact ⟨32, by decide, by decide, rfl, rfl, rfl⟩
  · exact ⟨64, by decide, by decide, rfl, rfl, rfl⟩
  · exact ⟨128, by decide, by decide, rfl, rfl, rfl⟩
  · exact ⟨256, by decide, by decide, rfl, rfl, rfl⟩
  · exact ⟨512, by decide, by decide, rfl, rfl, rfl⟩
  · exact ⟨1024, by decide, by decide, rfl, rfl, rfl⟩
  · exact ⟨2048, by decide, by decide, rfl, rfl, rfl⟩
def mx (i j : Int) : Int := if j > i then j else i
def mn (i j : Int) : Int := if j < i then j else i
theorem v_coded {p q z b x y : Int} (zp : Z 210 p) (zq : Z 210 q) (hp : 0 < p) (hq : 0 < q) (zx : Z 40 x) (zy : Z 40 y) (hy : 0 < y) (h1 : 3 ≤ b) (h2 : b ≤ 12) (h : Int)
    (e1 : m_least_code [.p (.int b)] = .ok (.p (.int (0 - h)))) (e2 : m_greatest_code [.p (.int b)] = .ok (.p (.int (h - 1)))) :
    m__law_coded [.p (.tup [.tup [.int p, .int q], .int z]), .p (.int b), .p (.tup [.int x, .int y])] = .ok (.p (.int (mx (0 - h) (mn (h - 1) (near (x * q) (y * p) + z))))) := by
  have hd : y * p ≠ 0 := Int.mul_ne_zero (by omega) (by omega)
  have hd0 : 0 < y * p := Int.mul_pos hy hp
  have vo := v_over (zx.mono (by decide)) (zy.mono (by decide)) (zp.mono (by decide)) (zq.mono (by decide)) hd
  have zn : Z 250 (x * q) := zx.mul zq
  have zd : Z 250 (y * p) := zy.mul zp
  obtain ⟨f, _⟩ := fr_ok hd zn zd
  have vn := v_nearest f.zp f.zq (by have := f.pos; omega) (by decide)
  rw [fr_val hd0 zn zd] at vn
  have k1 : ¬ b < 3 := by omega
  have k2 : ¬ 12 < b := by omega
  have vc : m_check_bits [.p (.int b)] = .ok (.p .non) := by
    unfold m_check_bits fnD g_check_bits
    simp [startS, DL.gCons, DL.gNil, gC, gVar, gOp1, gOp2, gSet, gFn, gCall, DL.gTup, DL.gLst, gTB, gTru, gIf, gIfS, gOr, gAnd, gNot, gOrV, gAndV, gNotV, gRet, gRetV, gNext, gIsi, gIsE, gExpr, gChain, gRaise, gSeq, gFor, gForL, gSeqI, R.items, gSeqL, R.itemsL, gRevL, gRevI, fLtA, gForV, gSl, gPart, gNoPart, gRangeI, fRange1, fRange2, range_2, range_3, range_4, range_5, gLc, lcL, gYes, wipeS, Rn.noErr, Rn.noErrS, gTry, gTryW, plains, owns, fB, fIntB, fIx, fAdd, iSub, fInt, fIntC, fMul, fNeg, fIsN, fEqB, fTru, fLen, fTuple, fList, fTru, P.scal, P.seq, D.bool?, R.d, lift, Rn.bind, Rn.mapErr, Rn.bind_ite, Rn.mapErr_ite, tryW_ite, atI, ixN, Tg.set, tabS, Fl.map, outEx, S.noExn, m__law_begin, m__law_take, take_ok, D.ty?, tyB, fLt, fGt, k1, k2]
  have vco : m_code_of [.p (.tup [.tup [.int p, .int q], .int z]), .p (.int b), .p (.tup [.int x, .int y])] = .ok (.p (.int (mx (0 - h) (mn (h - 1) (near (x * q) (y * p) + z))))) := by
    unfold m_code_of fnD g_code_of
    simp [startS, DL.gCons, DL.gNil, gC, gVar, gOp1, gOp2, gSet, gFn, gCall, DL.gTup, DL.gLst, gTB, gTru, gIf, gIfS, gOr, gAnd, gNot, gOrV, gAndV, gNotV, gRet, gRetV, gNext, gIsi, gIsE, gExpr, gChain, gRaise, gSeq, gFor, gForL, gSeqI, R.items, gSeqL, R.itemsL, gRevL, gRevI, fLtA, gForV, gSl, gPart, gNoPart, gRangeI, fRange1, fRange2, range_2, range_3, range_4, range_5, gLc, lcL, gYes, wipeS, Rn.noErr, Rn.noErrS, gTry, gTryW, plains, owns, fB, fIntB, fIx, fAdd, iSub, fInt, fIntC, fMul, fNeg, fIsN, fEqB, fTru, fLen, fTuple, fList, fTru, P.scal, P.seq, D.bool?, R.d, lift, Rn.bind, Rn.mapErr, Rn.bind_ite, Rn.mapErr_ite, tryW_ite, atI, ixN, Tg.set, tabS, Fl.map, outEx, S.noExn, m__law_begin, m__law_take, take_ok, D.ty?, tyB, vc, vo, vn, e1, e2, fMaxL, fMinL, fMax2, fMin2, mx, mn]
  unfold m__law_coded fnD g__law_coded
  simp [startS, DL.gCons, DL.gNil, gC, gVar, gOp1, gOp2, gSet, gFn, gCall, DL.gTup, DL.gLst, gTB, gTru, gIf, gIfS, gOr, gAnd, gNot, gOrV, gAndV, gNotV, gRet, gRetV, gNext, gIsi, gIsE, gExpr, gChain, gRaise, gSeq, gFor, gForL, gSeqI, R.items, gSeqL, R.itemsL, gRevL, gRevI, fLtA, gForV, gSl, gPart, gNoPart, gRangeI, fRange1, fRange2, range_2, range_3, range_4, range_5, gLc, lcL, gYes, wipeS, Rn.noErr, Rn.noErrS, plains, owns, fB, fIntB, fIx, iSub, fInt, fIntC, fMul, fNeg, fIsN, fEqB, fTru, fLen, fTuple, fList, fTru, P.scal, P.seq, D.bool?, R.d, lift, Rn.bind, Rn.mapErr, Rn.bind_ite, Rn.mapErr_ite, tryW_ite, atI, ixN, Tg.set, Fl.map, outEx, S.noExn, m__law_begin, m__law_take, take_ok, D.ty?, tyB, gTry, vco, tryW_ok]
theorem v_codedE {x y : P} {b : Int} (hb : b = 2 ∨ b = 13) : m__law_coded [.p x, .p (.int b), .p y] = .ok (.p .non) := by
  have t1 : tabS tc_TensorError "RangeError" = some true := by decide +kernel
  have t2 : tabS ti_RangeError "RangeError" = some true := by decide +kernel
  have vc : m_check_bits [.p (.int b)] = .err "RangeError" () := by
    rcases hb with rfl | rfl <;> rfl
  have vco : m_code_of [.p x, .p (.int b), .p y] = .err "RangeError" () := by
    unfold m_code_of fnD g_code_of
    simp [startS, DL.gCons, DL.gNil, gC, gVar, gOp1, gOp2, gSet, gFn, gCall, DL.gTup, DL.gLst, gTB, gTru, gIf, gIfS, gOr, gAnd, gNot, gOrV, gAndV, gNotV, gRet, gRetV, gNext, gIsi, gIsE, gExpr, gChain, gRaise, gSeq, gFor, gForL, gSeqI, R.items, gSeqL, R.itemsL, gRevL, gRevI, fLtA, gForV, gSl, gPart, gNoPart, gRangeI, fRange1, fRange2, range_2, range_3, range_4, range_5, gLc, lcL, gYes, wipeS, Rn.noErr, Rn.noErrS, plains, owns, fB, fIntB, fIx, iSub, fInt, fIntC, fMul, fNeg, fIsN, fEqB, fTru, fLen, fTuple, fList, fTru, P.scal, P.seq, D.bool?, R.d, lift, Rn.bind, Rn.mapErr, Rn.bind_ite, Rn.mapErr_ite, tryW_ite, atI, ixN, Tg.set, Fl.map, outEx, S.noExn, m__law_begin, m__law_take, take_ok, D.ty?, tyB, vc]
  unfold m__law_coded fnD g__law_coded
  simp [startS, DL.gCons, DL.gNil, gC, gVar, gOp1, gOp2, gSet, gFn, gCall, DL.gTup, DL.gLst, gTB, gTru, gIf, gIfS, gOr, gAnd, gNot, gOrV, gAndV, gNotV, gRet, gRetV, gNext, gIsi, gIsE, gExpr, gChain, gRaise, gSeq, gFor, gForL, gSeqI, R.items, gSeqL, R.itemsL, gRevL, gRevI, fLtA, gForV, gSl, gPart, gNoPart, gRangeI, fRange1, fRange2, range_2, range_3, range_4, range_5, gLc, lcL, gYes, wipeS, Rn.noErr, Rn.noErrS, plains, owns, fB, fIntB, fIx, iSub, fInt, fIntC, fMul, fNeg, fIsN, fEqB, fTru, fLen, fTuple, fList, fTru, P.scal, P.seq, D.bool?, R.d, lift, Rn.bind, Rn.mapErr, Rn.bind_ite, Rn.mapErr_ite, tryW_ite, atI, ixN, Tg.set, Fl.map, outEx, S.noExn, m__law_begin, m__law_take, take_ok, D.ty?, tyB, gTry, vco, tryW_err, t1, t2]

theorem fN_pos {n d : Int} (hn : 0 < n) (hd : 0 < d) : 0 < fN n d := by
  have hg := gI_pos (n := n) (show d ≠ 0 by omega)
  unfold fN
  rw [if_neg (by omega)]
  obtain ⟨x, hx⟩ : gI n d ∣ n := Int.ofNat_dvd_left.mpr (Nat.gcd_dvd_left _ _)
  have e : n / gI n d = x := by
    rw [show n / gI n d = gI n d * x / gI n d by rw [← hx]]
    exact Int.mul_ediv_cancel_left x (by omega)
  rw [e]
  refine Int.not_le.mp fun z => ?_
  have := Int.mul_nonneg (Int.le_of_lt hg) (show 0 ≤ -x by omega)
  rw [Int.mul_neg] at this
  omega
theorem gap_le {p q x y r mn md g0 g1 : Int} (hp : 0 < p) (hq : 0 < q) (hy : 0 < y) (hmd : 0 < md) (hg1 : 0 < g1) (hr : r = near (x * q) (y * p)) (hm : mn * q = p * r * md) (hg : g0 * (y * md) = (x * md + (0 - mn) * y) * g1) :
    2 * (if g0 < 0 then -g0 else g0) * q ≤ p * g1 := by
  have hD : 0 < y * p := Int.mul_pos hy hp
  have r1 : (2 * (y * p)) * r ≤ 2 * (x * q) + y * p := by rw [hr]; exact Int.mul_ediv_self_le (by omega)
  have r2 : 2 * (x * q) + y * p < (2 * (y * p)) * r + 2 * (y * p) := by rw [hr]; exact Int.lt_mul_ediv_self_add (by omega)
  have hc : 0 < y * md := Int.mul_pos hy hmd
  have hk : 0 < md * g1 := Int.mul_pos hmd hg1
  have k1 : 2 * g0 * q * (y * md) = (2 * (x * q) - 2 * (y * p) * r) * (md * g1) := by
    have a1 : 2 * g0 * q * (y * md) = 2 * q * (g0 * (y * md)) := by ac_rfl
    have a2 : 2 * q * ((x * md + (0 - mn) * y) * g1) = 2 * (x * q) * (md * g1) - 2 * (mn * q) * y * g1 := by
      have b1 : (x * md + (0 - mn) * y) = x * md - mn * y := by rw [Int.sub_mul, Int.zero_mul]; omega
      rw [b1, Int.sub_mul, Int.mul_sub]
      congr 1
      · ac_rfl
      · ac_rfl
    rw [a1, hg, a2, hm, Int.sub_mul]
    congr 1
    ac_rfl
  have k2 : (2 * (x * q) - 2 * (y * p) * r) * (md * g1) ≤ (y * p) * (md * g1) := Int.mul_le_mul_of_nonneg_right (by omega) (by omega)
  have k3 : -(y * p) * (md * g1) ≤ (2 * (x * q) - 2 * (y * p) * r) * (md * g1) := Int.mul_le_mul_of_nonneg_right (by omega) (by omega)
  have e1 : (y * p) * (md * g1) = (p * g1) * (y * md) := by ac_rfl
  rw [← k1, e1] at k2
  have e2 : -(y * p) * (md * g1) = -(p * g1) * (y * md) := by rw [Int.neg_mul, Int.neg_mul, e1]
  rw [← k1, e2] at k3
  have f1 := Int.le_of_mul_le_mul_right k2 hc
  have f2 := Int.le_of_mul_le_mul_right k3 hc
  split
  · have : 2 * -g0 * q = -(2 * g0 * q) := by rw [Int.mul_neg, Int.neg_mul]
    omega
  · exact f1
theorem frac_wp {δ : Sl} {a b : GE} {Q : R → Prop} {k : Nat} (hk : k < 5000) (h : Wp (a δ) (fun r => ∃ n : Int, r = .own (.p (.int n)) ∧ Z k n ∧ Wp (b δ) (fun s => ∃ d : Int, s = .own (.p (.int d)) ∧ Z k d ∧ 0 < d ∧ ∀ x y : Int, x = fN n d → y = fD n d → Fr k x y → Q (.own (.p (.tup [.int x, .int y])))) (fun _ _ => False)) (fun _ _ => False)) :
    Wp (gFn 2 m__law_frac (DL.gCons a (DL.gCons b DL.gNil)) δ) Q (fun _ _ => False) := by
  refine w_fnW (w_cons (wp_imp h ?_ fun _ _ z => z))
  rintro _ ⟨n, rfl, zn, h⟩
  refine w_cons (wp_imp h ?_ fun _ _ z => z)
  rintro _ ⟨d, rfl, zd, hd, h⟩
  refine w_of (v := []) rfl ⟨rfl, ?_⟩
  exact w_of (v_frac (k := k) hd zd hk) (h _ _ rfl rfl (fr_ok (by omega) zn zd).1)
theorem add_draw {δ : Sl} {c m : Int} {Q : R → Prop} {gs : GA} (h0 : 0 < m) (h1 : m < 2 ^ 250) (hg : gs δ = .ok [.vw .orc, .own (.p (.int m))]) (h : ∀ i : Int, 0 ≤ i → i < m → Q (.own (.p (.int (c + i))))) :
    Wp (gOp2 fAdd (gC (.int c)) (gFn 2 m__law_take gs) δ) Q (fun _ _ => False) :=
  w_op2 (w_of (v := .own (.p (.int c))) rfl (draw_eq h0 h1 hg fun i h2 h3 => w_of (v := .own (.p (.int (c + i)))) rfl (h i h2 h3)))
theorem shl_draw {δ : Sl} {m : Int} {Q : R → Prop} {gs : GA} (h0 : 0 < m) (h1 : m ≤ 40) (hg : gs δ = .ok [.vw .orc, .own (.p (.int m))]) (h : ∀ x : Int, 0 < x → Z 210 x → Q (.own (.p (.int x)))) :
    Wp (gOp2 (fIntC CShl fun i j => i * 2 ^ j.toNat) (gC (.int 1)) (gFn 2 m__law_take gs) δ) Q (fun _ _ => False) := by
  refine w_op2 (w_of (v := .own (.p (.int 1))) rfl (draw_eq h0 (by omega) hg fun i h2 h3 => ?_))
  have c : CShl 1 i := Z.cshl (k := 1) ⟨by decide⟩ (by omega) (by omega)
  have z : Z 210 ((2 : Int) ^ i.toNat) := Z.pow2 (by omega)
  have hp : 0 < (2 : Int) ^ i.toNat := Int.pow_pos (by decide)
  have e : fIntC CShl (fun i j => i * 2 ^ j.toNat) (.p (.int 1)) (.p (.int i)) = .ok (.own (.p (.int (2 ^ i.toNat)))) := by
    show (if CShl 1 i then _ else _) = _
    rw [if_pos c]
    simp
  exact w_of e (h _ hp z)
def Pq (d : D) : Prop := ∃ p q : Int, 0 < p ∧ 0 < q ∧ Z 210 p ∧ Z 210 q ∧ d = .p (.tup [.int p, .int q])
theorem v_drawn : Wp (m__law_drawn [.orc]) Pq (fun _ _ => False) := by
  refine fn_wp ?_
  unfold g__law_drawn
  refine seq_wp (fun δ => ∃ i : Int, 0 ≤ i ∧ i < 7 ∧ δ = [.bor none .orc, .own (.p (.int i)), .no]) (w_set (draw_eq (n := 7) (by decide) (by omega) rfl fun i h0 h1 => ⟨_, rfl, i, h0, h1, rfl⟩)) ?_
  rintro _ ⟨i, h0, h1, rfl⟩
  have z1 : Z 210 1 := Z.mono (j := 1) ⟨by decide⟩ (by decide)
  rcases (by omega : i = 0 ∨ i = 1 ∨ i = 2 ∨ 3 ≤ i) with rfl | rfl | rfl | h3
  · refine seq_wp (fun _ => False) (if_tt rfl (w_ret ?_)) fun _ z => z.elim
    unfold DL.gTup
    refine wp_bind.mpr (w_cons (shl_draw (m := 18) (by decide) (by decide) rfl fun x hx zx => ?_))
    exact w_of (v := [.own (.p (.int 1))]) rfl (w_of (v := .own (.p (.tup [.int x, .int 1]))) rfl ⟨_, rfl, x, 1, hx, by decide, zx, z1, rfl⟩)
  · refine seq_ok rfl ?_
    refine seq_wp (fun _ => False) (if_tt rfl (w_ret ?_)) fun _ z => z.elim
    unfold DL.gTup
    refine wp_bind.mpr (w_cons (w_of (v := .own (.p (.int 1))) rfl (w_cons (shl_draw (m := 36) (by decide) (by decide) rfl fun x hx zx => ?_))))
    exact w_of (v := []) rfl (w_of (v := .own (.p (.tup [.int 1, .int x]))) rfl ⟨_, rfl, 1, x, by decide, hx, z1, zx, rfl⟩)
  · refine seq_ok rfl (seq_ok rfl ?_)
    refine seq_wp (fun _ => False) (if_tt rfl (w_ret ?_)) fun _ z => z.elim
    refine frac_wp (k := 210) (by decide) (add_draw (m := 4) (by decide) (by omega) rfl fun i h2 h3 => ⟨65534 + i, rfl, Z.of (by omega) (by omega), add_draw (m := 3) (by decide) (by omega) rfl fun j h4 h5 => ⟨1 + j, rfl, Z.of (by omega) (by omega), by omega, fun x y ex ey f => ⟨_, rfl, x, y, ?_, by have := f.pos; omega, f.zp, f.zq, rfl⟩⟩⟩)
    rw [ex]
    exact fN_pos (by omega) (by omega)
  · have n0 : ¬ i = 0 := by omega
    have n1 : ¬ i = 1 := by omega
    have n2 : ¬ i = 2 := by omega
    refine seq_ok (δ' := [.bor none .orc, .own (.p (.int i)), .no]) (by simp [startS, DL.gCons, DL.gNil, gC, gVar, gOp1, gOp2, gSet, gFn, gCall, DL.gTup, DL.gLst, gTB, gTru, gIf, gIfS, gOr, gAnd, gNot, gOrV, gAndV, gNotV, gRet, gRetV, gNext, gIsi, gIsE, gExpr, gChain, gRaise, gSeq, gFor, gForL, gSeqI, R.items, gSeqL, R.itemsL, gRevL, gRevI, fLtA, gForV, gSl, gPart, gNoPart, gRangeI, fRange1, fRange2, range_2, range_3, range_4, range_5, gLc, lcL, gYes, wipeS, Rn.noErr, Rn.noErrS, gTry, gTryW, plains, owns, fB, fIntB, fIx, fAdd, iSub, fInt, fIntC, fMul, fNeg, fIsN, fEqB, fTru, fLen, fTuple, fList, fTru, P.scal, P.seq, D.bool?, R.d, lift, Rn.bind, Rn.mapErr, Rn.bind_ite, Rn.mapErr_ite, tryW_ite, atI, ixN, Tg.set, tabS, Fl.map, outEx, S.noExn, m__law_begin, m__law_take, take_ok, D.ty?, tyB, n0]) ?_
    refine seq_ok (δ' := [.bor none .orc, .own (.p (.int i)), .no]) (by simp [startS, DL.gCons, DL.gNil, gC, gVar, gOp1, gOp2, gSet, gFn, gCall, DL.gTup, DL.gLst, gTB, gTru, gIf, gIfS, gOr, gAnd, gNot, gOrV, gAndV, gNotV, gRet, gRetV, gNext, gIsi, gIsE, gExpr, gChain, gRaise, gSeq, gFor, gForL, gSeqI, R.items, gSeqL, R.itemsL, gRevL, gRevI, fLtA, gForV, gSl, gPart, gNoPart, gRangeI, fRange1, fRange2, range_2, range_3, range_4, range_5, gLc, lcL, gYes, wipeS, Rn.noErr, Rn.noErrS, gTry, gTryW, plains, owns, fB, fIntB, fIx, fAdd, iSub, fInt, fIntC, fMul, fNeg, fIsN, fEqB, fTru, fLen, fTuple, fList, fTru, P.scal, P.seq, D.bool?, R.d, lift, Rn.bind, Rn.mapErr, Rn.bind_ite, Rn.mapErr_ite, tryW_ite, atI, ixN, Tg.set, tabS, Fl.map, outEx, S.noExn, m__law_begin, m__law_take, take_ok, D.ty?, tyB, n1]) ?_
    refine seq_ok (δ' := [.bor none .orc, .own (.p (.int i)), .no]) (by simp [startS, DL.gCons, DL.gNil, gC, gVar, gOp1, gOp2, gSet, gFn, gCall, DL.gTup, DL.gLst, gTB, gTru, gIf, gIfS, gOr, gAnd, gNot, gOrV, gAndV, gNotV, gRet, gRetV, gNext, gIsi, gIsE, gExpr, gChain, gRaise, gSeq, gFor, gForL, gSeqI, R.items, gSeqL, R.itemsL, gRevL, gRevI, fLtA, gForV, gSl, gPart, gNoPart, gRangeI, fRange1, fRange2, range_2, range_3, range_4, range_5, gLc, lcL, gYes, wipeS, Rn.noErr, Rn.noErrS, gTry, gTryW, plains, owns, fB, fIntB, fIx, fAdd, iSub, fInt, fIntC, fMul, fNeg, fIsN, fEqB, fTru, fLen, fTuple, fList, fTru, P.scal, P.seq, D.bool?, R.d, lift, Rn.bind, Rn.mapErr, Rn.bind_ite, Rn.mapErr_ite, tryW_ite, atI, ixN, Tg.set, tabS, Fl.map, outEx, S.noExn, m__law_begin, m__law_take, take_ok, D.ty?, tyB, n2]) ?_
    have cp1 : CPow 10 6 := by decide
    have cp2 : CPow 10 12 := by decide
    have cp3 : CPow 10 60 := by decide
    have st : ∃ m : Int, 0 < m ∧ m ≤ 10 ^ 60 ∧ gSet 2 (gOp2 fIx (DL.gTup (DL.gCons (gC (.int 20)) (DL.gCons (gOp2 (fIntC CPow fun i j => i ^ j.toNat) (gC (.int 10)) (gC (.int 6))) (DL.gCons (gOp2 (fIntC CPow fun i j => i ^ j.toNat) (gC (.int 10)) (gC (.int 12))) (DL.gCons (gOp2 (fIntC CPow fun i j => i ^ j.toNat) (gC (.int 10)) (gC (.int 60))) DL.gNil))))) (gOp2 iSub (gVar 1) (gC (.int 3)))) [.bor none .orc, .own (.p (.int i)), .no] = .ok (.nx [.bor none .orc, .own (.p (.int i)), .own (.p (.int m))]) := by
      rcases (by omega : i = 3 ∨ i = 4 ∨ i = 5 ∨ i = 6) with rfl | rfl | rfl | rfl
      · exact ⟨20, by decide, by decide, by simp [startS, DL.gCons, DL.gNil, gC, gVar, gOp1, gOp2, gSet, gFn, gCall, DL.gTup, DL.gLst, gTB, gTru, gIf, gIfS, gOr, gAnd, gNot, gOrV, gAndV, gNotV, gRet, gRetV, gNext, gIsi, gIsE, gExpr, gChain, gRaise, gSeq, gFor, gForL, gSeqI, R.items, gSeqL, R.itemsL, gRevL, gRevI, fLtA, gForV, gSl, gPart, gNoPart, gRangeI, fRange1, fRange2, range_2, range_3, range_4, range_5, gLc, lcL, gYes, wipeS, Rn.noErr, Rn.noErrS, gTry, gTryW, plains, owns, fB, fIntB, fIx, fAdd, iSub, fInt, fIntC, fMul, fNeg, fIsN, fEqB, fTru, fLen, fTuple, fList, fTru, P.scal, P.seq, D.bool?, R.d, lift, Rn.bind, Rn.mapErr, Rn.bind_ite, Rn.mapErr_ite, tryW_ite, atI, ixN, Tg.set, tabS, Fl.map, outEx, S.noExn, m__law_begin, m__law_take, take_ok, D.ty?, tyB, cp1, cp2, cp3]⟩
      · exact ⟨10 ^ 6, by decide, by decide, by simp [startS, DL.gCons, DL.gNil, gC, gVar, gOp1, gOp2, gSet, gFn, gCall, DL.gTup, DL.gLst, gTB, gTru, gIf, gIfS, gOr, gAnd, gNot, gOrV, gAndV, gNotV, gRet, gRetV, gNext, gIsi, gIsE, gExpr, gChain, gRaise, gSeq, gFor, gForL, gSeqI, R.items, gSeqL, R.itemsL, gRevL, gRevI, fLtA, gForV, gSl, gPart, gNoPart, gRangeI, fRange1, fRange2, range_2, range_3, range_4, range_5, gLc, lcL, gYes, wipeS, Rn.noErr, Rn.noErrS, gTry, gTryW, plains, owns, fB, fIntB, fIx, fAdd, iSub, fInt, fIntC, fMul, fNeg, fIsN, fEqB, fTru, fLen, fTuple, fList, fTru, P.scal, P.seq, D.bool?, R.d, lift, Rn.bind, Rn.mapErr, Rn.bind_ite, Rn.mapErr_ite, tryW_ite, atI, ixN, Tg.set, tabS, Fl.map, outEx, S.noExn, m__law_begin, m__law_take, take_ok, D.ty?, tyB, cp1, cp2, cp3]⟩
      · exact ⟨10 ^ 12, by decide, by decide, by simp [startS, DL.gCons, DL.gNil, gC, gVar, gOp1, gOp2, gSet, gFn, gCall, DL.gTup, DL.gLst, gTB, gTru, gIf, gIfS, gOr, gAnd, gNot, gOrV, gAndV, gNotV, gRet, gRetV, gNext, gIsi, gIsE, gExpr, gChain, gRaise, gSeq, gFor, gForL, gSeqI, R.items, gSeqL, R.itemsL, gRevL, gRevI, fLtA, gForV, gSl, gPart, gNoPart, gRangeI, fRange1, fRange2, range_2, range_3, range_4, range_5, gLc, lcL, gYes, wipeS, Rn.noErr, Rn.noErrS, gTry, gTryW, plains, owns, fB, fIntB, fIx, fAdd, iSub, fInt, fIntC, fMul, fNeg, fIsN, fEqB, fTru, fLen, fTuple, fList, fTru, P.scal, P.seq, D.bool?, R.d, lift, Rn.bind, Rn.mapErr, Rn.bind_ite, Rn.mapErr_ite, tryW_ite, atI, ixN, Tg.set, tabS, Fl.map, outEx, S.noExn, m__law_begin, m__law_take, take_ok, D.ty?, tyB, cp1, cp2, cp3]⟩
      · exact ⟨10 ^ 60, by decide, by decide, by simp [startS, DL.gCons, DL.gNil, gC, gVar, gOp1, gOp2, gSet, gFn, gCall, DL.gTup, DL.gLst, gTB, gTru, gIf, gIfS, gOr, gAnd, gNot, gOrV, gAndV, gNotV, gRet, gRetV, gNext, gIsi, gIsE, gExpr, gChain, gRaise, gSeq, gFor, gForL, gSeqI, R.items, gSeqL, R.itemsL, gRevL, gRevI, fLtA, gForV, gSl, gPart, gNoPart, gRangeI, fRange1, fRange2, range_2, range_3, range_4, range_5, gLc, lcL, gYes, wipeS, Rn.noErr, Rn.noErrS, gTry, gTryW, plains, owns, fB, fIntB, fIx, fAdd, iSub, fInt, fIntC, fMul, fNeg, fIsN, fEqB, fTru, fLen, fTuple, fList, fTru, P.scal, P.seq, D.bool?, R.d, lift, Rn.bind, Rn.mapErr, Rn.bind_ite, Rn.mapErr_ite, tryW_ite, atI, ixN, Tg.set, tabS, Fl.map, outEx, S.noExn, m__law_begin, m__law_take, take_ok, D.ty?, tyB, cp1, cp2, cp3]⟩
    obtain ⟨m, hm1, hm2, st⟩ := st
    refine seq_ok st (w_ret ?_)
    refine frac_wp (k := 210) (by decide) (add_draw (m := m) hm1 (by omega) rfl fun i h2 h3 => ⟨1 + i, rfl, Z.of (by omega) (by omega), add_draw (m := m) hm1 (by omega) rfl fun j h4 h5 => ⟨1 + j, rfl, Z.of (by omega) (by omega), by omega, fun x y ex ey f => ⟨_, rfl, x, y, ?_, by have := f.pos; omega, f.zp, f.zq, rfl⟩⟩⟩)
    rw [ex]
    exact fN_pos (by omega) (by omega)

theorem eq_outR (n : Bool) (r : Option (Int × Int)) : fEqB n (.p (outR r)) (.p (outR r)) = .ok (!n) := by
  match r with
  | none => cases n <;> rfl
  | some (m, s) => exact eq_self n rfl rfl
theorem eq_two (n : Bool) (x y : Int) : fEqB n (.p (.tup [.int x, .int y])) (.p (.tup [.int x, .int y])) = .ok (!n) := eq_self n rfl rfl
theorem v_meaning {p q z c : Int} (zp : Z 210 p) (zq : Z 210 q) (hq : 0 < q) (zz : Z 13 z) (zc : Z 13 c) : m_meaning_of [.p (.tup [.tup [.int p, .int q], .int z]), .p (.int c)] = .ok (.p (.tup [.int (fN (p * (c - z)) q), .int (fD (p * (c - z)) q)])) ∧
    m__law_means [.p (.tup [.tup [.int p, .int q], .int z]), .p (.int c)] = .ok (.p (.tup [.int (fN (p * (c - z)) q), .int (fD (p * (c - z)) q)])) := by
  have zd : Z 14 (c - z) := zc.sub zz
  have vt := v_times (u := c - z) (v := 1) (zp.mono (by decide)) (zq.mono (by decide)) (zd.mono (by decide)) (Z.mono (j := 1) ⟨by decide⟩ (by decide)) (by omega)
  rw [Int.mul_one] at vt
  have c1 : CMulW p (c - z) := zp.cmul zd
  have vf := v_frac (n := p * (c - z)) hq zq (by decide)
  refine ⟨?_, ?_⟩
  · unfold m_meaning_of fnD g_meaning_of
    simp [startS, DL.gCons, DL.gNil, gC, gVar, gOp1, gOp2, gSet, gFn, gCall, DL.gTup, DL.gLst, gTB, gTru, gIf, gIfS, gOr, gAnd, gNot, gOrV, gAndV, gNotV, gRet, gRetV, gNext, gIsi, gIsE, gExpr, gChain, gRaise, gSeq, gFor, gForL, gSeqI, R.items, gSeqL, R.itemsL, gRevL, gRevI, fLtA, gForV, gSl, gPart, gNoPart, gRangeI, fRange1, fRange2, range_2, range_3, range_4, range_5, gLc, lcL, gYes, wipeS, Rn.noErr, Rn.noErrS, gTry, gTryW, plains, owns, fB, fIntB, fIx, fAdd, iSub, fInt, fIntC, fMul, fNeg, fIsN, fEqB, fTru, fLen, fTuple, fList, fTru, P.scal, P.seq, D.bool?, R.d, lift, Rn.bind, Rn.mapErr, Rn.bind_ite, Rn.mapErr_ite, tryW_ite, atI, ixN, Tg.set, tabS, Fl.map, outEx, S.noExn, m__law_begin, m__law_take, take_ok, D.ty?, tyB, vt]
  · unfold m__law_means fnD g__law_means
    simp [startS, DL.gCons, DL.gNil, gC, gVar, gOp1, gOp2, gSet, gFn, gCall, DL.gTup, DL.gLst, gTB, gTru, gIf, gIfS, gOr, gAnd, gNot, gOrV, gAndV, gNotV, gRet, gRetV, gNext, gIsi, gIsE, gExpr, gChain, gRaise, gSeq, gFor, gForL, gSeqI, R.items, gSeqL, R.itemsL, gRevL, gRevI, fLtA, gForV, gSl, gPart, gNoPart, gRangeI, fRange1, fRange2, range_2, range_3, range_4, range_5, gLc, lcL, gYes, wipeS, Rn.noErr, Rn.noErrS, gTry, gTryW, plains, owns, fB, fIntB, fIx, fAdd, iSub, fInt, fIntC, fMul, fNeg, fIsN, fEqB, fTru, fLen, fTuple, fList, fTru, P.scal, P.seq, D.bool?, R.d, lift, Rn.bind, Rn.mapErr, Rn.bind_ite, Rn.mapErr_ite, tryW_ite, atI, ixN, Tg.set, tabS, Fl.map, outEx, S.noExn, m__law_begin, m__law_take, take_ok, D.ty?, tyB, vf, c1]
theorem v_gap {x y m d : Int} (zx : Z 40 x) (zy : Z 40 y) (hy : 0 < y) (zm : Z 300 m) (zd : Z 300 d) (hd : 0 < d) : ∃ g0 g1 : Int, 0 < g1 ∧ g0 * (y * d) = (x * d + (0 - m) * y) * g1 ∧ Z 500 g0 ∧ Z 500 g1 ∧
    m__law_gap [.p (.tup [.int x, .int y]), .p (.tup [.int m, .int d])] = .ok (.p (.tup [.int (if g0 < 0 then -g0 else g0), .int g1])) := by
  have c1 : CMulW x d := zx.cmul zd
  have zm' : Z 300 (0 - m) := by
    have := zm.neg
    rwa [show -m = 0 - m by omega] at this
  have c2 : CMulW (0 - m) y := zm'.cmul zy
  have c3 : CMulW y d := zy.cmul zd
  have hyd : 0 < y * d := Int.mul_pos hy hd
  have zn : Z 500 (x * d + (0 - m) * y) := Z.mono (Z.add (k := 340) ((zx.mul zd).mono (by decide)) ((zm'.mul zy).mono (by decide))) (by decide)
  have zyd : Z 500 (y * d) := (zy.mul zd).mono (by decide)
  obtain ⟨f, e⟩ := fr_ok (show y * d ≠ 0 by omega) zn zyd
  have vf := v_frac (n := x * d + (0 - m) * y) hyd zyd (by decide)
  refine ⟨_, _, by have := f.pos; omega, e, f.zp, f.zq, ?_⟩
  have vs : m__law_sum [.p (.tup [.int x, .int y]), .p (.tup [.int (0 - m), .int d])] = .ok (.p (.tup [.int (fN (x * d + (0 - m) * y) (y * d)), .int (fD (x * d + (0 - m) * y) (y * d))])) := by
    unfold m__law_sum fnD g__law_sum
    generalize 0 - m = m' at *
    simp [startS, DL.gCons, DL.gNil, gC, gVar, gOp1, gOp2, gSet, gFn, gCall, DL.gTup, DL.gLst, gTB, gTru, gIf, gIfS, gOr, gAnd, gNot, gOrV, gAndV, gNotV, gRet, gRetV, gNext, gIsi, gIsE, gExpr, gChain, gRaise, gSeq, gFor, gForL, gSeqI, R.items, gSeqL, R.itemsL, gRevL, gRevI, fLtA, gForV, gSl, gPart, gNoPart, gRangeI, fRange1, fRange2, range_2, range_3, range_4, range_5, gLc, lcL, gYes, wipeS, Rn.noErr, Rn.noErrS, gTry, gTryW, plains, owns, fB, fIntB, fIx, fAdd, iSub, fInt, fIntC, fMul, fNeg, fIsN, fEqB, fTru, fLen, fTuple, fList, fTru, P.scal, P.seq, D.bool?, R.d, lift, Rn.bind, Rn.mapErr, Rn.bind_ite, Rn.mapErr_ite, tryW_ite, atI, ixN, Tg.set, tabS, Fl.map, outEx, S.noExn, m__law_begin, m__law_take, take_ok, D.ty?, tyB, c1, c2, c3, vf]
  unfold m__law_gap fnD g__law_gap
  generalize hm' : 0 - m = m' at *
  simp [startS, DL.gCons, DL.gNil, gC, gVar, gOp1, gOp2, gSet, gFn, gCall, DL.gTup, DL.gLst, gTB, gTru, gIf, gIfS, gOr, gAnd, gNot, gOrV, gAndV, gNotV, gRet, gRetV, gNext, gIsi, gIsE, gExpr, gChain, gRaise, gSeq, gFor, gForL, gSeqI, R.items, gSeqL, R.itemsL, gRevL, gRevI, fLtA, gForV, gSl, gPart, gNoPart, gRangeI, fRange1, fRange2, range_2, range_3, range_4, range_5, gLc, lcL, gYes, wipeS, Rn.noErr, Rn.noErrS, gTry, gTryW, plains, owns, fB, fIntB, fIx, fAdd, iSub, fInt, fIntC, fMul, fNeg, fIsN, fEqB, fTru, fLen, fTuple, fList, fTru, P.scal, P.seq, D.bool?, R.d, lift, Rn.bind, Rn.mapErr, Rn.bind_ite, Rn.mapErr_ite, tryW_ite, atI, ixN, Tg.set, tabS, Fl.map, outEx, S.noExn, m__law_begin, m__law_take, take_ok, D.ty?, tyB, hm', vs, fAbs]
theorem v_lawover {p q x y : Int} (zp : Z 210 p) (zq : Z 210 q) (hp : 0 < p) (hq : 0 < q) (zx : Z 40 x) (zy : Z 40 y) (hy : 0 < y) : ∃ u v : Int, m__law_over [.p (.tup [.int x, .int y]), .p (.tup [.int p, .int q])] = .ok (.p (.tup [.int u, .int v])) ∧ m__law_near [.p (.tup [.int u, .int v])] = .ok (.p (.int (near (x * q) (y * p)))) := by
  have hd0 : 0 < y * p := Int.mul_pos hy hp
  have zn : Z 250 (x * q) := zx.mul zq
  have zd : Z 250 (y * p) := zy.mul zp
  have c1 : CMulW x q := zx.cmul zq
  have c2 : CMulW y p := zy.cmul zp
  obtain ⟨f, _⟩ := fr_ok (show y * p ≠ 0 by omega) zn zd
  have vn := v_nearest f.zp f.zq (by have := f.pos; omega) (by decide)
  rw [fr_val hd0 zn zd] at vn
  have vf := v_frac (n := x * q) hd0 zd (by decide)
  refine ⟨_, _, ?_, vn⟩
  unfold m__law_over fnD g__law_over
  simp [startS, DL.gCons, DL.gNil, gC, gVar, gOp1, gOp2, gSet, gFn, gCall, DL.gTup, DL.gLst, gTB, gTru, gIf, gIfS, gOr, gAnd, gNot, gOrV, gAndV, gNotV, gRet, gRetV, gNext, gIsi, gIsE, gExpr, gChain, gRaise, gSeq, gFor, gForL, gSeqI, R.items, gSeqL, R.itemsL, gRevL, gRevI, fLtA, gForV, gSl, gPart, gNoPart, gRangeI, fRange1, fRange2, range_2, range_3, range_4, range_5, gLc, lcL, gYes, wipeS, Rn.noErr, Rn.noErrS, gTry, gTryW, plains, owns, fB, fIntB, fIx, fAdd, iSub, fInt, fIntC, fMul, fNeg, fIsN, fEqB, fTru, fLen, fTuple, fList, fTru, P.scal, P.seq, D.bool?, R.d, lift, Rn.bind, Rn.mapErr, Rn.bind_ite, Rn.mapErr_ite, tryW_ite, atI, ixN, Tg.set, tabS, Fl.map, outEx, S.noExn, m__law_begin, m__law_take, take_ok, D.ty?, tyB, c1, c2, vf]
theorem mx_z {h w : Int} (h1 : 4 ≤ h) (h2 : h ≤ 2048) : Z 13 (mx (0 - h) (mn (h - 1) w)) := by
  unfold mx mn
  refine Z.of ?_ ?_
  · split <;> split <;> omega
  · split <;> split <;> omega
def preL (ns : List Int) (s2 s3 s4 : S) : Sl := [.bor none (.scr ns), .own .orc, s2, s3, s4, .no, .no, .no, .no, .no, .no, .no, .no]
def turn1 : GS := gSeq (gSet 3 (gFn 1 m__law_drawn (DL.gCons (gVar 1) DL.gNil)))
  (gSeq (gSet 4 (gFn 1 m__law_told (DL.gCons (gVar 3) DL.gNil)))
  (gSeq (gIfS (gTB (gOp2 (fB (fEqB true)) (gVar 4) (gFn 1 m__law_multiplier (DL.gCons (gVar 3) DL.gNil)))) (gRet (gC (.bl false))) gNext)
  (gIfS (gAnd (gTB (gOp2 (fB (fIsN true)) (gVar 4) (gC .non))) (gOr (gNot (gTru (gIsi "tuple" (gVar 4)))) (gOr (gNot (gTru (gFn 1 m__law_int (DL.gCons (gOp2 fIx (gVar 4) (gC (.int 0))) DL.gNil)))) (gNot (gTru (gFn 1 m__law_int (DL.gCons (gOp2 fIx (gVar 4) (gC (.int 1))) DL.gNil))))))) (gRet (gC (.bl false))) gNext)))
theorem v_turn1 (ns : List Int) (s2 s3 s4 : S) (Q : Fl → Prop) : Wp (turn1 (preL ns s2 s3 s4)) (Tn (fun δ => ∃ s3 s4, δ = preL ns s2 s3 s4) Q) (fun _ _ => False) := by
  unfold turn1 preL
  generalize hK : Tn (fun δ => ∃ s3 s4, δ = [.bor none (.scr ns), .own .orc, s2, s3, s4, .no, .no, .no, .no, .no, .no, .no, .no]) Q = K
  have hk : ∀ s3 s4, K (.nx [.bor none (.scr ns), .own .orc, s2, s3, s4, .no, .no, .no, .no, .no, .no, .no, .no]) := fun s3 s4 => by rw [← hK]; exact ⟨s3, s4, rfl⟩
  clear hK
  refine seq_wp (fun δ => ∃ p q : Int, 0 < p ∧ 0 < q ∧ Z 210 p ∧ Z 210 q ∧ δ = [.bor none (.scr ns), .own .orc, s2, .own (.p (.tup [.int p, .int q])), s4, .no, .no, .no, .no, .no, .no, .no, .no]) ?_ ?_
  · refine set_fn (rs := [.vw .orc]) rfl rfl v_drawn ?_
    rintro d ⟨p, q, h1, h2, h3, h4, rfl⟩
    exact ⟨p, q, h1, h2, h3, h4, rfl⟩
  rintro _ ⟨p, q, hp, hq, zp, zq, rfl⟩
  have vt := v_told zp zq hq
  have vm := v_lawmult zp zq hq
  generalize res p q 30 = r at *
  refine seq_ok (set_eq (fn_val (rs := [.own (.p (.tup [.int p, .int q]))]) rfl rfl vt)) ?_
  refine seq_ok (if_eqF (tb_eq (op2_eq (x := .own (.p (outR r))) rfl (fn_val (rs := [.own (.p (.tup [.int p, .int q]))]) rfl rfl vm) (fB_eq (eq_outR true r)))) rfl) ?_
  refine w_of (if_eqF ?_ rfl) (hk _ _)
  match r with
  | none => exact and_eqF rfl
  | some (m, s) => rfl

def turn2 : GS := (gSeq (gSet 9 (gFn 2 m__law_frac (DL.gCons (gFn 2 m__law_signed (DL.gCons (gVar 1) (DL.gCons (gOp2 fIx (DL.gTup (DL.gCons (gC (.int 9)) (DL.gCons (gOp2 (fIntC CPow fun i j => i ^ j.toNat) (gC (.int 10)) (gC (.int 4))) (DL.gCons (gOp2 (fIntC CPow fun i j => i ^ j.toNat) (gC (.int 10)) (gC (.int 9))) DL.gNil)))) (gFn 2 m__law_take (DL.gCons (gVar 1) (DL.gCons (gC (.int 3)) DL.gNil)))) DL.gNil))) (DL.gCons (gOp2 fAdd (gC (.int 1)) (gFn 2 m__law_take (DL.gCons (gVar 1) (DL.gCons (gC (.int 5)) DL.gNil)))) DL.gNil))))
  (gSeq (gSet 10 (gOp2 fAdd (gFn 1 m__law_near (DL.gCons (gFn 2 m__law_over (DL.gCons (gVar 9) (DL.gCons (gOp2 fIx (gVar 8) (gC (.int 0))) DL.gNil))) DL.gNil)) (gOp2 fIx (gVar 8) (gC (.int 1)))))
  (gSeq (gSet 11 (gFn 3 m__law_coded (DL.gCons (gVar 8) (DL.gCons (gVar 5) (DL.gCons (gVar 9) DL.gNil)))))
  (gSeq (gIfS (gOr (gNot (gTru (gFn 1 m__law_int (DL.gCons (gVar 11) DL.gNil)))) (gTB (gOp2 (fB (fEqB true)) (gVar 11) (gCall fMaxL (DL.gCons (gVar 6) (DL.gCons (gCall fMinL (DL.gCons (gVar 7) (DL.gCons (gVar 10) DL.gNil))) DL.gNil)))))) (gRet (gC (.bl false))) gNext)
  (gSeq (gIfS (gTB (gOp2 (fB (fEqB true)) (gFn 2 m_meaning_of (DL.gCons (gVar 8) (DL.gCons (gVar 11) DL.gNil))) (gFn 2 m__law_means (DL.gCons (gVar 8) (DL.gCons (gVar 11) DL.gNil))))) (gRet (gC (.bl false))) gNext)
  (gIfS (gTB (gOp2 (fB (fEqB false)) (gVar 11) (gVar 10))) (gSeq (gSet 12 (gFn 2 m__law_gap (DL.gCons (gVar 9) (DL.gCons (gFn 2 m__law_means (DL.gCons (gVar 8) (DL.gCons (gVar 11) DL.gNil))) DL.gNil))))
  (gIfS (gTB (gOp2 (fB fGt) (gOp2 fMul (gOp2 fMul (gC (.int 2)) (gOp2 fIx (gVar 12) (gC (.int 0)))) (gOp2 fIx (gOp2 fIx (gVar 8) (gC (.int 0))) (gC (.int 1)))) (gOp2 fMul (gOp2 fIx (gOp2 fIx (gVar 8) (gC (.int 0))) (gC (.int 0))) (gOp2 fIx (gVar 12) (gC (.int 1)))))) (gRet (gC (.bl false))) gNext)) gNext))))))
def post (ns : List Int) (p q z b h : Int) (s2 s3 s4 s9 s10 s11 s12 : S) : Sl := [.bor none (.scr ns), .own .orc, s2, s3, s4, .own (.p (.int b)), .own (.p (.int (0 - h))), .own (.p (.int (h - 1))), .own (.p (.tup [.tup [.int p, .int q], .int z])), s9, s10, s11, s12]
theorem v_turn2 (ns : List Int) (p q z b h : Int) (s2 s3 s4 s9 s10 s11 s12 : S) (Q : Fl → Prop) (hp : 0 < p) (hq : 0 < q) (zp : Z 210 p) (zq : Z 210 q) (zz : Z 13 z) (hb1 : 3 ≤ b) (hb2 : b ≤ 12) (h1 : 4 ≤ h) (h2 : h ≤ 2048)
    (e1 : m_least_code [.p (.int b)] = .ok (.p (.int (0 - h)))) (e2 : m_greatest_code [.p (.int b)] = .ok (.p (.int (h - 1)))) :
    Wp (turn2 (post ns p q z b h s2 s3 s4 s9 s10 s11 s12)) (Tn (fun δ => ∃ s9 s10 s11 s12, δ = post ns p q z b h s2 s3 s4 s9 s10 s11 s12) Q) (fun _ _ => False) := by
  unfold turn2 post
  generalize hK : Tn (fun δ => ∃ s9 s10 s11 s12, δ = [.bor none (.scr ns), .own .orc, s2, s3, s4, .own (.p (.int b)), .own (.p (.int (0 - h))), .own (.p (.int (h - 1))), .own (.p (.tup [.tup [.int p, .int q], .int z])), s9, s10, s11, s12]) Q = K
  have hk : ∀ s9 s10 s11 s12, K (.nx [.bor none (.scr ns), .own .orc, s2, s3, s4, .own (.p (.int b)), .own (.p (.int (0 - h))), .own (.p (.int (h - 1))), .own (.p (.tup [.tup [.int p, .int q], .int z])), s9, s10, s11, s12]) := fun s9 s10 s11 s12 => by rw [← hK]; exact ⟨s9, s10, s11, s12, rfl⟩
  clear hK
  refine seq_wp (fun δ => ∃ x y : Int, 0 < y ∧ Z 40 x ∧ Z 40 y ∧ δ = [.bor none (.scr ns), .own .orc, s2, s3, s4, .own (.p (.int b)), .own (.p (.int (0 - h))), .own (.p (.int (h - 1))), .own (.p (.tup [.tup [.int p, .int q], .int z])), .own (.p (.tup [.int x, .int y])), s10, s11, s12]) ?_ ?_
  · refine w_set (frac_wp (k := 40) (by decide) ?_)
    refine w_fnW (w_cons (w_of (v := .vw .orc) rfl (w_cons (w_op2 ?_))))
    have cp1 : CPow 10 4 := by decide
    have cp2 : CPow 10 9 := by decide
    refine w_of (v := .own (.p (.tup [.int 9, .int (10 ^ 4), .int (10 ^ 9)]))) (by simp [startS, DL.gCons, DL.gNil, gC, gVar, gOp1, gOp2, gSet, gFn, gCall, DL.gTup, DL.gLst, gTB, gTru, gIf, gIfS, gOr, gAnd, gNot, gOrV, gAndV, gNotV, gRet, gRetV, gNext, gIsi, gIsE, gExpr, gChain, gRaise, gSeq, gFor, gForL, gSeqI, R.items, gSeqL, R.itemsL, gRevL, gRevI, fLtA, gForV, gSl, gPart, gNoPart, gRangeI, fRange1, fRange2, range_2, range_3, range_4, range_5, gLc, lcL, gYes, wipeS, Rn.noErr, Rn.noErrS, gTry, gTryW, plains, owns, fB, fIntB, fIx, fAdd, iSub, fInt, fIntC, fMul, fNeg, fIsN, fEqB, fTru, fLen, fTuple, fList, fTru, P.scal, P.seq, D.bool?, R.d, lift, Rn.bind, Rn.mapErr, Rn.bind_ite, Rn.mapErr_ite, tryW_ite, atI, ixN, Tg.set, tabS, Fl.map, outEx, S.noExn, m__law_begin, m__law_take, take_ok, D.ty?, tyB, cp1, cp2]) ?_
    refine draw_eq (n := 3) (by decide) (by omega) rfl fun i i0 i1 => ?_
    have st : ∃ m : Int, 0 < m ∧ m ≤ 10 ^ 9 ∧ fIx (.p (.tup [.int 9, .int (10 ^ 4), .int (10 ^ 9)])) (.p (.int i)) = .ok (.own (.p (.int m))) := by
      rcases (by omega : i = 0 ∨ i = 1 ∨ i = 2) with rfl | rfl | rfl
      · exact ⟨9, by decide, by decide, rfl⟩
      · exact ⟨10 ^ 4, by decide, by decide, rfl⟩
      · exact ⟨10 ^ 9, by decide, by decide, rfl⟩
    obtain ⟨m, m0, m1, st⟩ := st
    refine w_of st (w_of (v := []) rfl ⟨rfl, ?_⟩)
    refine wp_imp (signed_wp m (by omega) (by omega)) ?_ fun _ _ z => z
    rintro d ⟨s, s0, s1, rfl⟩
    refine ⟨s, rfl, Z.of (by omega) (by omega), add_draw (m := 5) (by decide) (by omega) rfl fun j j0 j1 => ⟨1 + j, rfl, Z.of (by omega) (by omega), by omega, fun x y ex ey f => ⟨_, rfl, x, y, by have := f.pos; omega, f.zp, f.zq, rfl⟩⟩⟩
  rintro _ ⟨x, y, hy, zx, zy, rfl⟩
  obtain ⟨u, v, o1, o2⟩ := v_lawover zp zq hp hq zx zy hy
  have vc := v_coded (z := z) zp zq hp hq zx zy hy hb1 hb2 h e1 e2
  generalize hr : near (x * q) (y * p) = r at *
  refine seq_ok (δ' := [.bor none (.scr ns), .own .orc, s2, s3, s4, .own (.p (.int b)), .own (.p (.int (0 - h))), .own (.p (.int (h - 1))), .own (.p (.tup [.tup [.int p, .int q], .int z])), .own (.p (.tup [.int x, .int y])), .own (.p (.int (r + z))), s11, s12]) (by simp [startS, DL.gCons, DL.gNil, gC, gVar, gOp1, gOp2, gSet, gFn, gCall, DL.gTup, DL.gLst, gTB, gTru, gIf, gIfS, gOr, gAnd, gNot, gOrV, gAndV, gNotV, gRet, gRetV, gNext, gIsi, gIsE, gExpr, gChain, gRaise, gSeq, gFor, gForL, gSeqI, R.items, gSeqL, R.itemsL, gRevL, gRevI, fLtA, gForV, gSl, gPart, gNoPart, gRangeI, fRange1, fRange2, range_2, range_3, range_4, range_5, gLc, lcL, gYes, wipeS, Rn.noErr, Rn.noErrS, gTry, gTryW, plains, owns, fB, fIntB, fIx, fAdd, iSub, fInt, fIntC, fMul, fNeg, fIsN, fEqB, fTru, fLen, fTuple, fList, fTru, P.scal, P.seq, D.bool?, R.d, lift, Rn.bind, Rn.mapErr, Rn.bind_ite, Rn.mapErr_ite, tryW_ite, atI, ixN, Tg.set, tabS, Fl.map, outEx, S.noExn, m__law_begin, m__law_take, take_ok, D.ty?, tyB, o1, o2]) ?_
  have zc : Z 13 (mx (0 - h) (mn (h - 1) (r + z))) := mx_z h1 h2
  generalize hc : mx (0 - h) (mn (h - 1) (r + z)) = c at *
  refine seq_ok (δ' := [.bor none (.scr ns), .own .orc, s2, s3, s4, .own (.p (.int b)), .own (.p (.int (0 - h))), .own (.p (.int (h - 1))), .own (.p (.tup [.tup [.int p, .int q], .int z])), .own (.p (.tup [.int x, .int y])), .own (.p (.int (r + z))), .own (.p (.int c)), s12]) (by simp [startS, DL.gCons, DL.gNil, gC, gVar, gOp1, gOp2, gSet, gFn, gCall, DL.gTup, DL.gLst, gTB, gTru, gIf, gIfS, gOr, gAnd, gNot, gOrV, gAndV, gNotV, gRet, gRetV, gNext, gIsi, gIsE, gExpr, gChain, gRaise, gSeq, gFor, gForL, gSeqI, R.items, gSeqL, R.itemsL, gRevL, gRevI, fLtA, gForV, gSl, gPart, gNoPart, gRangeI, fRange1, fRange2, range_2, range_3, range_4, range_5, gLc, lcL, gYes, wipeS, Rn.noErr, Rn.noErrS, gTry, gTryW, plains, owns, fB, fIntB, fIx, fAdd, iSub, fInt, fIntC, fMul, fNeg, fIsN, fEqB, fTru, fLen, fTuple, fList, fTru, P.scal, P.seq, D.bool?, R.d, lift, Rn.bind, Rn.mapErr, Rn.bind_ite, Rn.mapErr_ite, tryW_ite, atI, ixN, Tg.set, tabS, Fl.map, outEx, S.noExn, m__law_begin, m__law_take, take_ok, D.ty?, tyB, vc]) ?_
  have vi := v_int c
  have hmx : gCall fMaxL (DL.gCons (gVar 6) (DL.gCons (gCall fMinL (DL.gCons (gVar 7) (DL.gCons (gVar 10) DL.gNil))) DL.gNil)) [.bor none (.scr ns), .own .orc, s2, s3, s4, .own (.p (.int b)), .own (.p (.int (0 - h))), .own (.p (.int (h - 1))), .own (.p (.tup [.tup [.int p, .int q], .int z])), .own (.p (.tup [.int x, .int y])), .own (.p (.int (r + z))), .own (.p (.int c)), s12] = .ok (.own (.p (.int c))) := by
    rw [← hc]
    rfl
  have nes : fB (fEqB true) (.p (.int c)) (.p (.int c)) = .ok (.own (.p (.bl false))) := by
    rw [ne_ints]
    simp
  have args : ∀ s12, DL.gCons (gVar 8) (DL.gCons (gVar 11) DL.gNil) [.bor none (.scr ns), .own .orc, s2, s3, s4, .own (.p (.int b)), .own (.p (.int (0 - h))), .own (.p (.int (h - 1))), .own (.p (.tup [.tup [.int p, .int q], .int z])), .own (.p (.tup [.int x, .int y])), .own (.p (.int (r + z))), .own (.p (.int c)), s12] = .ok [.own (.p (.tup [.tup [.int p, .int q], .int z])), .own (.p (.int c))] := fun s12 => rfl
  obtain ⟨m1, m2⟩ := v_meaning zp zq hq zz zc
  have zd : Z 14 (c - z) := zc.sub zz
  obtain ⟨fm, xm⟩ := fr_ok (n := p * (c - z)) (k := 224) (show q ≠ 0 by omega) (zp.mul zd) (zq.mono (by decide))
  generalize fN (p * (c - z)) q = mn at *
  generalize fD (p * (c - z)) q = md at *
  refine seq_ok (if_eqF (or_eqF (not_eq (k := true) (tru_eq (fn_val (rs := [.own (.p (.int c))]) rfl rfl vi))) (tb_eq (op2_eq (x := .own (.p (.int c))) rfl hmx nes))) rfl) ?_
  refine seq_ok (if_eqF (tb_eq (op2_eq (fn_val (args _) rfl m1) (fn_val (args _) rfl m2) (fB_eq (eq_two true mn md)))) rfl) ?_
  by_cases hw : c = r + z
  · obtain ⟨g0, g1, hg1, hg, zg0, zg1, vg⟩ := v_gap zx zy hy (fm.zp.mono (by decide)) (fm.zq.mono (by decide)) (show 0 < md by have := fm.pos; omega)
    have hcz : c - z = r := by omega
    rw [hcz] at xm
    have gl := gap_le hp hq hy (show 0 < md by have := fm.pos; omega) hg1 hr.symm xm hg
    have zab : Z 500 (if g0 < 0 then -g0 else g0) := by
      split
      · exact zg0.neg
      · exact zg0
    generalize (if g0 < 0 then -g0 else g0) = ga at *
    have k1 : CMulW 2 ga := c2 zab (by decide)
    have k2 : CMulW (2 * ga) q := (z2 zab).cmul zq
    have k3 : CMulW p g1 := zp.cmul zg1
    have ng : ¬ p * g1 < 2 * ga * q := by omega
    refine w_of (if_eqT (tb_eq (op2_eq (x := .own (.p (.int c))) (y := .own (.p (.int (r + z)))) rfl rfl (by
      show fB (fEqB false) (.p (.int c)) (.p (.int (r + z))) = _
      rw [eq_ints, hw]
      simp))) ?_) (hk (.own (.p (.tup [.int x, .int y]))) (.own (.p (.int (r + z)))) (.own (.p (.int c))) (.own (.p (.tup [.int ga, .int g1]))))
    refine seq_eq (set_eq (fn_val (rs := [.own (.p (.tup [.int x, .int y])), .own (.p (.tup [.int mn, .int md]))]) (cons_eq rfl (cons_eq (fn_val (args _) rfl m2) rfl)) rfl vg)) ?_
    simp [startS, DL.gCons, DL.gNil, gC, gVar, gOp1, gOp2, gSet, gFn, gCall, DL.gTup, DL.gLst, gTB, gTru, gIf, gIfS, gOr, gAnd, gNot, gOrV, gAndV, gNotV, gRet, gRetV, gNext, gIsi, gIsE, gExpr, gChain, gRaise, gSeq, gFor, gForL, gSeqI, R.items, gSeqL, R.itemsL, gRevL, gRevI, fLtA, gForV, gSl, gPart, gNoPart, gRangeI, fRange1, fRange2, range_2, range_3, range_4, range_5, gLc, lcL, gYes, wipeS, Rn.noErr, Rn.noErrS, gTry, gTryW, plains, owns, fB, fIntB, fIx, fAdd, iSub, fInt, fIntC, fMul, fNeg, fIsN, fEqB, fTru, fLen, fTuple, fList, fTru, P.scal, P.seq, D.bool?, R.d, lift, Rn.bind, Rn.mapErr, Rn.bind_ite, Rn.mapErr_ite, tryW_ite, atI, ixN, Tg.set, tabS, Fl.map, outEx, S.noExn, m__law_begin, m__law_take, take_ok, D.ty?, tyB, k1, k2, k3, ng, fGt]
  · refine w_of (if_eqF (tb_eq (op2_eq (x := .own (.p (.int c))) (y := .own (.p (.int (r + z)))) rfl rfl (by
      show fB (fEqB false) (.p (.int c)) (.p (.int (r + z))) = _
      rw [eq_ints, decide_eq_false hw]))) rfl) (hk (.own (.p (.tup [.int x, .int y]))) (.own (.p (.int (r + z)))) (.own (.p (.int c))) s12)
theorem m_law_wp (ns : List Int) (h : ns.length ≤ 63) : Wp (m_law [.scr ns]) (fun d => d = .p (.bl true)) fun _ _ => False := by
  have hb := begin_ok h
  refine fn_wp ?_
  unfold g_law
  refine seq_ok (δ' := preL ns .no .no .no) (by unfold preL; simp [startS, DL.gCons, DL.gNil, gC, gVar, gOp1, gOp2, gSet, gFn, gCall, DL.gTup, DL.gLst, gTB, gTru, gIf, gIfS, gOr, gAnd, gNot, gOrV, gAndV, gNotV, gRet, gRetV, gNext, gIsi, gIsE, gExpr, gChain, gRaise, gSeq, gFor, gForL, gSeqI, R.items, gSeqL, R.itemsL, gRevL, gRevI, fLtA, gForV, gSl, gPart, gNoPart, gRangeI, fRange1, fRange2, range_2, range_3, range_4, range_5, gLc, lcL, gYes, wipeS, Rn.noErr, Rn.noErrS, gTry, gTryW, plains, owns, fB, fIntB, fIx, fAdd, iSub, fInt, fIntC, fMul, fNeg, fIsN, fEqB, fTru, fLen, fTuple, fList, fTru, P.scal, P.seq, D.bool?, R.d, lift, Rn.bind, Rn.mapErr, Rn.bind_ite, Rn.mapErr_ite, tryW_ite, atI, ixN, Tg.set, tabS, Fl.map, outEx, S.noExn, m__law_begin, m__law_take, take_ok, D.ty?, tyB, hb]) ?_
  refine seq_wp (fun δ => ∃ s2 s3 s4, δ = preL ns s2 s3 s4) ?_ ?_
  · refine for_wp (xs := rangeP 0 4) (gRange_ok (rs := [.own (.p (.int 4))]) rfl (range1_ok (by decide) (by decide))) ?_
    refine forL_inv (g := turn1) (fun l δ => ∃ s2 s3 s4, δ = preL ns s2 s3 s4) ?_ ?_ _ _ ⟨_, _, _, rfl⟩
    · rintro x l _ ⟨s2, s3, s4, rfl⟩
      refine ⟨preL ns (.own (.p x)) s3 s4, rfl, ?_⟩
      refine wp_imp (v_turn1 ns (.own (.p x)) s3 s4 (Nx (fun δ => ∃ s2 s3 s4, δ = preL ns s2 s3 s4) (Fn.out fun d => d = .p (.bl true)))) ?_ fun _ _ z => z
      intro fl hfl
      cases fl with
      | nx δ => obtain ⟨s3, s4, e⟩ := hfl; exact ⟨_, s3, s4, e⟩
      | ct δ => obtain ⟨s3, s4, e⟩ := hfl; exact ⟨_, s3, s4, e⟩
      | bk δ => exact hfl
      | ret d => exact hfl
    · rintro _ ⟨s2, s3, s4, rfl⟩
      exact ⟨_, _, _, rfl⟩
  rintro _ ⟨s2, s3, s4, rfl⟩
  refine seq_wp (fun δ => ∃ b : Int, 3 ≤ b ∧ b ≤ 12 ∧ δ = [.bor none (.scr ns), .own .orc, s2, s3, s4, .own (.p (.int b)), .no, .no, .no, .no, .no, .no, .no]) ?_ ?_
  · refine w_set (add_draw (m := 10) (by decide) (by omega) rfl fun i i0 i1 => ⟨_, rfl, 3 + i, by omega, by omega, rfl⟩)
  rintro _ ⟨b, hb1, hb2, rfl⟩
  obtain ⟨hh, h1, h2, e0, e1, e2⟩ := v_ends b hb1 hb2
  refine seq_ok (δ' := [.bor none (.scr ns), .own .orc, s2, s3, s4, .own (.p (.int b)), .own (.p (.int (0 - hh))), .own (.p (.int (hh - 1))), .no, .no, .no, .no, .no]) ?_ ?_
  · have e3 : gFn 1 m__law_ends (DL.gCons (gVar 5) DL.gNil) [.bor none (.scr ns), .own .orc, s2, s3, s4, .own (.p (.int b)), .no, .no, .no, .no, .no, .no, .no] = .ok (.own (.p (.tup [.int (0 - hh), .int (hh - 1)]))) := fn_val (rs := [.own (.p (.int b))]) rfl rfl e0
    unfold gUnpT lift
    rw [e3]
    rfl
  refine seq_wp (fun δ => ∃ p q z : Int, 0 < p ∧ 0 < q ∧ Z 210 p ∧ Z 210 q ∧ Z 13 z ∧ δ = post ns p q z b hh s2 s3 s4 .no .no .no .no) ?_ ?_
  · refine w_set ?_
    unfold DL.gTup
    refine wp_bind.mpr (w_cons (w_fn (rs := [.vw .orc]) rfl rfl (wp_imp v_drawn ?_ fun _ _ z => z)))
    rintro d ⟨p, q, hp, hq, zp, zq, rfl⟩
    refine w_cons (w_op2 (w_of (v := .own (.p (.int (0 - hh)))) rfl (draw_eq (n := hh - 1 - (0 - hh) + 1) (by omega) (by omega) rfl fun i i0 i1 => ?_)))
    refine w_of (v := .own (.p (.int (0 - hh + i)))) rfl (w_of (v := []) rfl (w_of (v := .own (.p (.tup [.tup [.int p, .int q], .int (0 - hh + i)]))) rfl ⟨_, rfl, p, q, 0 - hh + i, hp, hq, zp, zq, Z.of (by omega) (by omega), rfl⟩))
  rintro _ ⟨p, q, z, hp, hq, zp, zq, zz, rfl⟩
  refine seq_wp (fun δ => ∃ s2 s9 s10 s11 s12, δ = post ns p q z b hh s2 s3 s4 s9 s10 s11 s12) ?_ ?_
  · refine for_wp (xs := rangeP 0 4) (gRange_ok (rs := [.own (.p (.int 4))]) rfl (range1_ok (by decide) (by decide))) ?_
    refine forL_inv (g := turn2) (fun l δ => ∃ s2 s9 s10 s11 s12, δ = post ns p q z b hh s2 s3 s4 s9 s10 s11 s12) ?_ ?_ _ _ ⟨_, _, _, _, _, rfl⟩
    · rintro x l _ ⟨s2, s9, s10, s11, s12, rfl⟩
      refine ⟨post ns p q z b hh (.own (.p x)) s3 s4 s9 s10 s11 s12, rfl, ?_⟩
      refine wp_imp (v_turn2 ns p q z b hh (.own (.p x)) s3 s4 s9 s10 s11 s12 (Nx (fun δ => ∃ s2 s9 s10 s11 s12, δ = post ns p q z b hh s2 s3 s4 s9 s10 s11 s12) (Fn.out fun d => d = .p (.bl true))) hp hq zp zq zz hb1 hb2 h1 h2 e1 e2) ?_ fun _ _ z => z
      intro fl hfl
      cases fl with
      | nx δ => obtain ⟨s9, s10, s11, s12, e⟩ := hfl; exact ⟨_, s9, s10, s11, s12, e⟩
      | ct δ => obtain ⟨s9, s10, s11, s12, e⟩ := hfl; exact ⟨_, s9, s10, s11, s12, e⟩
      | bk δ => exact hfl
      | ret d => exact hfl
    · rintro _ ⟨s2, s9, s10, s11, s12, rfl⟩
      exact ⟨_, _, _, _, _, rfl⟩
  rintro _ ⟨s2, s9, s10, s11, s12, rfl⟩
  have x1 := v_codedE (x := .tup [.tup [.int p, .int q], .int z]) (y := .tup [.int 1, .int 1]) (b := 2) (.inl rfl)
  have x2 := v_codedE (x := .tup [.tup [.int p, .int q], .int z]) (y := .tup [.int 1, .int 1]) (b := 13) (.inr rfl)
  refine w_of (v := Fl.ret (.p (.bl true))) ?_ (show D.p (P.bl true) = D.p (P.bl true) from rfl)
  unfold post
  simp [startS, DL.gCons, DL.gNil, gC, gVar, gOp1, gOp2, gSet, gFn, gCall, DL.gTup, DL.gLst, gTB, gTru, gIf, gIfS, gOr, gAnd, gNot, gOrV, gAndV, gNotV, gRet, gRetV, gNext, gIsi, gIsE, gExpr, gChain, gRaise, gSeq, gFor, gForL, gSeqI, R.items, gSeqL, R.itemsL, gRevL, gRevI, fLtA, gForV, gSl, gPart, gNoPart, gRangeI, fRange1, fRange2, range_2, range_3, range_4, range_5, gLc, lcL, gYes, wipeS, Rn.noErr, Rn.noErrS, gTry, gTryW, plains, owns, fB, fIntB, fIx, fAdd, iSub, fInt, fIntC, fMul, fNeg, fIsN, fEqB, fTru, fLen, fTuple, fList, fTru, P.scal, P.seq, D.bool?, R.d, lift, Rn.bind, Rn.mapErr, Rn.bind_ite, Rn.mapErr_ite, tryW_ite, atI, ixN, Tg.set, tabS, Fl.map, outEx, S.noExn, m__law_begin, m__law_take, take_ok, D.ty?, tyB, x1, x2]
theorem m_law_ok : ∀ ns : List Int, ns.length ≤ 63 → (m_law [.scr ns]).wp (fun d => d = .p (.bl true)) fun _ _ => False := fun ns h => (m_law_wp ns h).r
end Lw
open PySem PySem.W PyProof.Rows
set_option maxHeartbeats 0 in
theorem PySem.Challenge.cw_tensorworks_k62_multipliers_and_codes_holds : PySem.Challenge.rw_tensorworks_k62_multipliers_and_codes.Holds := by
  w_on; o_law; k_head; (case hw => w_witness2)
  k_fill
  refine L2.walk_of (l := PySem.Challenge.rw_tensorworks_k62_multipliers_and_codes) (n := 63) (k := 5) (x := "script") (CX := fun w => L2.CX PySem.Challenge.pw_tensorworks_k62_multipliers_and_codes w) (sp := fun w => DL.spAny Lw.m_law _) rfl (by decide) rfl ⟨rfl, by decide, by decide⟩ (fun w h Y => PySem.W.kIn_of Y) ?F (fun _ H a ns hl hO hS => DL.law_sp hl hO hS Lw.m_law_ok) (fun _ _ _ _ _ h => DL.cx_never h)
  case F =>
    intro w mg fa h KX G hmg
    refine' DL.spAny_of (Lw.all_mk KX G hmg ?a__law_begin ?l__law_begin ?c__law_begin ?k__law_begin ?a__law_take ?l__law_take ?c__law_take ?k__law_take ?a_check_bits ?l_check_bits ?c_check_bits ?k_check_bits ?a_greatest_code ?l_greatest_code ?c_greatest_code ?k_greatest_code ?a_least_code ?l_least_code ?c_least_code ?k_least_code ?a_nearest ?l_nearest ?c_nearest ?k_nearest ?a_fraction ?l_fraction ?c_fraction ?k_fraction ?a_over ?l_over ?c_over ?k_over ?a_code_of ?l_code_of ?c_code_of ?k_code_of ?a__law_coded ?l__law_coded ?c__law_coded ?k__law_coded ?a__law_gcd ?l__law_gcd ?c__law_gcd ?k__law_gcd ?a__law_frac ?l__law_frac ?c__law_frac ?k__law_frac ?a__law_drawn ?l__law_drawn ?c__law_drawn ?k__law_drawn ?a__law_ends ?l__law_ends ?c__law_ends ?k__law_ends ?a__law_sum ?l__law_sum ?c__law_sum ?k__law_sum ?a__law_gap ?l__law_gap ?c__law_gap ?k__law_gap ?a__law_int ?l__law_int ?c__law_int ?k__law_int ?a__law_means ?l__law_means ?c__law_means ?k__law_means ?a__law_near ?l__law_near ?c__law_near ?k__law_near ?a__law_multiplier ?l__law_multiplier ?c__law_multiplier ?k__law_multiplier ?a__law_over ?l__law_over ?c__law_over ?k__law_over ?a__law_signed ?l__law_signed ?c__law_signed ?k__law_signed ?a_times ?l_times ?c_times ?k_times ?a_multiplier ?l_multiplier ?c_multiplier ?k_multiplier ?a__law_told ?l__law_told ?c__law_told ?k__law_told ?a_meaning_of ?l_meaning_of ?c_meaning_of ?k_meaning_of ?a_law ?l_law ?c_law ?k_law ?z_abs ?z_bool ?z_int ?z_isinstance ?z_len ?z_list ?z_max ?z_min ?z_range ?z_tuple ?ca_RangeError ?ce_RangeError ?ck_RangeError ?cs_RangeError ?ct_RangeError ?cg_RangeError ?ch_RangeError ?cd_RangeError ?cc_RangeError ?cm_RangeError ?ca_TableError ?ce_TableError ?ck_TableError ?cs_TableError ?ct_TableError ?cg_TableError ?ch_TableError ?cd_TableError ?cc_TableError ?cm_TableError ?ca_TensorError ?ce_TensorError ?ck_TensorError ?cs_TensorError ?ct_TensorError ?cg_TensorError ?ch_TensorError ?cd_TensorError ?cc_TensorError ?cm_TensorError ?ca_ZeroDenominator ?ce_ZeroDenominator ?ck_ZeroDenominator ?cs_ZeroDenominator ?ct_ZeroDenominator ?cg_ZeroDenominator ?ch_ZeroDenominator ?cd_ZeroDenominator ?cc_ZeroDenominator ?cm_ZeroDenominator ?o1 ?o2 ?sb_RangeError_RangeError ?sb_TableError_RangeError ?sb_ZeroDenominator_RangeError ?sb_RangeError_TableError ?sb_TableError_TableError ?sb_ZeroDenominator_TableError ?sb_RangeError_TensorError ?sb_TableError_TensorError ?sb_ZeroDenominator_TensorError ?zm_gcd ?ga_FACTOR_LIMIT)
    (case a__law_begin => k_is)
    (case l__law_begin => k_is)
    (case c__law_begin => k_is)
    (case k__law_begin => k_is)
    (case a__law_take => k_is)
    (case l__law_take => k_is)
    (case c__law_take => k_is)
    (case k__law_take => k_is)
    (case a_check_bits => k_is)
    (case l_check_bits => k_is)
    (case c_check_bits => k_is)
    (case k_check_bits => k_is)
    (case a_greatest_code => k_is)
    (case l_greatest_code => k_is)
    (case c_greatest_code => k_is)
    (case k_greatest_code => k_is)
    (case a_least_code => k_is)
    (case l_least_code => k_is)
    (case c_least_code => k_is)
    (case k_least_code => k_is)
    (case a_nearest => k_is)
    (case l_nearest => k_is)
    (case c_nearest => k_is)
    (case k_nearest => k_is)
    (case a_fraction => k_is)
    (case l_fraction => k_is)
    (case c_fraction => k_is)
    (case k_fraction => k_is)
    (case a_over => k_is)
    (case l_over => k_is)
    (case c_over => k_is)
    (case k_over => k_is)
    (case a_code_of => k_is)
    (case l_code_of => k_is)
    (case c_code_of => k_is)
    (case k_code_of => k_is)
    (case a__law_coded => k_is)
    (case l__law_coded => k_is)
    (case c__law_coded => k_is)
    (case k__law_coded => k_is)
    (case a__law_gcd => k_is)
    (case l__law_gcd => k_is)
    (case c__law_gcd => k_is)
    (case k__law_gcd => k_is)
    (case a__law_frac => k_is)
    (case l__law_frac => k_is)
    (case c__law_frac => k_is)
    (case k__law_frac => k_is)
    (case a__law_drawn => k_is)
    (case l__law_drawn => k_is)
    (case c__law_drawn => k_is)
    (case k__law_drawn => k_is)
    (case a__law_ends => k_is)
    (case l__law_ends => k_is)
    (case c__law_ends => k_is)
    (case k__law_ends => k_is)
    (case a__law_sum => k_is)
    (case l__law_sum => k_is)
    (case c__law_sum => k_is)
    (case k__law_sum => k_is)
    (case a__law_gap => k_is)
    (case l__law_gap => k_is)
    (case c__law_gap => k_is)
    (case k__law_gap => k_is)
    (case a__law_int => k_is)
    (case l__law_int => k_is)
    (case c__law_int => k_is)
    (case k__law_int => k_is)
    (case a__law_means => k_is)
    (case l__law_means => k_is)
    (case c__law_means => k_is)
    (case k__law_means => k_is)
    (case a__law_near => k_is)
    (case l__law_near => k_is)
    (case c__law_near => k_is)
    (case k__law_near => k_is)
    (case a__law_multiplier => k_is)
    (case l__law_multiplier => k_is)
    (case c__law_multiplier => k_is)
    (case k__law_multiplier => k_is)
    (case a__law_over => k_is)
    (case l__law_over => k_is)
    (case c__law_over => k_is)
    (case k__law_over => k_is)
    (case a__law_signed => k_is)
    (case l__law_signed => k_is)
    (case c__law_signed => k_is)
    (case k__law_signed => k_is)
    (case a_times => k_is)
    (case l_times => k_is)
    (case c_times => k_is)
    (case k_times => k_is)
    (case a_multiplier => k_is)
    (case l_multiplier => k_is)
    (case c_multiplier => k_is)
    (case k_multiplier => k_is)
    (case a__law_told => k_is)
    (case l__law_told => k_is)
    (case c__law_told => k_is)
    (case k__law_told => k_is)
    (case a_meaning_of => k_is)
    (case l_meaning_of => k_is)
    (case c_meaning_of => k_is)
    (case k_meaning_of => k_is)
    (case a_law => k_is)
    (case l_law => k_is)
    (case c_law => k_is)
    (case k_law => k_is)
    (case z_abs => k_is)
    (case z_bool => k_is)
    (case z_int => k_is)
    (case z_isinstance => k_is)
    (case z_len => k_is)
    (case z_list => k_is)
    (case z_max => k_is)
    (case z_min => k_is)
    (case z_range => k_is)
    (case z_tuple => k_is)
    (case ca_RangeError => k_is)
    (case ce_RangeError => k_exc)
    (case ck_RangeError => k_is)
    (case cs_RangeError => k_is)
    (case ct_RangeError => k_is)
    (case cg_RangeError => k_is)
    (case ch_RangeError => k_is)
    (case cd_RangeError => k_is)
    (case cc_RangeError => k_is)
    (case cm_RangeError => k_is)
    (case ca_TableError => k_is)
    (case ce_TableError => k_exc)
    (case ck_TableError => k_is)
    (case cs_TableError => k_is)
    (case ct_TableError => k_is)
    (case cg_TableError => k_is)
    (case ch_TableError => k_is)
    (case cd_TableError => k_is)
    (case cc_TableError => k_is)
    (case cm_TableError => k_is)
    (case ca_TensorError => k_is)
    (case ce_TensorError => k_exc)
    (case ck_TensorError => k_is)
    (case cs_TensorError => k_is)
    (case ct_TensorError => k_is)
    (case cg_TensorError => k_is)
    (case ch_TensorError => k_is)
    (case cd_TensorError => k_is)
    (case cc_TensorError => k_is)
    (case cm_TensorError => k_is)
    (case ca_ZeroDenominator => k_is)
    (case ce_ZeroDenominator => k_exc)
    (case ck_ZeroDenominator => k_is)
    (case cs_ZeroDenominator => k_is)
    (case ct_ZeroDenominator => k_is)
    (case cg_ZeroDenominator => k_is)
    (case ch_ZeroDenominator => k_is)
    (case cd_ZeroDenominator => k_is)
    (case cc_ZeroDenominator => k_is)
    (case cm_ZeroDenominator => k_is)
    (case o1 => k_is)
    (case o2 => k_is)
    (case sb_RangeError_RangeError => k_is)
    (case sb_TableError_RangeError => k_is)
    (case sb_ZeroDenominator_RangeError => k_is)
    (case sb_RangeError_TableError => k_is)
    (case sb_TableError_TableError => k_is)
    (case sb_ZeroDenominator_TableError => k_is)
    (case sb_RangeError_TensorError => k_is)
    (case sb_TableError_TensorError => k_is)
    (case sb_ZeroDenominator_TensorError => k_is)
    (case zm_gcd => k_is)
    (case ga_FACTOR_LIMIT => k_is)
