import PyProof.Rows.All
import HandS.ForMost
import HandS.Exc
import HandS.TryOnly
import HandS.ExcOwn
import HandS.Wide
import HandS.IsInst
import HandS.WordsExc
import HandS.TupAny
import HandS.WideBits
import HandS.SortInts
import HandS.Small
import HandS.ExcIs
import HandS.Rev
import HandS.Style
import HandS.Gcd
import HandS.Iter
import HandS.FStr
import HandS.Codes
import HandS.RaiseMore
import PyProof.StrOps2
import HandS.StrMore
import PySem.Challenge.RW_tensorworks_k70_lines_of_the_journal
set_option Elab.async false
set_option linter.all false
set_option maxRecDepth 100000
/-! DLa: plain data, what stands for it in the heap, the slots of a def, runs with draws. -/
namespace DL
open PySem PySem.Spec PyProof.Rows L2

/-! ### data -/
inductive P where
  | non | bl (b : Bool) | int (i : Int) | str (x : Str) | tup (xs : List P)
inductive D where
  | p (x : P) | lst (xs : List P) | ls (xs : List D) | tp (xs : List D) | dic (kvs : List (Key × P)) | dit (kvs : List (List Key × P)) | orc | scr (ns : List Int)
abbrev D.int (i : Int) : D := .p (.int i)
abbrev D.str (x : Str) : D := .p (.str x)
abbrev D.bl (b : Bool) : D := .p (.bl b)
abbrev D.non : D := .p .non

section
variable (K : PySem.W.Frag) (H : Hp)
mutual
def RepP : P → V → Prop
  | .non, v => v = .non
  | .bl b, v => v = .bl b
  | .int i, v => v = .int i
  | .str x, v => v = .str x
  | .tup xs, v => ∃ a vs, v = .ref a ∧ SqT K H a vs ∧ RepPs xs vs
def RepPs : List P → List V → Prop
  | [], vs => vs = []
  | x :: xs, vs => ∃ v r, vs = v :: r ∧ RepP x v ∧ RepPs xs r
end
def RepKs {κ : Type} : List (κ × P) → List (κ × V) → Prop
  | [], ws => ws = []
  | (k, x) :: xs, ws => ∃ v r, ws = (k, v) :: r ∧ RepP K H x v ∧ RepKs xs r
/-- the list of draws at a: the script's copy at s, three ints -/
def OrcAt (a s : Addr) (h : Heap) : Prop := ∃ (i b z : Int) (t1 t2 t3 : Tok) (n : Nat), h.get? a = some { cls := .type "list", data := .seq #[.ref s, .int i t1, .int b t2, .int z t3] n } ∧ 0 ≤ i ∧ 0 ≤ b ∧ 0 ≤ z ∧ z < 2147483647
mutual
def RepD : D → V → List Addr → Prop
  | .p x, v, fp => RepP K H x v ∧ fp = []
  | .lst xs, v, fp => ∃ a vs, v = .ref a ∧ H a = some (.lst vs) ∧ fp = [a] ∧ RepPs K H xs vs
  | .ls xs, v, fp => ∃ a vs f, v = .ref a ∧ H a = some (.lst vs) ∧ fp = a :: f ∧ RepDs xs vs f
  | .tp xs, v, fp => ∃ a vs, v = .ref a ∧ SqT K H a vs ∧ RepDs xs vs fp
  | .dic kvs, v, fp => ∃ a ws, v = .ref a ∧ H a = some (.dK ws) ∧ fp = [a] ∧ RepKs K H kvs ws
  | .dit kvs, v, fp => ∃ a ws, v = .ref a ∧ H a = some (.dT ws) ∧ fp = [a] ∧ RepKs K H kvs ws
  | .scr ns, v, fp => fp = [] ∧ ∃ a, v = .ref a ∧ ((∃ o, H a = some (.frz o (.lst (ns.map V.int)))) ∨ ∃ (o : Obj) (its : Array Value) (n : Nat), K.lookup a = some o ∧ o.cls = .type "list" ∧ o.dict = none ∧ o.data = .seq its n ∧ its.size ≤ sizeLine ∧ Vals (ns.map V.int) its.toList)
  | .orc, v, fp => ∃ a s ns, v = .ref a ∧ fp = [a, s] ∧ H a = some (.ext (OrcAt a s)) ∧ H s = some (.lst ((ns : List Int).map V.int))
def RepDs : List D → List V → List Addr → Prop
  | [], vs, fp => vs = [] ∧ fp = []
  | x :: xs, vs, fp => ∃ v r f g, vs = v :: r ∧ fp = f ++ g ∧ RepD x v f ∧ RepDs xs r g
end
end

/-! ### what stays -/
/-- tuples and what is locked stay -/
structure KT (H H' : Hp) : Prop where
  tup : ∀ a xs, Rd H a (.tup xs) → Rd H' a (.tup xs)
  frz : ∀ a o u, H a = some (.frz o u) → H' a = some (.frz o u)
theorem Same.kt {H H' : Hp} (s : Same H H') : KT H H' := ⟨fun a xs h => by
  rcases h with h | ⟨o, h⟩
  · exact .inl (s _ _ h)
  · exact .inr ⟨o, s _ _ h⟩, fun a o u h => s _ _ h⟩
theorem KT.refl (H : Hp) : KT H H := ⟨fun _ _ h => h, fun _ _ _ h => h⟩
theorem KT.trans {H H1 H2 : Hp} (a : KT H H1) (b : KT H1 H2) : KT H H2 := ⟨fun x xs h => b.tup x xs (a.tup x xs h), fun x o u h => b.frz x o u (a.frz x o u h)⟩
theorem KT.upd {H : Hp} {a : Addr} {o u : HO} (h : H a = some o) (ho : Mut (some o)) : KT H (upd H a u) := by
  refine ⟨fun b xs q => ?_, fun b o' u' q => ?_⟩
  · have ne : b ≠ a := by
      rintro rfl
      rcases q with q | ⟨_, q⟩ <;> (rw [h] at q; cases q; exact ho)
    rcases q with q | ⟨w, q⟩
    · exact .inl (by rw [upd_ne ne]; exact q)
    · exact .inr ⟨w, by rw [upd_ne ne]; exact q⟩
  · have ne : b ≠ a := by
      rintro rfl
      rw [h] at q; cases q; exact ho
    rw [upd_ne ne]; exact q
section
variable {K : PySem.W.Frag} {H H' : Hp}
theorem KT.sqt (k : KT H H') {a : Addr} {vs : List V} (h : SqT K H a vs) : SqT K H' a vs := by
  rcases h with h | h
  · exact .inl (k.tup _ _ h)
  · exact .inr h
mutual
theorem RepP.kt (k : KT H H') : ∀ (x : P) (v : V), RepP K H x v → RepP K H' x v
  | .non, v, h => h
  | .bl b, v, h => h
  | .int i, v, h => h
  | .str x, v, h => h
  | .tup xs, v, h => by
    obtain ⟨a, vs, e, q, r⟩ := h
    exact ⟨a, vs, e, k.sqt q, RepPs.kt k xs vs r⟩
theorem RepPs.kt (k : KT H H') : ∀ (xs : List P) (vs : List V), RepPs K H xs vs → RepPs K H' xs vs
  | [], vs, h => h
  | x :: xs, vs, h => by
    obtain ⟨v, r, e, h1, h2⟩ := h
    exact ⟨v, r, e, RepP.kt k x v h1, RepPs.kt k xs r h2⟩
end
theorem RepKs.kt {κ : Type} (k : KT H H') : ∀ (xs : List (κ × P)) (ws : List (κ × V)), RepKs K H xs ws → RepKs K H' xs ws
  | [], vs, h => h
  | (c, x) :: xs, vs, h => by
    obtain ⟨v, r, e, h1, h2⟩ := h
    exact ⟨v, r, e, RepP.kt k x v h1, RepKs.kt k xs r h2⟩
mutual
theorem RepD.kt (k : KT H H') : ∀ (x : D) (v : V) (fp : List Addr), (∀ a ∈ fp, ∀ o, H a = some o → H' a = some o) → RepD K H x v fp → RepD K H' x v fp
  | .p x, v, fp, _, h => ⟨RepP.kt k x v h.1, h.2⟩
  | .lst xs, v, fp, s, h => by
    obtain ⟨a, vs, e, q, e2, r⟩ := h
    subst e2
    exact ⟨a, vs, e, s a (by simp) _ q, rfl, RepPs.kt k xs vs r⟩
  | .ls xs, v, fp, s, h => by
    obtain ⟨a, vs, f, e, q, e2, r⟩ := h
    subst e2
    exact ⟨a, vs, f, e, s a (by simp) _ q, rfl, RepDs.kt k xs vs f (fun b hb => s b (by simp [hb])) r⟩
  | .tp xs, v, fp, s, h => by
    obtain ⟨a, vs, e, q, r⟩ := h
    exact ⟨a, vs, e, k.sqt q, RepDs.kt k xs vs fp s r⟩
  | .dic kvs, v, fp, s, h => by
    obtain ⟨a, ws, e, q, e2, r⟩ := h
    subst e2
    exact ⟨a, ws, e, s a (by simp) _ q, rfl, RepKs.kt k kvs ws r⟩
  | .dit kvs, v, fp, s, h => by
    obtain ⟨a, ws, e, q, e2, r⟩ := h
    subst e2
    exact ⟨a, ws, e, s a (by simp) _ q, rfl, RepKs.kt k kvs ws r⟩
  | .scr ns, v, fp, s, h => by
    obtain ⟨e, a, e2, q⟩ := h
    refine ⟨e, a, e2, ?_⟩
    rcases q with ⟨o, q⟩ | q
    · exact .inl ⟨o, k.frz _ _ _ q⟩
    · exact .inr q
  | .orc, v, fp, s, h => by
    obtain ⟨a, z, ns, e, e2, q1, q2⟩ := h
    subst e2
    exact ⟨a, z, ns, e, rfl, s a (by simp) _ q1, s z (by simp) _ q2⟩
theorem RepDs.kt (k : KT H H') : ∀ (xs : List D) (vs : List V) (fp : List Addr), (∀ a ∈ fp, ∀ o, H a = some o → H' a = some o) → RepDs K H xs vs fp → RepDs K H' xs vs fp
  | [], vs, fp, _, h => h
  | x :: xs, vs, fp, s, h => by
    obtain ⟨v, r, f, g, e, e2, h1, h2⟩ := h
    subst e2
    exact ⟨v, r, f, g, e, rfl, RepD.kt k x v f (fun b hb => s b (by simp [hb])) h1, RepDs.kt k xs r g (fun b hb => s b (by simp [hb])) h2⟩
end
end

/-! ### slots -/
/-- a slot: nothing known, one's own data, data lent (none: an argument's; some i: slot i's list while a loop walks it), the exception that a suite handles -/
inductive S where
  | no | own (d : D) | bor (t : Option Nat) (d : D) | exn
abbrev Sl := List S
/-- lent heaps; ex: the handled exception's address -/
def Rgs (ex : Option Addr) := Option Nat → Hp
def SlotR (K : PySem.W.Frag) {ex : Option Addr} (Rg : Rgs ex) (H : Hp) : S → Option V → List Addr → Prop
  | .no, _, fp => fp = []
  | .own d, ov, fp => ∃ v, ov = some v ∧ RepD K H d v fp
  | .bor t d, ov, fp => fp = [] ∧ ∃ v g, ov = some v ∧ RepD K H d v g ∧ ∀ a ∈ g, Rg t a ≠ none
  | .exn, ov, fp => fp = [] ∧ ∃ a, ex = some a ∧ ov = some (.ref a)
def SlotsR (K : PySem.W.Frag) {ex : Option Addr} (Rg : Rgs ex) (H : Hp) : Sl → L2.St → List Addr → Prop
  | [], σ, fp => σ = [] ∧ fp = []
  | s :: δ, σ, fp => ∃ ov r f g, σ = ov :: r ∧ fp = f ++ g ∧ SlotR K Rg H s ov f ∧ SlotsR K Rg H δ r g
structure SRel (K : PySem.W.Frag) (B : Hp) {ex : Option Addr} (Rg : Rgs ex) (σ : L2.St) (H : Hp) (δ : Sl) : Prop where
  same : Same B H
  sub : ∀ t, Same (Rg t) B
  ex : ∃ fp, SlotsR K Rg H δ σ fp ∧ fp.Nodup ∧ ∀ a ∈ fp, B a = none
section
variable {K : PySem.W.Frag} {B H H' : Hp} {ex : Option Addr} {Rg : Rgs ex}
theorem SlotR.kt (k : KT H H') (rg : ∀ t a, Rg t a ≠ none → ∀ o, H a = some o → H' a = some o) {s : S} {ov : Option V} {fp : List Addr} (st : ∀ a ∈ fp, ∀ o, H a = some o → H' a = some o) (h : SlotR K Rg H s ov fp) : SlotR K Rg H' s ov fp := by
  cases s with
  | no => exact h
  | exn => exact h
  | own d => obtain ⟨v, e, r⟩ := h; exact ⟨v, e, RepD.kt k d v fp st r⟩
  | bor t d =>
    obtain ⟨e, v, g, e1, r, q⟩ := h
    exact ⟨e, v, g, e1, RepD.kt k d v g (fun a ha o ho => rg t a (q a ha) o ho) r, q⟩
theorem SlotsR.kt (k : KT H H') (rg : ∀ t a, Rg t a ≠ none → ∀ o, H a = some o → H' a = some o) : ∀ {δ : Sl} {σ : L2.St} {fp : List Addr}, (∀ a ∈ fp, ∀ o, H a = some o → H' a = some o) → SlotsR K Rg H δ σ fp → SlotsR K Rg H' δ σ fp
  | [], _, _, _, h => h
  | s :: δ, _, _, st, h => by
    obtain ⟨ov, r, f, g, e, e2, h1, h2⟩ := h
    subst e2
    exact ⟨ov, r, f, g, e, rfl, h1.kt k rg (fun a ha => st a (by simp [ha])), SlotsR.kt k rg (fun a ha => st a (by simp [ha])) h2⟩
theorem SRel.grow {σ : L2.St} {δ : Sl} (h : SRel K B Rg σ H δ) (s : Same H H') : SRel K B Rg σ H' δ := by
  obtain ⟨b, u, fp, q, n, f⟩ := h
  exact ⟨b.trans s, u, fp, q.kt (Same.kt s) (fun _ a _ o e => s a o e) (fun a _ o e => s a o e), n, f⟩
/-- a slot's value -/
theorem SlotsR.get : ∀ {δ : Sl} {σ : L2.St} {fp : List Addr} {i : Nat} {s : S}, SlotsR K Rg H δ σ fp → δ[i]? = some s → ∃ ov f, σ[i]? = some ov ∧ SlotR K Rg H s ov f ∧ ∀ a ∈ f, a ∈ fp
  | [], _, _, _, _, _, e => by simp at e
  | s :: δ, _, _, 0, s', h, e => by
    obtain ⟨ov, r, f, g, e1, e2, h1, h2⟩ := h
    subst e1 e2
    obtain rfl : s = s' := by simpa using e
    exact ⟨ov, f, rfl, h1, fun a ha => by simp [ha]⟩
  | s :: δ, _, _, i + 1, s', h, e => by
    obtain ⟨ov, r, f, g, e1, e2, h1, h2⟩ := h
    subst e1 e2
    obtain ⟨ov', f', q1, q2, q3⟩ := SlotsR.get (i := i) h2 (by simpa using e)
    exact ⟨ov', f', by simpa using q1, q2, fun a ha => by simp [q3 a ha]⟩
theorem SlotsR.len : ∀ {δ : Sl} {σ : L2.St} {fp : List Addr}, SlotsR K Rg H δ σ fp → δ.length = σ.length
  | [], _, _, h => by obtain ⟨rfl, _⟩ := h; rfl
  | s :: δ, _, _, h => by
    obtain ⟨ov, r, f, g, e1, e2, h1, h2⟩ := h
    subst e1
    simp [SlotsR.len h2]
/-- a slot is set: its old part goes, the new one comes -/
theorem SlotsR.set {v : Option V} {s : S} {f' : List Addr} (hs : SlotR K Rg H s v f') : ∀ {δ : Sl} {σ : L2.St} {fp : List Addr} (i : Nat), i < δ.length → SlotsR K Rg H δ σ fp → fp.Nodup → f'.Nodup → (∀ a ∈ f', a ∉ fp) →
    ∃ fp', SlotsR K Rg H (δ.set i s) (σ.set i v) fp' ∧ fp'.Nodup ∧ ∀ a ∈ fp', a ∈ fp ∨ a ∈ f'
  | [], _, _, i, hi, _, _, _, _ => by simp at hi
  | s0 :: δ, _, _, 0, _, h, n, n', d => by
    obtain ⟨ov, r, f, g, e1, e2, h1, h2⟩ := h
    subst e1 e2
    refine ⟨f' ++ g, ⟨v, r, f', g, rfl, rfl, hs, h2⟩, ?_, fun a ha => ?_⟩
    · rw [List.nodup_append] at n ⊢
      exact ⟨n', n.2.1, fun a ha b hb e => d a ha (by simp [e, hb])⟩
    · rcases List.mem_append.mp ha with q | q
      · exact .inr q
      · exact .inl (by simp [q])
  | s0 :: δ, _, _, i + 1, hi, h, n, n', d => by
    obtain ⟨ov, r, f, g, e1, e2, h1, h2⟩ := h
    subst e1 e2
    rw [List.nodup_append] at n
    obtain ⟨fp', q1, q2, q3⟩ := SlotsR.set hs (δ := δ) i (by simpa using hi) h2 n.2.1 n' (fun a ha hb => d a ha (by simp [hb]))
    refine ⟨f ++ fp', ⟨ov, r.set i v, f, fp', rfl, rfl, h1, q1⟩, ?_, fun a ha => ?_⟩
    · rw [List.nodup_append]
      refine ⟨n.1, q2, fun a ha b hb e => ?_⟩
      subst e
      rcases q3 a hb with q | q
      · exact n.2.2 a ha a q rfl
      · exact d a q (by simp [ha])
    · rcases List.mem_append.mp ha with q | q
      · exact .inl (by simp [q])
      · rcases q3 a q with z | z
        · exact .inl (by simp [z])
        · exact .inr z
end

/-! ### runs: a value, an error, stuck, or a draw -/
inductive Rn (ε α : Type) where
  | ok (a : α) | err (c : Str) (e : ε) | bad | pick (n : Nat) (k : Nat → Rn ε α)
namespace Rn
variable {ε ε' α β : Type}
def bind : Rn ε α → (α → Rn ε β) → Rn ε β
  | .ok a, f => f a
  | .err c e, _ => .err c e
  | .bad, _ => .bad
  | .pick n k, f => .pick n fun i => (k i).bind f
instance : Monad (Rn ε) where
  pure := .ok
  bind := bind
def mapErr (f : ε → ε') : Rn ε α → Rn ε' α
  | .ok a => .ok a
  | .err c e => .err c (f e)
  | .bad => .bad
  | .pick n k => .pick n fun i => (k i).mapErr f
/-- what is wanted of a run -/
def wp : Rn ε α → (α → Prop) → (Str → ε → Prop) → Prop
  | .ok a, Q, _ => Q a
  | .err c e, _, E => E c e
  | .bad, _, _ => False
  | .pick n k, Q, E => ∀ i, i < n → (k i).wp Q E
theorem wp_mono {w : Rn ε α} {Q Q' : α → Prop} {E E' : Str → ε → Prop} (h : w.wp Q E) (hq : ∀ a, Q a → Q' a) (he : ∀ c e, E c e → E' c e) : w.wp Q' E' := by
  induction w with
  | ok a => exact hq a h
  | err c e => exact he c e h
  | bad => exact h
  | pick n k ih => exact fun i hi => ih i (h i hi)
theorem wp_bind {w : Rn ε α} {f : α → Rn ε β} {Q : β → Prop} {E : Str → ε → Prop} : (w.bind f).wp Q E ↔ w.wp (fun a => (f a).wp Q E) E := by
  induction w with
  | ok a => exact Iff.rfl
  | err c e => exact Iff.rfl
  | bad => exact Iff.rfl
  | pick n k ih => exact ⟨fun h i hi => (ih i).mp (h i hi), fun h i hi => (ih i).mpr (h i hi)⟩
theorem wp_mapErr {w : Rn ε α} {f : ε → ε'} {Q : α → Prop} {E : Str → ε' → Prop} : (w.mapErr f).wp Q E ↔ w.wp Q (fun c e => E c (f e)) := by
  induction w with
  | ok a => exact Iff.rfl
  | err c e => exact Iff.rfl
  | bad => exact Iff.rfl
  | pick n k ih => exact ⟨fun h i hi => (ih i).mp (h i hi), fun h i hi => (ih i).mpr (h i hi)⟩
@[simp] theorem ok_bind (a : α) (f : α → Rn ε β) : (Rn.ok a : Rn ε α).bind f = f a := rfl
@[simp] theorem err_bind (c : Str) (e : ε) (f : α → Rn ε β) : (Rn.err c e : Rn ε α).bind f = .err c e := rfl
@[simp] theorem bad_bind (f : α → Rn ε β) : (Rn.bad : Rn ε α).bind f = .bad := rfl
@[simp] theorem pick_bind (n : Nat) (k : Nat → Rn ε α) (f : α → Rn ε β) : (Rn.pick n k).bind f = .pick n fun i => (k i).bind f := rfl
end Rn

/-- what an expression gives: new and one's own, or a look at what stands -/
inductive R where
  | own (d : D) | vw (d : D)
def R.d : R → D
  | .own d => d
  | .vw d => d
/-- the value of r, made from H on -/
def RepR (K : PySem.W.Frag) (H H' : Hp) : R → V → Prop
  | .own d, v => ∃ fp, RepD K H' d v fp ∧ fp.Nodup ∧ ∀ a ∈ fp, H a = none
  | .vw d, v => ∃ fp, RepD K H' d v fp
section
variable {K : PySem.W.Frag} {H H1 H2 : Hp} {r : R} {v : V}
theorem RepR.look (h : RepR K H H1 r v) : ∃ fp, RepD K H1 r.d v fp := by
  cases r with
  | own d => obtain ⟨fp, q, _⟩ := h; exact ⟨fp, q⟩
  | vw d => exact h
theorem RepR.grow (h : RepR K H H1 r v) (s : Same H1 H2) : RepR K H H2 r v := by
  cases r with
  | own d => obtain ⟨fp, q, n, f⟩ := h; exact ⟨fp, RepD.kt (Same.kt s) d v fp (fun a _ o e => s a o e) q, n, f⟩
  | vw d => obtain ⟨fp, q⟩ := h; exact ⟨fp, RepD.kt (Same.kt s) d v fp (fun a _ o e => s a o e) q⟩
theorem RepR.back {H0 : Hp} (h : RepR K H H1 r v) (s : Same H0 H) : RepR K H0 H1 r v := by
  cases r with
  | own d => obtain ⟨fp, q, n, f⟩ := h; exact ⟨fp, q, n, fun a ha => s.free (f a ha)⟩
  | vw d => exact h
theorem RepR.plain {x : P} (h : RepP K H1 x v) : RepR K H H1 (.own (.p x)) v := ⟨[], ⟨h, rfl⟩, List.nodup_nil, fun _ z => nomatch z⟩
theorem RepR.getP {x : P} (h : RepR K H H1 r v) (e : r.d = .p x) : RepP K H1 x v := by
  obtain ⟨fp, q⟩ := h.look
  rw [e] at q
  exact q.1
end

/-! ### readings -/
/-- the context of readings: the written part, the module's names, what is wanted of errors -/
structure DC where
  K : PySem.W.Frag
  mg : Str → Option Value
  W : WX
  ex : Option Addr
abbrev GE := Sl → Rn Unit R
def tD (c : DC) (g : GE) : TE := fun σ H Q => ∃ (B : Hp) (Rg : Rgs c.ex) (δ : Sl), SRel c.K B Rg σ H δ ∧
  (g δ).wp (fun r => ∀ v H', Same H H' → RepR c.K H H' r v → Q v H') fun cl _ => ∀ C H', c.mg cl = some (.ref C) → Same H H' → c.W (.ref C) none σ H'
theorem PE.imp {X : Cx} {e : Expr} {t t' : TE} (h : PE X e t) (m : ∀ σ H Q, t' σ H Q → t σ H Q) : PE X e t' := ⟨fun pins s σ H Q I q => h.run pins s σ H Q I (m σ H Q q)⟩
theorem PT.imp {X : Cx} {e : Expr} {t t' : TT} (h : PT X e t) (m : ∀ σ H Q, t' σ H Q → t σ H Q) : PT X e t' := ⟨fun pins s σ H Q I q => h.run pins s σ H Q I (m σ H Q q)⟩
theorem PSs.imp {X : Cx} {e : List Stmt} {t t' : TS} (h : PSs X e t) (m : ∀ D σ H, t' D σ H → t D σ H) : PSs X e t' := ⟨fun pins s σ H D I q => h.run pins s σ H D I (m D σ H q)⟩
theorem PS.imp {X : Cx} {e : Stmt} {t t' : TS} (h : PS X e t) (m : ∀ D σ H, t' D σ H → t D σ H) : PS X e t' := ⟨fun pins s σ H D I q => h.run pins s σ H D I (m D σ H q)⟩

def gOp2 (f : D → D → Rn Unit R) (a b : GE) : GE := fun δ => (a δ).bind fun x => (b δ).bind fun y => f x.d y.d
def gOp1 (f : D → Rn Unit R) (a : GE) : GE := fun δ => (a δ).bind fun x => f x.d
/-- the end of a value rule: f's run gives what r asks -/
def Gives (c : DC) (w : Rn Unit R) (H : Hp) (t : VK → Prop) : Prop := ∀ Q : VK, w.wp (fun r => ∀ v H', Same H H' → RepR c.K H H' r v → Q v H') (fun _ _ => False) → t Q

theorem tD_seq {c : DC} {σ : L2.St} {B H : Hp} {Rg : Rgs c.ex} {δ : Sl} {g : GE} {α : Type} {f : R → Rn Unit α} {Q : α → Hp → Hp → Prop} (S : SRel c.K B Rg σ H δ)
    (hQ : ∀ a H1 H2, Same H H1 → Q a H H2 → Q a H1 H2)
    (h : ((g δ).bind f).wp (fun a => ∀ H', Same H H' → Q a H H') fun cl _ => ∀ C H', c.mg cl = some (.ref C) → Same H H' → c.W (.ref C) none σ H')
    {Q' : VK} (k : ∀ r v H1, Same H H1 → RepR c.K H H1 r v → SRel c.K B Rg σ H1 δ → (f r).wp (fun a => ∀ H', Same H1 H' → Q a H1 H') (fun cl _ => ∀ C H', c.mg cl = some (.ref C) → Same H1 H' → c.W (.ref C) none σ H') → Q' v H1) :
    tD c g σ H Q' := by
  refine ⟨B, Rg, δ, S, Rn.wp_mono (Rn.wp_bind.mp h) (fun r q v H1 s1 rv => k r v H1 s1 rv (S.grow s1) (Rn.wp_mono q (fun r q H' s' => hQ _ _ _ s1 (q H' (s1.trans s'))) fun cl _ q C H' e s' => q C H' e (s1.trans s'))) fun _ _ q => q⟩
end DL
/-! DLb: derivations of expressions: names, constants, operators, tests, displays, subscripts. -/
namespace DL
open PySem PySem.Spec PyProof.Rows L2

/-- the handled exception's address, in an except suite -/
def exOf (X : Cx) : Option Addr := match X.pn with
  | [] => none
  | p :: _ => if X.calm = true then none else some p.1
theorem exOf_calm {X : Cx} (h : X.calm = true) : exOf X = none := by
  unfold exOf
  split
  · rfl
  · rw [if_pos h]
abbrev dc (X : Cx) (W : WX) : DC := ⟨X.K, X.mg, W, exOf X⟩
theorem dc_calm {X : Cx} {W : WX} (h : X.calm = true) : dc X W = ⟨X.K, X.mg, W, none⟩ := by unfold dc; rw [exOf_calm h]
def DE (W : WX) (X : Cx) (e : Expr) (g : GE) : Prop := PE X e (tD (dc X W) g)
abbrev GT := Sl → Rn Unit Bool
def tDT (c : DC) (g : GT) : TT := fun σ H Q => ∃ (B : Hp) (Rg : Rgs c.ex) (δ : Sl), SRel c.K B Rg σ H δ ∧
  (g δ).wp (fun b => ∀ H', Same H H' → Q b H') fun cl _ => ∀ C H', c.mg cl = some (.ref C) → Same H H' → c.W (.ref C) none σ H'
def DT (W : WX) (X : Cx) (e : Expr) (g : GT) : Prop := PT X e (tDT (dc X W) g)
def DW (W : WX) (X : Cx) (e : Expr) (g : GT) : Prop := PW X e (tDT (dc X W) g)
def RepRs (K : PySem.W.Frag) (H' : Hp) : List R → List V → List Addr → Prop
  | [], vs, fp => vs = [] ∧ fp = []
  | .own d :: rs, vs, fp => ∃ v r f g, vs = v :: r ∧ fp = f ++ g ∧ RepD K H' d v f ∧ RepRs K H' rs r g
  | .vw d :: rs, vs, fp => ∃ v r f, vs = v :: r ∧ RepD K H' d v f ∧ RepRs K H' rs r fp
abbrev GA := Sl → Rn Unit (List R)
def RepA (K : PySem.W.Frag) (H H' : Hp) (rs : List R) (vs : List V) : Prop := ∃ fp, RepRs K H' rs vs fp ∧ fp.Nodup ∧ ∀ a ∈ fp, H a = none
def tDA (c : DC) (g : GA) : TA := fun σ H Q => ∃ (B : Hp) (Rg : Rgs c.ex) (δ : Sl), SRel c.K B Rg σ H δ ∧
  (g δ).wp (fun rs => ∀ vs H', Same H H' → RepA c.K H H' rs vs → Q vs H') fun cl _ => ∀ C H', c.mg cl = some (.ref C) → Same H H' → c.W (.ref C) none σ H'
def DA (W : WX) (X : Cx) (es : List Expr) (g : GA) : Prop := PA X es (tDA (dc X W) g)
theorem PA.imp {X : Cx} {es : List Expr} {t t' : TA} (h : PA X es t) (m : ∀ σ H Q, t' σ H Q → t σ H Q) : PA X es t' := ⟨fun pos pins s σ H Q I q => h.run pos pins s σ H Q I (m σ H Q q)⟩
theorem PW.imp {X : Cx} {e : Expr} {t t' : TT} (h : PW X e t) (m : ∀ σ H Q, t' σ H Q → t σ H Q) : PW X e t' := ⟨fun wh pins s σ H Q I q => h.run wh pins s σ H Q I (m σ H Q q)⟩

section
variable {c : DC} {σ : L2.St} {H : Hp} {Q : VK}
/-- a value at once -/
theorem tD_in {B : Hp} {Rg : Rgs c.ex} {δ : Sl} {g : GE} (S : SRel c.K B Rg σ H δ) (h : (g δ).wp (fun r => ∀ v H', Same H H' → RepR c.K H H' r v → Q v H') fun cl _ => ∀ C H', c.mg cl = some (.ref C) → Same H H' → c.W (.ref C) none σ H') : tD c g σ H Q := ⟨B, Rg, δ, S, h⟩
/-- as tD_seq, where a value is wanted -/
theorem tD_val {B : Hp} {Rg : Rgs c.ex} {δ : Sl} {g : GE} {f : R → Rn Unit R} (S : SRel c.K B Rg σ H δ)
    (h : ((g δ).bind f).wp (fun r => ∀ v H', Same H H' → RepR c.K H H' r v → Q v H') fun cl _ => ∀ C H', c.mg cl = some (.ref C) → Same H H' → c.W (.ref C) none σ H')
    {Q' : VK} (k : ∀ r v H1, Same H H1 → RepR c.K H H1 r v → SRel c.K B Rg σ H1 δ → (f r).wp (fun r => ∀ v H', Same H1 H' → RepR c.K H1 H' r v → Q v H') (fun cl _ => ∀ C H', c.mg cl = some (.ref C) → Same H1 H' → c.W (.ref C) none σ H') → Q' v H1) : tD c g σ H Q' := by
  refine tD_seq (Q := fun r H H' => ∀ v, RepR c.K H H' r v → Q v H') S (fun r H1 H2 s q v rv => q v (rv.back s)) (Rn.wp_mono h (fun r q H' s v rv => q v H' s rv) fun _ _ q => q) fun r v H1 s1 rv S1 w => k r v H1 s1 rv S1 (Rn.wp_mono w (fun r q v H' s rv => q H' s v rv) fun _ _ q => q)
theorem tD_bool {B : Hp} {Rg : Rgs c.ex} {δ : Sl} {g : GE} {f : R → Rn Unit Bool} {Qb : Bool → Hp → Prop} (S : SRel c.K B Rg σ H δ)
    (h : ((g δ).bind f).wp (fun b => ∀ H', Same H H' → Qb b H') fun cl _ => ∀ C H', c.mg cl = some (.ref C) → Same H H' → c.W (.ref C) none σ H')
    {Q' : VK} (k : ∀ r v H1, Same H H1 → RepR c.K H H1 r v → SRel c.K B Rg σ H1 δ → (f r).wp (fun b => ∀ H', Same H1 H' → Qb b H') (fun cl _ => ∀ C H', c.mg cl = some (.ref C) → Same H1 H' → c.W (.ref C) none σ H') → Q' v H1) : tD c g σ H Q' :=
  tD_seq (Q := fun b _ H' => Qb b H') S (fun _ _ _ _ q => q) h k
theorem tDT_seq {B : Hp} {Rg : Rgs c.ex} {δ : Sl} {g : GT} {α : Type} {f : Bool → Rn Unit α} {Qa : α → Hp → Hp → Prop} (S : SRel c.K B Rg σ H δ)
    (hQ : ∀ a H1 H2, Same H H1 → Qa a H H2 → Qa a H1 H2)
    (h : ((g δ).bind f).wp (fun a => ∀ H', Same H H' → Qa a H H') fun cl _ => ∀ C H', c.mg cl = some (.ref C) → Same H H' → c.W (.ref C) none σ H')
    {Q' : Bool → Hp → Prop} (k : ∀ b H1, Same H H1 → SRel c.K B Rg σ H1 δ → (f b).wp (fun a => ∀ H', Same H1 H' → Qa a H1 H') (fun cl _ => ∀ C H', c.mg cl = some (.ref C) → Same H1 H' → c.W (.ref C) none σ H') → Q' b H1) : tDT c g σ H Q' :=
  ⟨B, Rg, δ, S, Rn.wp_mono (Rn.wp_bind.mp h) (fun b q H1 s1 => k b H1 s1 (S.grow s1) (Rn.wp_mono q (fun r q H' s' => hQ r H1 H' s1 (q H' (s1.trans s'))) fun cl _ q C H' e s' => q C H' e (s1.trans s'))) fun _ _ q => q⟩
end

section
variable {W : WX} {X : Cx} {a b e : Expr} {ga gb : GE} {pos : Pos}

/-! ### names, constants -/
def gVar (i : Nat) : GE := fun δ => match δ[i]? with
  | some (.own (.p x)) => .ok (.own (.p x))
  | some (.bor _ (.p x)) => .ok (.own (.p x))
  | some (.own d) => .ok (.vw d)
  | some (.bor _ d) => .ok (.vw d)
  | _ => .bad
theorem SRel.slot {K : PySem.W.Frag} {B H : Hp} {ex : Option Addr} {Rg : Rgs ex} {σ : L2.St} {δ : Sl} {i : Nat} {s : S} {d : D} (S0 : SRel K B Rg σ H δ) (e : δ[i]? = some s) (hs : s = .own d ∨ ∃ t, s = .bor t d) : ∃ v g, σ[i]? = some (some v) ∧ RepD K H d v g := by
  obtain ⟨_, _, fp, q, _, _⟩ := S0
  obtain ⟨ov, f, e1, r, _⟩ := q.get e
  rcases hs with rfl | ⟨t, rfl⟩
  · obtain ⟨v, rfl, r⟩ := r
    exact ⟨v, f, e1, r⟩
  · obtain ⟨_, v, g, rfl, r, _⟩ := r
    exact ⟨v, g, e1, r⟩
theorem gVar_cases {i : Nat} {δ : Sl} {Q : R → Prop} {E : Str → Unit → Prop} (h : (gVar i δ).wp Q E) : ∃ s d, δ[i]? = some s ∧ (s = .own d ∨ ∃ t, s = .bor t d) ∧ ((∃ x, d = .p x ∧ Q (.own d)) ∨ Q (.vw d)) := by
  unfold gVar at h
  split at h
  · rename_i x e; exact ⟨_, _, e, .inl rfl, .inl ⟨x, rfl, h⟩⟩
  · rename_i t x e; exact ⟨_, _, e, .inr ⟨t, rfl⟩, .inl ⟨x, rfl, h⟩⟩
  · rename_i d _ e; exact ⟨_, _, e, .inl rfl, .inr h⟩
  · rename_i t d _ e; exact ⟨_, _, e, .inr ⟨t, rfl⟩, .inr h⟩
  · exact h.elim
theorem de_var {i : Nat} {x : Str} (hN : X.N[i]? = some x) (hv : Vis X.env.scope x) (hd : (x == ("__debug__" : Str)) = false := by decide) (hcd : (x == ("__classdict__" : Str)) = false := by decide) : DE W X (.Name x pos) (gVar i) := by
  refine PE.imp (pe_var hN hv hd hcd) fun σ H Q ⟨B, Rg, δ, S0, h⟩ => ?_
  obtain ⟨s, d, e, hs, h⟩ := gVar_cases h
  obtain ⟨v, g, e1, r⟩ := S0.slot e hs
  refine ⟨v, e1, ?_⟩
  rcases h with ⟨x, rfl, h⟩ | h
  · exact h v H (Same.refl H) (RepR.plain r.1)
  · exact h v H (Same.refl H) ⟨g, r⟩
def gC (x : P) : GE := fun _ => .ok (.own (.p x))
theorem de_of {t : TE} {x : P} {v : V} (h : PE X e (tC v)) (r : ∀ H, RepP X.K H x v) : DE W X e (gC x) :=
  PE.imp h fun σ H Q ⟨B, Rg, δ, S0, h⟩ => h v H (Same.refl H) (RepR.plain (r H))
theorem de_int {i j} : DE W X (.Constant (.int i) j pos) (gC (.int i)) := de_of (t := tC (.int i)) pe_int fun _ => rfl
theorem de_bl {b j} : DE W X (.Constant (.bool b) j pos) (gC (.bl b)) := de_of (t := tC (.bl b)) pe_bl fun _ => rfl
theorem de_non {j} : DE W X (.Constant .none j pos) (gC .non) := de_of (t := tC .non) pe_non fun _ => rfl
theorem de_str {x j} : DE W X (.Constant (.str x) j pos) (gC (.str x)) := de_of (t := tC (.str x)) pe_str fun _ => rfl
/-- a module's constant -/
def GC (K : PySem.W.Frag) (mg : Str → Option Value) (x : Str) (p : P) : Prop := ∃ u v, mg x = some u ∧ RelV v u ∧ ∀ H, RepP K H p v
theorem de_glob {x : Str} {p : P} (g : GC X.K X.mg x p) (hg : Gl X x := by rfl) (hd : (x == ("__debug__" : Str)) = false := by decide) : DE W X (.Name x pos) (gC p) := by
  obtain ⟨u, v, e, r, q⟩ := g
  exact de_of (t := tC v) (pe_glob hg e r hd) q

/-! ### operators -/
def OpG (K : PySem.W.Frag) (r : R2) (f : D → D → Rn Unit R) : Prop := ∀ (H : Hp) (x y : D) (v u : V) (fx fy : List Addr) (Q : VK) (E : Str → Unit → Prop), RepD K H x v fx → RepD K H y u fy →
  (f x y).wp (fun r => ∀ v H', Same H H' → RepR K H H' r v → Q v H') E → r v u H Q
theorem op2_of {r : R2} {f : D → D → Rn Unit R} (hf : OpG X.K r f) (σ : L2.St) (H : Hp) (Q : VK) (h : tD (dc X W) (gOp2 f ga gb) σ H Q) : tOp r (tD (dc X W) ga) (tD (dc X W) gb) σ H Q := by
  obtain ⟨B, Rg, δ, S0, w⟩ := h
  refine tD_val S0 w fun r1 v1 H1 s1 rv1 S1 w1 => ?_
  refine tD_val S1 w1 fun r2 v2 H2 s2 rv2 S2 w2 => ?_
  obtain ⟨f1, q1⟩ := (rv1.grow s2).look
  obtain ⟨f2, q2⟩ := rv2.look
  exact hf H2 r1.d r2.d v1 v2 f1 f2 Q _ q1 q2 w2
theorem de_op2 {op : Operator} {r : R2} {f : D → D → Rn Unit R} (ho : OpR X (binaryOp op) r) (hf : OpG X.K r f) (ha : DE W X a ga) (hb : DE W X b gb) : DE W X (.BinOp a op b pos) (gOp2 f ga gb) :=
  PE.imp (pe_op ho ha hb) (op2_of hf)
theorem OpG.or {K : PySem.W.Frag} {r r' : R2} {f : D → D → Rn Unit R} (h : ∀ (H : Hp) (x y : D) (v u : V) (fx fy : List Addr) (Q : VK) (E : Str → Unit → Prop), RepD K H x v fx → RepD K H y u fy →
  (f x y).wp (fun r => ∀ v H', Same H H' → RepR K H H' r v → Q v H') E → r v u H Q ∨ r' v u H Q) : OpG K (fun x y H Q => r x y H Q ∨ r' x y H Q) f := h
/-- ints -/
def fInt (g : Int → Int → P) : D → D → Rn Unit R
  | .p (.int i), .p (.int j) => .ok (.own (.p (g i j)))
  | _, _ => .bad
def iSub : D → D → Rn Unit R := fInt fun i j => .int (i - j)
theorem fInt_cases {g : Int → Int → P} {x y : D} {Q : R → Prop} {E : Str → Unit → Prop} (h : (fInt g x y).wp Q E) : ∃ i j, x = .p (.int i) ∧ y = .p (.int j) ∧ Q (.own (.p (g i j))) := by
  unfold fInt at h
  split at h
  · exact ⟨_, _, rfl, rfl, h⟩
  · exact h.elim
theorem RepP.up {K : PySem.W.Frag} {H : Hp} {x : P} {v : V} {Q : VK} (h : ∀ v H', Same H H' → RepR K H H' (.own (.p x)) v → Q v H') (r : RepP K H x v) : Q v H := h v H (Same.refl H) (RepR.plain r)
theorem og_sub {K : PySem.W.Frag} : OpG K (rI0 fun i j => .int (i - j)) iSub := by
  intro H x y v u fx fy Q E rx ry h
  obtain ⟨i, j, rfl, rfl, q⟩ := fInt_cases h
  obtain rfl : v = .int i := rx.1
  obtain rfl : u = .int j := ry.1
  exact ⟨i, j, rfl, rfl, RepP.up q rfl⟩
theorem de_sub (ha : DE W X a ga) (hb : DE W X b gb) : DE W X (.BinOp a .Sub b pos) (gOp2 iSub ga gb) := de_op2 op_sub og_sub ha hb

/-- a new object -/
theorem RepD.up {K : PySem.W.Frag} {H : Hp} {d : D} {o : HO} {Q : VK} {p : Addr} (hp : H p = none) (h : ∀ v H', Same H H' → RepR K H H' (.own d) v → Q v H') (r : ∃ fp, RepD K (upd H p o) d (.ref p) fp ∧ fp.Nodup ∧ ∀ a ∈ fp, H a = none) : Q (.ref p) (upd H p o) :=
  h _ _ (fun b u e => by rw [upd_ne (ne_of_none e hp)]; exact e) r
theorem Same.new {H : Hp} {p : Addr} {o : HO} (hp : H p = none) : Same H (upd H p o) := fun b u e => by rw [upd_ne (ne_of_none e hp)]; exact e
theorem RepPs.len {K : PySem.W.Frag} {H : Hp} : ∀ {xs : List P} {vs : List V}, RepPs K H xs vs → vs.length = xs.length
  | [], vs, h => by
    obtain rfl : vs = [] := h
    rfl
  | x :: xs, vs, h => by
    obtain ⟨v, r, rfl, _, h2⟩ := h
    simp [RepPs.len h2]
theorem RepPs.append {K : PySem.W.Frag} {H : Hp} {ys : List P} {us : List V} (hy : RepPs K H ys us) : ∀ {xs : List P} {vs : List V}, RepPs K H xs vs → RepPs K H (xs ++ ys) (vs ++ us)
  | [], vs, h => by
    obtain rfl : vs = [] := h
    exact hy
  | x :: xs, vs, h => by
    obtain ⟨v, r, rfl, h1, h2⟩ := h
    exact ⟨v, r ++ us, rfl, h1, RepPs.append hy h2⟩
theorem RepPs.get {K : PySem.W.Frag} {H : Hp} : ∀ {xs : List P} {vs : List V} {i : Nat} {x : P}, RepPs K H xs vs → xs[i]? = some x → ∃ v, vs[i]? = some v ∧ RepP K H x v
  | [], _, i, _, _, e => by simp at e
  | x :: xs, vs, 0, y, h, e => by
    obtain ⟨v, r, rfl, h1, h2⟩ := h
    obtain rfl : x = y := by simpa using e
    exact ⟨v, rfl, h1⟩
  | x :: xs, vs, i + 1, y, h, e => by
    obtain ⟨v, r, rfl, h1, h2⟩ := h
    obtain ⟨u, q1, q2⟩ := RepPs.get (i := i) h2 (by simpa using e)
    exact ⟨u, by simpa using q1, q2⟩
theorem RepPs.drop {K : PySem.W.Frag} {H : Hp} : ∀ {xs : List P} {vs : List V} (n : Nat), RepPs K H xs vs → RepPs K H (xs.drop n) (vs.drop n)
  | _, _, 0, h => h
  | [], vs, n + 1, h => by
    obtain rfl : vs = [] := h
    exact rfl
  | x :: xs, vs, n + 1, h => by
    obtain ⟨v, r, rfl, _, h2⟩ := h
    exact RepPs.drop n h2
theorem RepPs.take {K : PySem.W.Frag} {H : Hp} : ∀ {xs : List P} {vs : List V} (n : Nat), RepPs K H xs vs → RepPs K H (xs.take n) (vs.take n)
  | _, _, 0, _ => rfl
  | [], vs, n + 1, h => by
    obtain rfl : vs = [] := h
    exact rfl
  | x :: xs, vs, n + 1, h => by
    obtain ⟨v, r, rfl, h1, h2⟩ := h
    exact ⟨v, _, rfl, h1, RepPs.take n h2⟩
theorem RepPs.int {K : PySem.W.Frag} {H : Hp} : ∀ {ns : List Int} {vs : List V}, RepPs K H (ns.map P.int) vs → vs = ns.map V.int
  | [], _, h => h
  | n :: ns, _, h => by
    obtain ⟨v, r, rfl, h1, h2⟩ := h
    obtain rfl : v = .int n := h1
    rw [RepPs.int h2]
    rfl
theorem RepPs.ofInt {K : PySem.W.Frag} {H : Hp} : ∀ (ns : List Int), RepPs K H (ns.map P.int) (ns.map V.int)
  | [] => rfl
  | n :: ns => ⟨_, _, rfl, rfl, RepPs.ofInt ns⟩
theorem RepPs.str {K : PySem.W.Frag} {H : Hp} : ∀ {ns : List Str} {vs : List V}, RepPs K H (ns.map P.str) vs → vs = ns.map V.str
  | [], _, h => h
  | n :: ns, _, h => by
    obtain ⟨v, r, rfl, h1, h2⟩ := h
    obtain rfl : v = .str n := h1
    rw [RepPs.str h2]
    rfl
theorem RepPs.ofStr {K : PySem.W.Frag} {H : Hp} : ∀ (ns : List Str), RepPs K H (ns.map P.str) (ns.map V.str)
  | [] => rfl
  | n :: ns => ⟨_, _, rfl, rfl, RepPs.ofStr ns⟩
theorem RepPs.bl {K : PySem.W.Frag} {H : Hp} : ∀ {ns : List Bool} {vs : List V}, RepPs K H (ns.map P.bl) vs → vs = ns.map V.bl
  | [], _, h => h
  | n :: ns, _, h => by
    obtain ⟨v, r, rfl, h1, h2⟩ := h
    obtain rfl : v = .bl n := h1
    rw [RepPs.bl h2]
    rfl

/-- + of ints, texts, tuples, lists -/
def fAdd : D → D → Rn Unit R
  | .p (.int i), .p (.int j) => .ok (.own (.p (.int (i + j))))
  | .p (.str i), .p (.str j) => if i.length + j.length ≤ sizeLine then .ok (.own (.p (.str (i ++ j)))) else .bad
  | .p (.tup xs), .p (.tup ys) => if xs.length + ys.length ≤ sizeLine then .ok (.own (.p (.tup (xs ++ ys)))) else .bad
  | .lst xs, .lst ys => if xs.length + ys.length ≤ sizeLine then .ok (.own (.lst (xs ++ ys))) else .bad
  | _, _ => .bad
def rAddA (K : PySem.W.Frag) : R2 := fun x y H Q => (rI0 (fun i j => .int (i + j)) x y H Q) ∨ (∃ i j, x = .str i ∧ y = .str j ∧ i.length + j.length ≤ sizeLine ∧ Q (.str (i ++ j)) H) ∨ rCatA K x y H Q ∨ rCat x y H Q
theorem op_addA : OpR X (binaryOp .Add) (rAddA X.K) := op_add.or (op_add_str.or (op_catA.or op_cat))
theorem og_add {K : PySem.W.Frag} : OpG K (rAddA K) fAdd := by
  intro H x y v u fx fy Q E rx ry h
  unfold fAdd at h
  split at h
  · rename_i i j
    obtain rfl : v = .int i := rx.1
    obtain rfl : u = .int j := ry.1
    exact .inl ⟨i, j, rfl, rfl, RepP.up h rfl⟩
  · rename_i i j
    obtain rfl : v = .str i := rx.1
    obtain rfl : u = .str j := ry.1
    split at h
    · rename_i hz
      exact .inr (.inl ⟨i, j, rfl, rfl, hz, RepP.up h rfl⟩)
    · exact h.elim
  · rename_i xs ys
    split at h
    · rename_i hz
      obtain ⟨⟨a, vs, rfl, qa, ra⟩, _⟩ := rx
      obtain ⟨⟨b, us, rfl, qb, rb⟩, _⟩ := ry
      refine .inr (.inr (.inl ⟨a, b, vs, us, rfl, rfl, qa, qb, by rw [ra.len, rb.len]; exact hz, fun z => ?_, fun _ z => ?_, fun _ _ p hp => ?_⟩))
      · subst z
        cases xs with
        | nil => exact RepP.up h ⟨b, us, rfl, qb, rb⟩
        | cons x xs => obtain ⟨_, _, z, _⟩ := ra; cases z
      · subst z
        cases ys with
        | nil => rw [List.append_nil] at h; exact RepP.up h ⟨a, vs, rfl, qa, ra⟩
        | cons x xs => obtain ⟨_, _, z, _⟩ := rb; cases z
      · refine RepD.up hp h ⟨[], ⟨⟨p, vs ++ us, rfl, .inl (.inl upd_same), ?_⟩, rfl⟩, List.nodup_nil, fun _ z => nomatch z⟩
        exact RepPs.kt (Same.kt (Same.new hp)) _ _ (rb.append ra)
    · exact h.elim
  · rename_i xs ys
    split at h
    · rename_i hz
      obtain ⟨a, vs, rfl, qa, _, ra⟩ := rx
      obtain ⟨b, us, rfl, qb, _, rb⟩ := ry
      refine .inr (.inr (.inr ⟨a, b, vs, us, rfl, rfl, qa, qb, by rw [ra.len, rb.len]; exact hz, fun p hp => ?_⟩))
      refine RepD.up hp h ⟨[p], ⟨p, vs ++ us, rfl, upd_same, rfl, RepPs.kt (Same.kt (Same.new hp)) _ _ (rb.append ra)⟩, by simp, fun b hb => by
        obtain rfl : b = p := by simpa using hb
        exact hp⟩
    · exact h.elim
  · exact h.elim
theorem de_add (ha : DE W X a ga) (hb : DE W X b gb) : DE W X (.BinOp a .Add b pos) (gOp2 fAdd ga gb) := de_op2 op_addA og_add ha hb

/-- ints under a condition -/
def fIntC (C : Int → Int → Prop) [∀ i j, Decidable (C i j)] (g : Int → Int → Int) : D → D → Rn Unit R
  | .p (.int i), .p (.int j) => if C i j then .ok (.own (.p (.int (g i j)))) else .bad
  | _, _ => .bad
theorem og_intC {K : PySem.W.Frag} {C : Int → Int → Prop} [∀ i j, Decidable (C i j)] {g : Int → Int → Int} : OpG K (rI C fun i j => .int (g i j)) (fIntC C g) := by
  intro H x y v u fx fy Q E rx ry h
  unfold fIntC at h
  split at h
  · rename_i i j
    split at h
    · rename_i hc
      obtain rfl : v = .int i := rx.1
      obtain rfl : u = .int j := ry.1
      exact ⟨i, j, rfl, rfl, hc, RepP.up h rfl⟩
    · exact h.elim
  · exact h.elim
instance : ∀ i j, Decidable (CMulW i j) := fun i j => by unfold CMulW; infer_instance
instance : ∀ i j, Decidable (CDivW i j) := fun i j => by unfold CDivW; infer_instance
instance : ∀ i j, Decidable (CDivN i j) := fun i j => by unfold CDivN; infer_instance
instance : ∀ i j, Decidable (CPow i j) := fun i j => by unfold CPow; infer_instance
instance : ∀ i j, Decidable (CShl i j) := fun i j => by unfold CShl; infer_instance
/-- * of ints; of a list or text by an int comes later -/
def fMul : D → D → Rn Unit R
  | .lst xs, .p (.int k) => if -(2 ^ 63) ≤ k ∧ k < 2 ^ 63 ∧ xs.length * k.toNat ≤ sizeLine then .ok (.own (.lst (List.replicate k.toNat xs).flatten)) else .bad
  | x, y => fIntC CMulW (fun i j => i * j) x y
theorem RepPs.rep {K : PySem.W.Frag} {H : Hp} {xs : List P} {vs : List V} (h : RepPs K H xs vs) : ∀ n : Nat, RepPs K H (List.replicate n xs).flatten (List.replicate n vs).flatten
  | 0 => rfl
  | n + 1 => by
    rw [List.replicate_succ, List.replicate_succ, List.flatten_cons, List.flatten_cons]
    exact RepPs.append (RepPs.rep h n) h
theorem op_mulA : OpR X (binaryOp .Mult) (fun x y H Q => rRep x y H Q ∨ rI CMulW (fun i j => .int (i * j)) x y H Q) := op_rep.or op_mulW
theorem og_mul {K : PySem.W.Frag} : OpG K (fun x y H Q => rRep x y H Q ∨ rI CMulW (fun i j => .int (i * j)) x y H Q) fMul := by
  intro H x y v u fx fy Q E rx ry h
  unfold fMul at h
  split at h
  · rename_i xs k
    split at h
    · rename_i hz
      obtain ⟨a, vs, rfl, qa, _, ra⟩ := rx
      obtain rfl : u = .int k := ry.1
      refine .inl ⟨a, k, vs, rfl, rfl, qa, hz.1, hz.2.1, by rw [ra.len]; exact hz.2.2, fun p hp => ?_⟩
      refine RepD.up hp h ⟨[p], ⟨p, _, rfl, upd_same, rfl, RepPs.kt (Same.kt (Same.new hp)) _ _ (ra.rep k.toNat)⟩, by simp, fun b hb => by
        obtain rfl : b = p := by simpa using hb
        exact hp⟩
    · exact h.elim
  · exact .inr (og_intC H x y v u fx fy Q E rx ry h)
theorem de_mul (ha : DE W X a ga) (hb : DE W X b gb) : DE W X (.BinOp a .Mult b pos) (gOp2 fMul ga gb) := de_op2 op_mulA og_mul ha hb
/-- // -/
def fDiv : D → D → Rn Unit R
  | .p (.int i), .p (.int j) => if CDivW i j then .ok (.own (.p (.int (i / j)))) else if CDivN i j then .ok (.own (.p (.int (i.fdiv j)))) else .bad
  | _, _ => .bad
theorem op_divA : OpR X (binaryOp .FloorDiv) (fun x y H Q => rI CDivW (fun i j => .int (i / j)) x y H Q ∨ rI CDivN (fun i j => .int (i.fdiv j)) x y H Q) := op_fdivW.or op_fdivN
theorem og_div {K : PySem.W.Frag} : OpG K (fun x y H Q => rI CDivW (fun i j => .int (i / j)) x y H Q ∨ rI CDivN (fun i j => .int (i.fdiv j)) x y H Q) fDiv := by
  intro H x y v u fx fy Q E rx ry h
  unfold fDiv at h
  split at h
  · rename_i i j
    obtain rfl : v = .int i := rx.1
    obtain rfl : u = .int j := ry.1
    split at h
    · rename_i hc
      exact .inl ⟨i, j, rfl, rfl, hc, RepP.up h rfl⟩
    · split at h
      · rename_i hc
        exact .inr ⟨i, j, rfl, rfl, hc, RepP.up h rfl⟩
      · exact h.elim
  · exact h.elim
theorem de_div (ha : DE W X a ga) (hb : DE W X b gb) : DE W X (.BinOp a .FloorDiv b pos) (gOp2 fDiv ga gb) := de_op2 op_divA og_div ha hb
def fMod : D → D → Rn Unit R
  | .p (.int i), .p (.int j) => if 0 < j then .ok (.own (.p (.int (i % j)))) else if j ≠ 0 then .ok (.own (.p (.int (i.fmod j)))) else .bad
  | _, _ => .bad
theorem op_modA : OpR X (binaryOp .Mod) (fun x y H Q => rI (fun _ j => 0 < j) (fun i j => .int (i % j)) x y H Q ∨ rI (fun _ j => j ≠ 0) (fun i j => .int (i.fmod j)) x y H Q) := op_mod.or op_modN
theorem og_mod {K : PySem.W.Frag} : OpG K (fun x y H Q => rI (fun _ j => 0 < j) (fun i j => .int (i % j)) x y H Q ∨ rI (fun _ j => j ≠ 0) (fun i j => .int (i.fmod j)) x y H Q) fMod := by
  intro H x y v u fx fy Q E rx ry h
  unfold fMod at h
  split at h
  · rename_i i j
    obtain rfl : v = .int i := rx.1
    obtain rfl : u = .int j := ry.1
    split at h
    · rename_i hc
      exact .inl ⟨i, j, rfl, rfl, hc, RepP.up h rfl⟩
    · split at h
      · rename_i hc
        exact .inr ⟨i, j, rfl, rfl, hc, RepP.up h rfl⟩
      · exact h.elim
  · exact h.elim
theorem de_mod (ha : DE W X a ga) (hb : DE W X b gb) : DE W X (.BinOp a .Mod b pos) (gOp2 fMod ga gb) := de_op2 op_modA og_mod ha hb
theorem de_pow (ha : DE W X a ga) (hb : DE W X b gb) : DE W X (.BinOp a .Pow b pos) (gOp2 (fIntC CPow fun i j => i ^ j.toNat) ga gb) := de_op2 op_pow og_intC ha hb
theorem de_shl (ha : DE W X a ga) (hb : DE W X b gb) : DE W X (.BinOp a .LShift b pos) (gOp2 (fIntC CShl fun i j => i * 2 ^ j.toNat) ga gb) := de_op2 op_shlW og_intC ha hb
theorem de_shr (ha : DE W X a ga) (hb : DE W X b gb) : DE W X (.BinOp a .RShift b pos) (gOp2 (fIntC (fun _ j => 0 ≤ j) fun i j => i / 2 ^ j.toNat) ga gb) := de_op2 op_shr og_intC ha hb
def fNeg : D → Rn Unit R
  | .p (.int i) => .ok (.own (.p (.int (-i))))
  | _ => .bad
theorem de_neg (ha : DE W X a ga) : DE W X (.UnaryOp .USub a pos) (gOp1 fNeg ga) := by
  refine PE.imp (pe_un un_neg ha) fun σ H Q ⟨B, Rg, δ, S0, w⟩ => ?_
  refine tD_val S0 w fun r1 v1 H1 s1 rv1 S1 w1 => ?_
  unfold fNeg at w1
  split at w1
  · rename_i i e
    obtain rfl : v1 = .int i := rv1.getP e
    exact ⟨i, rfl, RepP.up w1 rfl⟩
  · exact w1.elim
end
end DL
/-! DLc: derivations of tests, displays, subscripts, slices, arguments. -/
namespace DL
open PySem PySem.Spec PyProof.Rows L2

/-! ### equality of data -/
mutual
def P.py : P → PyData
  | .non => .none
  | .bl b => .bool b
  | .int i => .int i
  | .str x => .str x
  | .tup xs => .tuple (P.pys xs)
def P.pys : List P → List PyData
  | [] => []
  | x :: xs => x.py :: P.pys xs
end
section
variable {K : PySem.W.Frag} {H : Hp}
mutual
theorem RepP.dp : ∀ (x : P) (v : V), RepP K H x v → Dp K H v x.py
  | .non, v, h => by
    obtain rfl : v = .non := h
    exact .non
  | .bl b, v, h => by
    obtain rfl : v = .bl b := h
    exact .bl b
  | .int i, v, h => by
    obtain rfl : v = .int i := h
    exact .int i
  | .str x, v, h => by
    obtain rfl : v = .str x := h
    exact .str x
  | .tup xs, v, h => by
    obtain ⟨a, vs, rfl, q, r⟩ := h
    exact .tup q (RepPs.dp xs vs r)
theorem RepPs.dp : ∀ (xs : List P) (vs : List V), RepPs K H xs vs → DpAll K H vs (P.pys xs)
  | [], vs, h => by
    obtain rfl : vs = [] := h
    exact .nil
  | x :: xs, vs, h => by
    obtain ⟨v, r, rfl, h1, h2⟩ := h
    exact .cons (RepP.dp x v h1) (RepPs.dp xs r h2)
end
end
/-- what may be compared by == -/
def D.py? : D → Option PyData
  | .p x => some x.py
  | .lst xs => some (.list (P.pys xs))
  | _ => none
def P.scal : P → P → Bool
  | .non, .non => true
  | .non, .int _ => true
  | .int _, .non => true
  | .non, .bl _ => true
  | .bl _, .non => true
  | .non, .str _ => true
  | .str _, .non => true
  | .int _, .int _ => true
  | .bl _, .bl _ => true
  | .str _, .str _ => true
  | .int _, .str _ => true
  | .str _, .int _ => true
  | .bl _, .str _ => true
  | .str _, .bl _ => true
  | _, _ => false
def P.seq : P → P → Bool
  | .non, .non => true
  | .int i, .int j => decide (i = j)
  | .bl a, .bl b => decide (a = b)
  | .str a, .str b => decide (a = b)
  | _, _ => false
def fEqB (neg : Bool) (x y : D) : Rn Unit Bool :=
  match x, y with
  | .p a, .p b => if P.scal a b = true then .ok (if neg then !P.seq a b else P.seq a b)
    else if SeqAt.shaped a.py = true ∧ SeqAt.shaped b.py = true then .ok (if neg then !PyData.eqv a.py b.py else PyData.eqv a.py b.py) else .bad
  | x, y => match x.py?, y.py? with
    | some a, some b => if SeqAt.shaped a = true ∧ SeqAt.shaped b = true then .ok (if neg then !PyData.eqv a b else PyData.eqv a b) else .bad
    | _, _ => .bad
def fB (f : D → D → Rn Unit Bool) (x y : D) : Rn Unit R := (f x y).bind fun b => .ok (.own (.p (.bl b)))
section
variable {K : PySem.W.Frag} {H : Hp}
theorem D.py_dp {x : D} {v : V} {fp : List Addr} {d : PyData} (r : RepD K H x v fp) (e : x.py? = some d) : Dp K H v d := by
  cases x with
  | p x =>
    obtain rfl : x.py = d := by simpa [D.py?] using e
    exact RepP.dp x v r.1
  | lst xs =>
    obtain rfl : PyData.list (P.pys xs) = d := by simpa [D.py?] using e
    obtain ⟨a, vs, rfl, q, _, r⟩ := r
    exact .lst (SqL.of q) (RepPs.dp xs vs r)
  | _ => cases e
theorem scal_ok {a b : P} {v u : V} (ra : RepP K H a v) (rb : RepP K H b u) (h : P.scal a b = true) : L2.scal v u = true ∧ decide (v = u) = P.seq a b := by
  cases a <;> cases b <;> first
    | (exfalso; revert h; simp [P.scal]; done)
    | (obtain rfl := (ra : v = _); obtain rfl := (rb : u = _); exact ⟨rfl, by simp [P.seq]⟩)
end
def rEqA (K : PySem.W.Frag) : R2 := fun x y H Q => rEq x y H Q ∨ rEqD K x y H Q
def rNeA (K : PySem.W.Frag) : R2 := fun x y H Q => rNe x y H Q ∨ rNeD K x y H Q
section
variable {K : PySem.W.Frag}
theorem og_eqx (neg : Bool) : OpG K (if neg then rNeA K else rEqA K) (fB (fEqB neg)) := by
  intro H x y v u fx fy Q E rx ry h
  have h' := Rn.wp_bind.mp h
  unfold fEqB at h'
  have dd : ∀ {a b : PyData}, x.py? = some a → y.py? = some b → (if SeqAt.shaped a = true ∧ SeqAt.shaped b = true then Rn.ok (if neg then !PyData.eqv a b else PyData.eqv a b) else Rn.bad : Rn Unit Bool).wp (fun b => ((Rn.ok (R.own (D.p (.bl b))) : Rn Unit R)).wp (fun r => ∀ v H', Same H H' → RepR K H H' r v → Q v H') E) E →
      (if neg then rNeA K else rEqA K) v u H Q := by
    intro a b ea eb q
    split at q
    · rename_i hs
      cases neg with
      | true => exact .inr ⟨a, b, D.py_dp rx ea, D.py_dp ry eb, hs.1, hs.2, RepP.up q rfl⟩
      | false => exact .inr ⟨a, b, D.py_dp rx ea, D.py_dp ry eb, hs.1, hs.2, RepP.up q rfl⟩
    · exact q.elim
  split at h'
  · rename_i a b
    split at h'
    · rename_i hs
      obtain ⟨z1, z2⟩ := scal_ok rx.1 ry.1 hs
      cases neg with
      | true => exact .inl ⟨z1, by rw [z2]; exact RepP.up h' rfl⟩
      | false => exact .inl ⟨z1, by rw [z2]; exact RepP.up h' rfl⟩
    · exact dd rfl rfl h'
  · split at h'
    · rename_i a b ea eb
      exact dd ea eb h'
    · exact h'.elim
theorem og_eq : OpG K (rEqA K) (fB (fEqB false)) := og_eqx (K := K) false
theorem og_ne : OpG K (rNeA K) (fB (fEqB true)) := og_eqx (K := K) true
/-- < and its kin of ints -/
def fIntB (g : Int → Int → Bool) : D → D → Rn Unit Bool
  | .p (.int i), .p (.int j) => .ok (g i j)
  | _, _ => .bad
theorem og_intB {g : Int → Int → Bool} : OpG K (rI0 fun i j => .bl (g i j)) (fB (fIntB g)) := by
  intro H x y v u fx fy Q E rx ry h
  have h' := Rn.wp_bind.mp h
  unfold fIntB at h'
  split at h'
  · rename_i i j
    obtain rfl : v = .int i := rx.1
    obtain rfl : u = .int j := ry.1
    exact ⟨i, j, rfl, rfl, RepP.up h' rfl⟩
  · exact h'.elim
abbrev fLt := fIntB fun i j => decide (i < j)
abbrev fLe := fIntB fun i j => decide (i ≤ j)
abbrev fGt := fIntB fun i j => decide (j < i)
abbrev fGe := fIntB fun i j => decide (j ≤ i)
/-- is None -/
def fIsN (neg : Bool) : D → D → Rn Unit Bool
  | x, .p .non => match x with
    | .p .non => .ok (!neg)
    | _ => .ok neg
  | _, _ => .bad
theorem RepD.notN {H : Hp} {x : D} {v : V} {fp : List Addr} (r : RepD K H x v fp) (h : x ≠ .p .non) : v ≠ .non := by
  cases x with
  | p x =>
    cases x with
    | non => exact absurd rfl h
    | bl b => obtain rfl : v = .bl b := r.1; exact fun z => nomatch z
    | int b => obtain rfl : v = .int b := r.1; exact fun z => nomatch z
    | str b => obtain rfl : v = .str b := r.1; exact fun z => nomatch z
    | tup b => obtain ⟨⟨a, _, rfl, _⟩, _⟩ := r; exact fun z => nomatch z
  | lst xs => obtain ⟨a, _, rfl, _⟩ := r; exact fun z => nomatch z
  | ls xs => obtain ⟨a, _, _, rfl, _⟩ := r; exact fun z => nomatch z
  | tp xs => obtain ⟨a, _, rfl, _⟩ := r; exact fun z => nomatch z
  | dic xs => obtain ⟨a, _, rfl, _⟩ := r; exact fun z => nomatch z
  | dit xs => obtain ⟨a, _, rfl, _⟩ := r; exact fun z => nomatch z
  | orc => obtain ⟨a, _, _, rfl, _⟩ := r; exact fun z => nomatch z
  | scr ns => obtain ⟨_, a, rfl, _⟩ := r; exact fun z => nomatch z
theorem og_isN : OpG K (fun x y H Q => y = .non ∧ Q (.bl (decide (x = .non))) H) (fB (fIsN false)) := by
  intro H x y v u fx fy Q E rx ry h
  have h' := Rn.wp_bind.mp h
  unfold fIsN at h'
  split at h'
  · obtain rfl : u = .non := ry.1
    refine ⟨rfl, ?_⟩
    split at h'
    · obtain rfl : v = .non := rx.1
      exact RepP.up h' rfl
    · rename_i hn
      rw [decide_eq_false (rx.notN hn)]
      exact RepP.up h' rfl
  · exact h'.elim
theorem og_notN : OpG K (fun x y H Q => y = .non ∧ Q (.bl (!decide (x = .non))) H) (fB (fIsN true)) := by
  intro H x y v u fx fy Q E rx ry h
  have h' := Rn.wp_bind.mp h
  unfold fIsN at h'
  split at h'
  · obtain rfl : u = .non := ry.1
    refine ⟨rfl, ?_⟩
    split at h'
    · obtain rfl : v = .non := rx.1
      exact RepP.up h' rfl
    · rename_i hn
      rw [decide_eq_false (rx.notN hn)]
      exact RepP.up h' rfl
  · exact h'.elim
end

/-! ### tests -/
def D.bool? : R → Rn Unit Bool := fun r => match r.d with
  | .p (.bl b) => .ok b
  | _ => .bad
/-- the bool that an expression gives -/
def gTB (g : GE) : GT := fun δ => (g δ).bind D.bool?
section
variable {W : WX} {X : Cx} {a b e : Expr} {ga gb gc : GE} {ta tb : GT} {pos : Pos}
theorem tDT_of {c : DC} {g : GE} {σ : L2.St} {H : Hp} {Q : Bool → Hp → Prop} (h : tDT c (gTB g) σ H Q) : tD c g σ H fun x H' => ∃ k, x = .bl k ∧ Q k H' := by
  obtain ⟨B, Rg, δ, S0, w⟩ := h
  refine ⟨B, Rg, δ, S0, Rn.wp_mono (Rn.wp_bind.mp w) (fun r q v H' s rv => ?_) fun _ _ q => q⟩
  unfold D.bool? at q
  split at q
  · rename_i k e
    obtain rfl : v = .bl k := rv.getP e
    exact ⟨k, rfl, q H' s⟩
  · exact q.elim
theorem de_cmp {op : CmpOp} {r : R2} {f : D → D → Rn Unit R} (ho : OpR X (compareOp op) r) (hf : OpG X.K r f) (ha : DE W X a ga) (hb : DE W X b gb) (hm : behindInMarks op b = false) : DE W X (.Compare a [op] [b] pos) (gOp2 f ga gb) :=
  PE.imp (pe_cmpR ho ha hb hm) (op2_of hf)
theorem dt_cmp {op : CmpOp} {r : R2} {f : D → D → Rn Unit R} (ho : OpR X (compareOp op) r) (hf : OpG X.K r f) (ha : DE W X a ga) (hb : DE W X b gb) (hm : behindInMarks op b = false) : DT W X (.Compare a [op] [b] pos) (gTB (gOp2 f ga gb)) :=
  PT.imp (pt_cmpR ho ha hb hm) fun σ H Q h => op2_of hf σ H _ (tDT_of h)
/-- a op b op' c -/
def gChain (f f' : D → D → Rn Unit Bool) (ga gb gc : GE) : GE := fun δ => (ga δ).bind fun x => (gb δ).bind fun y => (f x.d y.d).bind fun k => if k = true then (gc δ).bind fun z => fB f' y.d z.d else .ok (.own (.p (.bl false)))
theorem chain_of {r r' : R2} {f f' : D → D → Rn Unit Bool} (hf : OpG X.K r (fB f)) (hf' : OpG X.K r' (fB f')) (σ : L2.St) (H : Hp) (Q : VK) (h : tD (dc X W) (gChain f f' ga gb gc) σ H Q) :
    tChain r r' (tD (dc X W) ga) (tD (dc X W) gb) (tD (dc X W) gc) σ H Q := by
  obtain ⟨B, Rg, δ, S0, w⟩ := h
  refine tD_val S0 w fun r1 v1 H1 s1 rv1 S1 w1 => ?_
  refine tD_val S1 w1 fun r2 v2 H2 s2 rv2 S2 w2 => ?_
  obtain ⟨f1, q1⟩ := (rv1.grow s2).look
  obtain ⟨f2, q2⟩ := rv2.look
  refine hf H2 r1.d r2.d v1 v2 f1 f2 _ (fun cl _ => ∀ C H', (dc X W).mg cl = some (.ref C) → Same H2 H' → (dc X W).W (.ref C) none σ H') q1 q2 (Rn.wp_bind.mpr (Rn.wp_mono (Rn.wp_bind.mp w2) (fun k q v H3 s3 rv3 => ?_) fun _ _ q => q))
  obtain rfl : v = .bl k := rv3.getP rfl
  refine ⟨k, rfl, ?_⟩
  cases k with
  | false =>
    rw [if_neg (by decide)] at q ⊢
    exact q _ _ s3 (RepR.plain rfl)
  | true =>
    rw [if_pos rfl] at q ⊢
    refine tD_val (S2.grow s3) (Rn.wp_mono q (fun r q v H' s rv => q v H' (s3.trans s) (rv.back s3)) fun cl _ q C H' e s => q C H' e (s3.trans s)) fun r4 v4 H4 s4 rv4 S4 w4 => ?_
    obtain ⟨f4, q4⟩ := rv4.look
    obtain ⟨f2', q2'⟩ := ((rv2.grow s3).grow s4).look
    exact hf' H4 r2.d r4.d v2 v4 f2' f4 Q _ q2' q4 w4
theorem de_chain {op op' : CmpOp} {c : Expr} {r r' : R2} {f f' : D → D → Rn Unit Bool} (ho : OpR X (compareOp op) r) (hf : OpG X.K r (fB f)) (ho' : OpR X (compareOp op') r') (hf' : OpG X.K r' (fB f')) (ha : DE W X a ga) (hb : DE W X b gb) (hc : DE W X c gc)
    (hm : lastMarks [op, op'] [b, c] = false := by with_unfolding_all rfl) : DE W X (.Compare a [op, op'] [b, c] pos) (gChain f f' ga gb gc) := PE.imp (pe_chain ho ho' ha hb hc hm) (chain_of hf hf')
theorem dt_chain {op op' : CmpOp} {c : Expr} {r r' : R2} {f f' : D → D → Rn Unit Bool} (ho : OpR X (compareOp op) r) (hf : OpG X.K r (fB f)) (ho' : OpR X (compareOp op') r') (hf' : OpG X.K r' (fB f')) (ha : DE W X a ga) (hb : DE W X b gb) (hc : DE W X c gc)
    (hm : lastMarks [op, op'] [b, c] = false := by with_unfolding_all rfl) : DT W X (.Compare a [op, op'] [b, c] pos) (gTB (gChain f f' ga gb gc)) := PT.imp (pt_chain ho ho' ha hb hc hm) fun σ H Q h => chain_of hf hf' σ H _ (tDT_of h)
/-- truth of a value -/
def fTru : D → Rn Unit Bool
  | .p .non => .ok false
  | .p (.bl b) => .ok b
  | .p (.int i) => .ok (i != 0)
  | .p (.str x) => if x.length ≤ sizeLine then .ok ((x.length : Int) != 0) else .bad
  | .p (.tup xs) => .ok (!xs.isEmpty)
  | .lst xs => .ok (!xs.isEmpty)
  | .dic xs => .ok (!xs.isEmpty)
  | _ => .bad
def gTru (g : GE) : GT := fun δ => (g δ).bind fun r => fTru r.d
theorem RepPs.isEmpty {K : PySem.W.Frag} {H : Hp} {xs : List P} {vs : List V} (h : RepPs K H xs vs) : xs.isEmpty = vs.isEmpty := by
  have := h.len
  cases xs <;> cases vs <;> simp_all
theorem RepKs.isEmpty {K : PySem.W.Frag} {H : Hp} {κ : Type} {xs : List (κ × P)} {vs : List (κ × V)} (h : RepKs K H xs vs) : xs.isEmpty = vs.isEmpty := by
  cases xs with
  | nil => obtain rfl : vs = [] := h; rfl
  | cons x xs => obtain ⟨k, x⟩ := x; obtain ⟨_, _, rfl, _⟩ := h; rfl
theorem dt_tru (ha : DE W X a ga) (he : ∀ whole, isTrue a X.env whole = (do let v ← whole; standAt a.pos; holding [v] (truthy v)) := by intro _; rfl) : DT W X a (gTru ga) := by
  refine PT.imp (pt_truth ha he) fun σ H Q ⟨B, Rg, δ, S0, w⟩ => ?_
  refine tD_bool S0 w fun r1 v1 H1 s1 rv1 S1 w1 => ?_
  obtain ⟨f1, q1⟩ := rv1.look
  generalize r1.d = d at q1 w1
  unfold fTru at w1
  split at w1
  · obtain rfl : v1 = .non := q1.1
    exact ⟨_, rfl, w1 H1 (Same.refl _)⟩
  · rename_i b
    obtain rfl : v1 = .bl b := q1.1
    exact ⟨_, rfl, w1 H1 (Same.refl _)⟩
  · rename_i b
    obtain rfl : v1 = .int b := q1.1
    exact ⟨_, rfl, w1 H1 (Same.refl _)⟩
  · rename_i b
    obtain rfl : v1 = .str b := q1.1
    split at w1
    · rename_i hz
      exact ⟨_, ⟨hz, rfl⟩, w1 H1 (Same.refl _)⟩
    · exact w1.elim
  · rename_i xs
    obtain ⟨⟨p, vs, rfl, q, r⟩, _⟩ := q1
    exact ⟨_, .inr (.inl ⟨vs, q, by rw [r.isEmpty]⟩), w1 H1 (Same.refl _)⟩
  · rename_i xs
    obtain ⟨p, vs, rfl, q, _, r⟩ := q1
    exact ⟨_, .inl ⟨vs, SqL.of q, by rw [r.isEmpty]⟩, w1 H1 (Same.refl _)⟩
  · rename_i xs
    obtain ⟨p, vs, rfl, q, _, r⟩ := q1
    exact ⟨_, .inr (.inr ⟨vs, q, by rw [r.isEmpty]⟩), w1 H1 (Same.refl _)⟩
  · exact w1.elim
def gAnd (ta tb : GT) : GT := fun δ => (ta δ).bind fun k => if k = true then tb δ else .ok false
def gOr (ta tb : GT) : GT := fun δ => (ta δ).bind fun k => if k = true then .ok true else tb δ
def gNot (ta : GT) : GT := fun δ => (ta δ).bind fun k => .ok (!k)
theorem and_of {c : DC} (σ : L2.St) (H : Hp) (Q : Bool → Hp → Prop) (h : tDT c (gAnd ta tb) σ H Q) : tAnd (tDT c ta) (tDT c tb) σ H Q := by
  obtain ⟨B, Rg, δ, S0, w⟩ := h
  refine tDT_seq (Qa := fun b _ H' => Q b H') S0 (fun _ _ _ _ q => q) w fun k H1 s1 S1 w1 => ?_
  cases k with
  | true =>
    rw [if_pos rfl] at w1 ⊢
    exact ⟨B, Rg, δ, S1, w1⟩
  | false =>
    rw [if_neg (by decide)] at w1 ⊢
    exact w1 H1 (Same.refl _)
theorem or_of {c : DC} (σ : L2.St) (H : Hp) (Q : Bool → Hp → Prop) (h : tDT c (gOr ta tb) σ H Q) : tOr (tDT c ta) (tDT c tb) σ H Q := by
  obtain ⟨B, Rg, δ, S0, w⟩ := h
  refine tDT_seq (Qa := fun b _ H' => Q b H') S0 (fun _ _ _ _ q => q) w fun k H1 s1 S1 w1 => ?_
  cases k with
  | true =>
    rw [if_pos rfl] at w1 ⊢
    exact w1 H1 (Same.refl _)
  | false =>
    rw [if_neg (by decide)] at w1 ⊢
    exact ⟨B, Rg, δ, S1, w1⟩
theorem dw_and1 (ha : DT W X a ta) : DW W X (.BoolOp .And [a] pos) ta := pw_and1 ha
theorem dw_or1 (ha : DT W X a ta) : DW W X (.BoolOp .Or [a] pos) ta := pw_or1 ha
theorem dw_and {rest : List Expr} (ha : DT W X a ta) (hb : DW W X (.BoolOp .And (b :: rest) pos) tb) : DW W X (.BoolOp .And (a :: b :: rest) pos) (gAnd ta tb) := PW.imp (pw_and ha hb) and_of
theorem dw_or {rest : List Expr} (ha : DT W X a ta) (hb : DW W X (.BoolOp .Or (b :: rest) pos) tb) : DW W X (.BoolOp .Or (a :: b :: rest) pos) (gOr ta tb) := PW.imp (pw_or ha hb) or_of
theorem dt_w (h : DW W X a ta) : DT W X a ta := h.pt
theorem dt_not (ha : DT W X a ta) : DT W X (.UnaryOp .Not a pos) (gNot ta) := by
  refine PT.imp (pt_not ha) fun σ H Q ⟨B, Rg, δ, S0, w⟩ => ?_
  exact tDT_seq (Qa := fun b _ H' => Q b H') S0 (fun _ _ _ _ q => q) w fun k H1 s1 S1 w1 => w1 H1 (Same.refl _)
/-- .. as values -/
def gAndV (ga gb : GE) : GE := fun δ => (ga δ).bind fun r => (D.bool? r).bind fun k => if k = true then gb δ else .ok (.own (.p (.bl false)))
def gOrV (ga gb : GE) : GE := fun δ => (ga δ).bind fun r => (D.bool? r).bind fun k => if k = true then .ok (.own (.p (.bl true))) else gb δ
def gNotV (ga : GE) : GE := fun δ => (ga δ).bind fun r => (D.bool? r).bind fun k => .ok (.own (.p (.bl !k)))
theorem bool_cases {K : PySem.W.Frag} {H H1 : Hp} {r : R} {v : V} {α : Type} {f : Bool → Rn Unit α} {Q : α → Prop} {E : Str → Unit → Prop} (rv : RepR K H H1 r v) (h : ((D.bool? r).bind f).wp Q E) : ∃ k, v = .bl k ∧ (f k).wp Q E := by
  unfold D.bool? at h
  split at h
  · rename_i k e
    exact ⟨k, rv.getP e, h⟩
  · exact h.elim
theorem de_one {op} (ha : DE W X a ga) : DE W X (.BoolOp op [a] pos) ga := pe_one ha
theorem de_and {rest : List Expr} (ha : DE W X a ga) (hb : DE W X (.BoolOp .And (b :: rest) pos) gb) : DE W X (.BoolOp .And (a :: b :: rest) pos) (gAndV ga gb) := by
  refine PE.imp (pe_and ha hb) fun σ H Q ⟨B, Rg, δ, S0, w⟩ => ?_
  refine tD_val S0 w fun r1 v1 H1 s1 rv1 S1 w1 => ?_
  obtain ⟨k, rfl, w1⟩ := bool_cases rv1 w1
  refine ⟨k, rfl, ?_⟩
  cases k with
  | true =>
    rw [if_pos rfl] at w1 ⊢
    exact ⟨B, Rg, δ, S1, w1⟩
  | false =>
    rw [if_neg (by decide)] at w1 ⊢
    exact RepP.up w1 rfl
theorem de_or {rest : List Expr} (ha : DE W X a ga) (hb : DE W X (.BoolOp .Or (b :: rest) pos) gb) : DE W X (.BoolOp .Or (a :: b :: rest) pos) (gOrV ga gb) := by
  refine PE.imp (pe_or ha hb) fun σ H Q ⟨B, Rg, δ, S0, w⟩ => ?_
  refine tD_val S0 w fun r1 v1 H1 s1 rv1 S1 w1 => ?_
  obtain ⟨k, rfl, w1⟩ := bool_cases rv1 w1
  refine ⟨k, rfl, ?_⟩
  cases k with
  | true =>
    rw [if_pos rfl] at w1 ⊢
    exact RepP.up w1 rfl
  | false =>
    rw [if_neg (by decide)] at w1 ⊢
    exact ⟨B, Rg, δ, S1, w1⟩
theorem de_not (ha : DE W X a ga) : DE W X (.UnaryOp .Not a pos) (gNotV ga) := by
  refine PE.imp (pe_not ha) fun σ H Q ⟨B, Rg, δ, S0, w⟩ => ?_
  refine tD_val S0 w fun r1 v1 H1 s1 rv1 S1 w1 => ?_
  obtain ⟨k, rfl, w1⟩ := bool_cases rv1 w1
  exact ⟨k, rfl, RepP.up w1 rfl⟩
def gIf (t : GT) (ga gb : GE) : GE := fun δ => (t δ).bind fun k => if k = true then ga δ else gb δ
theorem de_if {c : Expr} (hc : DT W X c ta) (ha : DE W X a ga) (hb : DE W X b gb) : DE W X (.IfExp c a b pos) (gIf ta ga gb) := by
  refine PE.imp (pe_ifExp hc ha hb) fun σ H Q ⟨B, Rg, δ, S0, w⟩ => ?_
  refine tDT_seq (Qa := fun r H H' => ∀ v, RepR (dc X W).K H H' r v → Q v H') S0 (fun r H1 H2 s q v rv => q v (rv.back s)) (Rn.wp_mono w (fun r q H' s v rv => q v H' s rv) fun _ _ q => q) fun k H1 s1 S1 w1 => ?_
  have w2 := Rn.wp_mono (Q' := fun r => ∀ v H', Same H1 H' → RepR (dc X W).K H1 H' r v → Q v H') w1 (fun r q v H' s rv => q H' s v rv) fun _ _ q => q
  cases k with
  | true =>
    rw [if_pos rfl] at w2 ⊢
    exact ⟨B, Rg, δ, S1, w2⟩
  | false =>
    rw [if_neg (by decide)] at w2 ⊢
    exact ⟨B, Rg, δ, S1, w2⟩
end
end DL
/-! DLd: derivations of arguments, displays, subscripts, slices, built-ins by name. -/
namespace DL
open PySem PySem.Spec PyProof.Rows L2

def LookL (K : PySem.W.Frag) (H : Hp) : List D → List V → Prop
  | [], vs => vs = []
  | d :: ds, vs => ∃ v r, vs = v :: r ∧ (∃ fp, RepD K H d v fp) ∧ LookL K H ds r
section
variable {K : PySem.W.Frag} {H H' : Hp}
theorem RepRs.look : ∀ {rs : List R} {vs : List V} {fp : List Addr}, RepRs K H rs vs fp → LookL K H (rs.map R.d) vs
  | [], _, _, h => h.1
  | .own d :: rs, _, _, h => by
    obtain ⟨v, r, f, g, rfl, rfl, h1, h2⟩ := h
    exact ⟨v, r, rfl, ⟨f, h1⟩, RepRs.look h2⟩
  | .vw d :: rs, _, _, h => by
    obtain ⟨v, r, f, rfl, h1, h2⟩ := h
    exact ⟨v, r, rfl, ⟨f, h1⟩, RepRs.look h2⟩
theorem RepRs.grow (s : Same H H') : ∀ {rs : List R} {vs : List V} {fp : List Addr}, RepRs K H rs vs fp → RepRs K H' rs vs fp
  | [], _, _, h => h
  | .own d :: rs, _, _, h => by
    obtain ⟨v, r, f, g, rfl, rfl, h1, h2⟩ := h
    exact ⟨v, r, f, g, rfl, rfl, RepD.kt (Same.kt s) d v f (fun a _ o e => s a o e) h1, RepRs.grow s h2⟩
  | .vw d :: rs, _, _, h => by
    obtain ⟨v, r, f, rfl, h1, h2⟩ := h
    exact ⟨v, r, f, rfl, RepD.kt (Same.kt s) d v f (fun a _ o e => s a o e) h1, RepRs.grow s h2⟩
theorem RepA.grow {H0 : Hp} {rs : List R} {vs : List V} (h : RepA K H0 H rs vs) (s : Same H H') : RepA K H0 H' rs vs := by
  obtain ⟨fp, q, n, f⟩ := h
  exact ⟨fp, q.grow s, n, f⟩
theorem RepA.back {H0 H1 : Hp} {rs : List R} {vs : List V} (h : RepA K H1 H rs vs) (s : Same H0 H1) : RepA K H0 H rs vs := by
  obtain ⟨fp, q, n, f⟩ := h
  exact ⟨fp, q, n, fun a ha => s.free (f a ha)⟩
end
section
variable {K : PySem.W.Frag} {H : Hp}
mutual
theorem RepD.mem : ∀ {x : D} {v : V} {fp : List Addr}, RepD K H x v fp → ∀ a ∈ fp, H a ≠ none
  | .p x, v, fp, h => fun a ha => by rw [h.2] at ha; cases ha
  | .lst xs, v, fp, h => fun b hb => by
    obtain ⟨a, vs, e, q, rfl, r⟩ := h
    obtain rfl : b = a := by simpa using hb
    rw [q]; exact fun z => nomatch z
  | .ls xs, v, fp, h => fun b hb => by
    obtain ⟨a, vs, f, e, q, rfl, r⟩ := h
    rcases List.mem_cons.mp hb with rfl | hb
    · rw [q]; exact fun z => nomatch z
    · exact RepDs.mem r b hb
  | .tp xs, v, fp, h => by
    obtain ⟨a, vs, e, q, r⟩ := h
    exact RepDs.mem r
  | .dic kvs, v, fp, h => fun b hb => by
    obtain ⟨a, vs, e, q, rfl, r⟩ := h
    obtain rfl : b = a := by simpa using hb
    rw [q]; exact fun z => nomatch z
  | .dit kvs, v, fp, h => fun b hb => by
    obtain ⟨a, vs, e, q, rfl, r⟩ := h
    obtain rfl : b = a := by simpa using hb
    rw [q]; exact fun z => nomatch z
  | .scr ns, v, fp, h => fun a ha => by rw [h.1] at ha; cases ha
  | .orc, v, fp, h => fun b hb => by
    obtain ⟨a, z, ns, e, rfl, q1, q2⟩ := h
    rcases List.mem_cons.mp hb with rfl | hb
    · rw [q1]; exact fun z => nomatch z
    · obtain rfl : b = z := by simpa using hb
      rw [q2]; exact fun z => nomatch z
theorem RepDs.mem : ∀ {xs : List D} {vs : List V} {fp : List Addr}, RepDs K H xs vs fp → ∀ a ∈ fp, H a ≠ none
  | [], vs, fp, h => fun a ha => by rw [h.2] at ha; cases ha
  | x :: xs, vs, fp, h => fun b hb => by
    obtain ⟨v, r, f, g, e, rfl, h1, h2⟩ := h
    rcases List.mem_append.mp hb with z | z
    · exact RepD.mem h1 b z
    · exact RepDs.mem h2 b z
end
end
section
variable {K : PySem.W.Frag} {H : Hp}
/-- what stands for ever -/
def Fast (H : Hp) (a : Addr) : Prop := (∃ xs, H a = some (.tup xs)) ∨ ∃ o u, H a = some (.frz o u)
theorem not_fast {a : Addr} {o : HO} (h : H a = some o) (hm : Mut (some o)) : ¬ Fast H a := fun q => by
  rcases q with ⟨_, q⟩ | ⟨_, _, q⟩ <;> (rw [h] at q; cases q; exact hm)
mutual
theorem RepD.ntup : ∀ {x : D} {v : V} {fp : List Addr}, RepD K H x v fp → ∀ a ∈ fp, ¬ Fast H a
  | .p x, v, fp, h => fun a ha => by rw [h.2] at ha; cases ha
  | .lst xs, v, fp, h => fun b hb => by
    obtain ⟨a, vs, e, q, rfl, r⟩ := h
    obtain rfl : b = a := by simpa using hb
    exact not_fast q trivial
  | .ls xs, v, fp, h => fun b hb => by
    obtain ⟨a, vs, f, e, q, rfl, r⟩ := h
    rcases List.mem_cons.mp hb with rfl | hb
    · exact not_fast q trivial
    · exact RepDs.ntup r b hb
  | .tp xs, v, fp, h => by
    obtain ⟨a, vs, e, q, r⟩ := h
    exact RepDs.ntup r
  | .dic kvs, v, fp, h => fun b hb => by
    obtain ⟨a, vs, e, q, rfl, r⟩ := h
    obtain rfl : b = a := by simpa using hb
    exact not_fast q trivial
  | .dit kvs, v, fp, h => fun b hb => by
    obtain ⟨a, vs, e, q, rfl, r⟩ := h
    obtain rfl : b = a := by simpa using hb
    exact not_fast q trivial
  | .scr ns, v, fp, h => fun a ha => by rw [h.1] at ha; cases ha
  | .orc, v, fp, h => fun b hb => by
    obtain ⟨a, z, ns, e, rfl, q1, q2⟩ := h
    rcases List.mem_cons.mp hb with rfl | hb
    · exact not_fast q1 trivial
    · obtain rfl : b = z := by simpa using hb
      exact not_fast q2 trivial
theorem RepDs.ntup : ∀ {xs : List D} {vs : List V} {fp : List Addr}, RepDs K H xs vs fp → ∀ a ∈ fp, ¬ Fast H a
  | [], vs, fp, h => fun a ha => by rw [h.2] at ha; cases ha
  | x :: xs, vs, fp, h => fun b hb => by
    obtain ⟨v, r, f, g, e, rfl, h1, h2⟩ := h
    rcases List.mem_append.mp hb with z | z
    · exact RepD.ntup h1 b z
    · exact RepDs.ntup h2 b z
end
end
section
variable {W : WX} {X : Cx} {a b e : Expr} {es : List Expr} {ga gb gc : GE} {gs : GA} {pos : Pos}
def gNil : GA := fun _ => .ok []
def gCons (ga : GE) (gs : GA) : GA := fun δ => (ga δ).bind fun r => (gs δ).bind fun rs => .ok (r :: rs)
theorem da_nil : DA W X [] gNil := PA.imp pa_nil fun σ H Q ⟨B, Rg, δ, S0, w⟩ => w [] H (Same.refl H) ⟨[], ⟨rfl, rfl⟩, List.nodup_nil, fun _ z => nomatch z⟩
theorem da_cons (ha : DE W X a ga) (hs : DA W X es gs) (he : starEach (a :: es) X.env = (false, eval a X.env) :: starEach es X.env := by rfl) : DA W X (a :: es) (gCons ga gs) := by
  refine PA.imp (pa_cons ha hs he) fun σ H Q ⟨B, Rg, δ, S0, w⟩ => ?_
  refine ⟨B, Rg, δ, S0, Rn.wp_mono (Rn.wp_bind.mp w) (fun r q v H1 s1 rv => ?_) fun _ _ q => q⟩
  refine ⟨B, Rg, δ, S0.grow s1, Rn.wp_mono (Rn.wp_bind.mp q) (fun rs q vs H2 s2 ra => q (v :: vs) H2 (s1.trans s2) ?_) fun cl _ q C H' e s => q C H' e (s1.trans s)⟩
  obtain ⟨fp, q1, n1, f1⟩ := ra
  cases r with
  | vw d =>
    obtain ⟨g, q2⟩ := rv.grow s2
    exact ⟨fp, ⟨v, vs, g, rfl, q2, q1⟩, n1, fun a ha => s1.free (f1 a ha)⟩
  | own d =>
    obtain ⟨g, q2, n2, f2⟩ := rv
    refine ⟨g ++ fp, ⟨v, vs, g, fp, rfl, rfl, RepD.kt (Same.kt s2) d v g (fun a _ o e => s2 a o e) q2, q1⟩, ?_, fun a ha => ?_⟩
    · rw [List.nodup_append]
      refine ⟨n2, n1, fun a ha b hb e => ?_⟩
      subst e
      exact q2.mem a ha (f1 a hb)
    · rcases List.mem_append.mp ha with z | z
      · exact f2 a z
      · exact s1.free (f1 a z)
/-! ### displays -/
def plains : List R → Option (List P)
  | [] => some []
  | r :: rs => match r.d, plains rs with
    | .p x, some xs => some (x :: xs)
    | _, _ => none
def owns : List R → Option (List D)
  | [] => some []
  | .own d :: rs => (owns rs).map (d :: ·)
  | .vw (.p x) :: rs => (owns rs).map (.p x :: ·)
  | .vw _ :: _ => none
theorem plains_ok {K : PySem.W.Frag} {H : Hp} : ∀ {rs : List R} {vs : List V} {fp : List Addr} {xs : List P}, RepRs K H rs vs fp → plains rs = some xs → RepPs K H xs vs
  | [], _, _, _, h, e => by
    obtain rfl : ([] : List P) = _ := by simpa [plains] using e
    exact h.1
  | r :: rs, vs, fp, xs, h, e => by
    unfold plains at e
    split at e
    · rename_i x ys e1 e2
      obtain rfl := Option.some.inj e
      cases r with
      | own d =>
        obtain rfl : d = .p x := e1
        obtain ⟨v, r, f, g, rfl, rfl, h1, h2⟩ := h
        exact ⟨v, r, rfl, h1.1, plains_ok h2 e2⟩
      | vw d =>
        obtain rfl : d = .p x := e1
        obtain ⟨v, r, f, rfl, h1, h2⟩ := h
        exact ⟨v, r, rfl, h1.1, plains_ok h2 e2⟩
    · cases e
theorem owns_ok {K : PySem.W.Frag} {H : Hp} : ∀ {rs : List R} {vs : List V} {fp : List Addr} {xs : List D}, RepRs K H rs vs fp → owns rs = some xs → RepDs K H xs vs fp
  | [], _, _, _, h, e => by
    obtain rfl : ([] : List D) = _ := by simpa [owns] using e
    exact h
  | .own d :: rs, vs, fp, xs, h, e => by
    unfold owns at e
    cases e2 : owns rs with
    | none => rw [e2] at e; cases e
    | some ys =>
      rw [e2] at e
      obtain rfl := Option.some.inj e
      obtain ⟨v, r, f, g, rfl, rfl, h1, h2⟩ := h
      exact ⟨v, r, f, g, rfl, rfl, h1, owns_ok h2 e2⟩
  | .vw d :: rs, vs, fp, xs, h, e => by
    cases d with
    | p x =>
      simp only [owns] at e
      cases e2 : owns rs with
      | none => rw [e2] at e; cases e
      | some ys =>
        rw [e2] at e
        obtain rfl := Option.some.inj e
        obtain ⟨v, r, f, rfl, h1, h2⟩ := h
        exact ⟨v, r, [], fp, rfl, rfl, ⟨h1.1, rfl⟩, owns_ok h2 e2⟩
    | _ => simp [owns] at e
theorem RepRs.len {K : PySem.W.Frag} {H : Hp} : ∀ {rs : List R} {vs : List V} {fp : List Addr}, RepRs K H rs vs fp → vs.length = rs.length
  | [], _, _, h => by
    obtain ⟨rfl, _⟩ := h
    rfl
  | .own d :: rs, _, _, h => by
    obtain ⟨v, r, f, g, rfl, rfl, h1, h2⟩ := h
    simp [RepRs.len h2]
  | .vw d :: rs, _, _, h => by
    obtain ⟨v, r, f, rfl, h1, h2⟩ := h
    simp [RepRs.len h2]
def gTup (gs : GA) : GE := fun δ => (gs δ).bind fun rs => if rs.length ≤ 1000 then match plains rs with
  | some xs => .ok (.own (.p (.tup xs)))
  | none => match owns rs with
    | some ds => .ok (.own (.tp ds))
    | none => .bad else .bad
def gLst (gs : GA) : GE := fun δ => (gs δ).bind fun rs => if rs.length ≤ 1000 then match plains rs with
  | some xs => .ok (.own (.lst xs))
  | none => match owns rs with
    | some ds => .ok (.own (.ls ds))
    | none => .bad else .bad
theorem de_tup {k : Nat} (hs : DA W X es gs) : DE W X (.Tuple es k pos) (gTup gs) := by
  refine PE.imp (pe_tup hs) fun σ H Q ⟨B, Rg, δ, S0, w⟩ => ?_
  refine ⟨B, Rg, δ, S0, Rn.wp_mono (Rn.wp_bind.mp w) (fun rs q vs H1 s1 ra => ?_) fun _ _ q => q⟩
  obtain ⟨fp, q1, n1, f1⟩ := ra
  split at q
  · rename_i hz
    refine ⟨by rw [q1.len, sizeLine_eq]; omega, fun p hp => ?_⟩
    split at q
    · rename_i xs e
      exact q _ _ (s1.trans (Same.new hp)) (RepR.plain ⟨p, vs, rfl, .inl (.inl upd_same), RepPs.kt (Same.kt (Same.new hp)) _ _ (plains_ok q1 e)⟩)
    · split at q
      · rename_i ds e
        refine q _ _ (s1.trans (Same.new hp)) ⟨fp, ⟨p, vs, rfl, .inl (.inl upd_same), RepDs.kt (Same.kt (Same.new hp)) _ _ _ (fun a _ o e => Same.new hp a o e) (owns_ok q1 e)⟩, n1, f1⟩
      · exact q.elim
  · exact q.elim
theorem de_lst (hs : DA W X es gs) : DE W X (.List es pos) (gLst gs) := by
  refine PE.imp (pe_lst hs) fun σ H Q ⟨B, Rg, δ, S0, w⟩ => ?_
  refine ⟨B, Rg, δ, S0, Rn.wp_mono (Rn.wp_bind.mp w) (fun rs q vs H1 s1 ra => ?_) fun _ _ q => q⟩
  obtain ⟨fp, q1, n1, f1⟩ := ra
  split at q
  · rename_i hz
    refine ⟨by rw [q1.len, sizeLine_eq]; omega, fun p hp => ?_⟩
    split at q
    · rename_i xs e
      exact q _ _ (s1.trans (Same.new hp)) ⟨[p], ⟨p, vs, rfl, upd_same, rfl, RepPs.kt (Same.kt (Same.new hp)) _ _ (plains_ok q1 e)⟩, by simp, fun b hb => by
        obtain rfl : b = p := by simpa using hb
        exact s1.free hp⟩
    · split at q
      · rename_i ds e
        have r2 := owns_ok q1 e
        refine q _ _ (s1.trans (Same.new hp)) ⟨p :: fp, ⟨p, vs, fp, rfl, upd_same, rfl, RepDs.kt (Same.kt (Same.new hp)) _ _ _ (fun a _ o e => Same.new hp a o e) r2⟩, ?_, fun b hb => ?_⟩
        · rw [List.nodup_cons]
          exact ⟨fun z => RepDs.mem r2 p z hp, n1⟩
        · rcases List.mem_cons.mp hb with rfl | hb
          · exact s1.free hp
          · exact f1 b hb
      · exact q.elim
  · exact q.elim
end
end DL
/-! DLe: subscripts, slices, built-ins by name. -/
namespace DL
open PySem PySem.Spec PyProof.Rows L2

section
variable {K : PySem.W.Frag} {H : Hp}
/-! ### subscripts -/
def keyP : P → Option Key
  | .int i => some (.inl i)
  | .str x => some (.inr x)
  | _ => none
def valP {κ : Type} [DecidableEq κ] (kvs : List (κ × P)) (k : κ) : Option P := (kvs.find? fun kv => decide (kv.1 = k)).map (·.2)
theorem keyP_kV {x : P} {v : V} {k : Key} (r : RepP K H x v) (e : keyP x = some k) : v = kV k := by
  cases x with
  | int i =>
    obtain rfl := Option.some.inj e
    exact r
  | str i =>
    obtain rfl := Option.some.inj e
    exact r
  | _ => cases e
theorem RepKs.get {κ : Type} [DecidableEq κ] {k : κ} : ∀ {kvs : List (κ × P)} {ws : List (κ × V)}, RepKs K H kvs ws → match valP kvs k with
    | some x => ∃ v, valV ws k = some v ∧ RepP K H x v
    | none => valV ws k = none
  | [], ws, h => by
    obtain rfl : ws = [] := h
    rfl
  | (c, x) :: kvs, ws, h => by
    obtain ⟨v, r, rfl, h1, h2⟩ := h
    by_cases e : c = k
    · have e1 : valP ((c, x) :: kvs) k = some x := by simp [valP, List.find?_cons, e]
      rw [e1]
      exact ⟨v, valV_pos e, h1⟩
    · have e1 : valP ((c, x) :: kvs) k = valP kvs k := by simp [valP, List.find?_cons, e]
      rw [e1, valV_neg (p := (c, v)) e]
      exact RepKs.get h2
def fIx : D → D → Rn Unit R
  | .p (.tup xs), .p (.int i) => match atI xs i with
    | some x => .ok (.own (.p x))
    | none => .bad
  | .p (.str z), .p (.int i) => if z.length ≤ sizeLine then match atI z.cps.toList i with
    | some c => .ok (.own (.p (.str ⟨#[c]⟩)))
    | none => .bad else .bad
  | .lst xs, .p (.int i) => match atI xs i with
    | some x => .ok (.own (.p x))
    | none => .bad
  | .ls xs, .p (.int i) => match atI xs i with
    | some x => .ok (.vw x)
    | none => .bad
  | .tp xs, .p (.int i) => match atI xs i with
    | some x => .ok (.vw x)
    | none => .bad
  | .dic kvs, .p x => match keyP x with
    | some k => match valP kvs k with
      | some y => .ok (.own (.p y))
      | none => .bad
    | none => .bad
  | _, _ => .bad
theorem RepPs.at {xs : List P} {vs : List V} {i : Int} {x : P} (h : RepPs K H xs vs) (e : atI xs i = some x) : ∃ v, atI vs i = some v ∧ RepP K H x v := by
  unfold atI at e ⊢
  rw [h.len]
  cases z : ixN xs.length i with
  | none => rw [z] at e; cases e
  | some j =>
    rw [z] at e
    exact RepPs.get h e
theorem RepDs.len : ∀ {xs : List D} {vs : List V} {fp : List Addr}, RepDs K H xs vs fp → vs.length = xs.length
  | [], _, _, h => by
    obtain ⟨rfl, _⟩ := h
    rfl
  | x :: xs, _, _, h => by
    obtain ⟨v, r, f, g, rfl, rfl, h1, h2⟩ := h
    simp [RepDs.len h2]
theorem RepDs.get : ∀ {xs : List D} {vs : List V} {fp : List Addr} {i : Nat} {x : D}, RepDs K H xs vs fp → xs[i]? = some x → ∃ v f, vs[i]? = some v ∧ RepD K H x v f
  | [], _, _, i, _, _, e => by simp at e
  | x :: xs, _, _, 0, y, h, e => by
    obtain ⟨v, r, f, g, rfl, rfl, h1, h2⟩ := h
    obtain rfl : x = y := by simpa using e
    exact ⟨v, f, rfl, h1⟩
  | x :: xs, _, _, i + 1, y, h, e => by
    obtain ⟨v, r, f, g, rfl, rfl, h1, h2⟩ := h
    obtain ⟨u, f', q1, q2⟩ := RepDs.get (i := i) h2 (by simpa using e)
    exact ⟨u, f', by simpa using q1, q2⟩
theorem RepDs.at {xs : List D} {vs : List V} {fp : List Addr} {i : Int} {x : D} (h : RepDs K H xs vs fp) (e : atI xs i = some x) : ∃ v f, atI vs i = some v ∧ RepD K H x v f := by
  unfold atI at e ⊢
  rw [h.len]
  cases z : ixN xs.length i with
  | none => rw [z] at e; cases e
  | some j =>
    rw [z] at e
    exact RepDs.get h e
end
def rIxA (K : PySem.W.Frag) : R2 := fun x y H Q => rIx K x y H Q ∨ ∃ a v, x = .ref a ∧ DGet H a y (some v) ∧ Q v H
theorem ix_dict {X : Cx} (hu : X.A.units + 1 < cLine) : IxR X (fun x y H Q => ∃ a v, x = .ref a ∧ DGet H a y (some v) ∧ Q v H) := by
  intro value slice pins s σ H x y v u Q I rx ry h hs
  obtain ⟨a, w, rfl, g, q⟩ := h
  obtain rfl : v = Value.ref a := rx
  exact tail_any (dict_typeIs I g) PySem.F.slot_dict_getitem.lookup (d_getItem hu I g ry fun w' s3 I3 rw' => ⟨w, H, I3, rw', q⟩) hs
theorem og_ix {K : PySem.W.Frag} : OpG K (rIxA K) fIx := by
  intro H x y v u fx fy Q E rx ry h
  unfold fIx at h
  split at h
  · rename_i xs i
    obtain ⟨⟨a, vs, rfl, q, r⟩, _⟩ := rx
    obtain rfl : u = .int i := ry.1
    split at h
    · rename_i x e
      obtain ⟨w, e1, r1⟩ := r.at e
      exact .inl (.inr (.inl ⟨a, vs, i, w, rfl, rfl, q, e1, RepP.up h r1⟩))
    · exact h.elim
  · rename_i z i
    obtain rfl : v = .str z := rx.1
    obtain rfl : u = .int i := ry.1
    split at h
    · rename_i hz
      split at h
      · rename_i c e
        exact .inl (.inr (.inr ⟨z, i, c, rfl, rfl, hz, e, RepP.up h rfl⟩))
      · exact h.elim
    · exact h.elim
  · rename_i xs i
    obtain ⟨a, vs, rfl, q, _, r⟩ := rx
    obtain rfl : u = .int i := ry.1
    split at h
    · rename_i x e
      obtain ⟨w, e1, r1⟩ := r.at e
      exact .inl (.inl ⟨a, vs, i, w, rfl, rfl, SqL.of q, e1, RepP.up h r1⟩)
    · exact h.elim
  · rename_i xs i
    obtain ⟨a, vs, f, rfl, q, _, r⟩ := rx
    obtain rfl : u = .int i := ry.1
    split at h
    · rename_i x e
      obtain ⟨w, f', e1, r1⟩ := r.at e
      exact .inl (.inl ⟨a, vs, i, w, rfl, rfl, SqL.of q, e1, h w H (Same.refl H) ⟨f', r1⟩⟩)
    · exact h.elim
  · rename_i xs i
    obtain ⟨a, vs, rfl, q, r⟩ := rx
    obtain rfl : u = .int i := ry.1
    split at h
    · rename_i x e
      obtain ⟨w, f', e1, r1⟩ := r.at e
      exact .inl (.inr (.inl ⟨a, vs, i, w, rfl, rfl, q, e1, h w H (Same.refl H) ⟨f', r1⟩⟩))
    · exact h.elim
  · rename_i kvs x
    obtain ⟨a, ws, rfl, q, _, r⟩ := rx
    split at h
    · rename_i k ek
      obtain rfl : u = kV k := keyP_kV ry.1 ek
      split at h
      · rename_i y ey
        have g := RepKs.get (k := k) r
        rw [ey] at g
        obtain ⟨w, e1, r1⟩ := g
        exact .inr ⟨a, w, rfl, by rw [← e1]; exact DGet.k q, RepP.up h r1⟩
      · exact h.elim
    · exact h.elim
  · exact h.elim
section
variable {W : WX} {X : Cx} {a b e : Expr} {es : List Expr} {ga gb gc : GE} {gs : GA} {pos : Pos}
theorem de_ix (hu : X.A.units + 1 < cLine) (ha : DE W X a ga) (hb : DE W X b gb) (hs : PlainIx b := by exact fun _ _ => rfl) : DE W X (.Subscript a b pos) (gOp2 fIx ga gb) :=
  PE.imp (pe_ix (ix_seq.or (ix_dict hu)) ha hb hs) (op2_of og_ix)

/-! ### slices -/
abbrev GO := Sl → Rn Unit (Option Int)
def gNoPart : GO := fun _ => .ok none
def gPart (g : GE) : GO := fun δ => (g δ).bind fun r => match r.d with
  | .p (.int i) => .ok (some i)
  | _ => .bad
def tDO (c : DC) (g : GO) : TO := fun σ H Q => ∃ (B : Hp) (Rg : Rgs c.ex) (δ : Sl), SRel c.K B Rg σ H δ ∧ (g δ).wp (fun o => ∀ H', Same H H' → Q o H') fun cl _ => ∀ C H', c.mg cl = some (.ref C) → Same H H' → c.W (.ref C) none σ H'
def DO (W : WX) (X : Cx) (o : Option Expr) (g : GO) : Prop := PO X o (tDO (dc X W) g)
theorem PO.imp {X : Cx} {o : Option Expr} {t t' : TO} (h : PO X o t) (m : ∀ σ H Q, t' σ H Q → t σ H Q) : PO X o t' := ⟨fun pins s σ H Q I q => h.run pins s σ H Q I (m σ H Q q)⟩
theorem do_none : DO W X none gNoPart := PO.imp po_none fun σ H Q ⟨B, Rg, δ, S0, w⟩ => w H (Same.refl H)
theorem do_some (h : DE W X e ga) : DO W X (some e) (gPart ga) := by
  refine PO.imp (po_some h) fun σ H Q ⟨B, Rg, δ, S0, w⟩ => ?_
  refine ⟨B, Rg, δ, S0, Rn.wp_mono (Rn.wp_bind.mp w) (fun r q v H1 s1 rv => ?_) fun _ _ q => q⟩
  split at q
  · rename_i i e
    obtain rfl : v = .int i := rv.getP e
    exact ⟨i, rfl, q H1 s1⟩
  · exact q.elim
def cutP {α : Type} (xs : List α) (lo hi : Option Int) : List α := (xs.drop (HT.sIx xs.length 0 lo)).take (HT.sIx xs.length xs.length hi - HT.sIx xs.length 0 lo)
def fSl : D → Option Int → Option Int → Rn Unit R
  | .p (.tup xs), lo, hi => .ok (.own (.p (.tup (cutP xs lo hi))))
  | .p (.str z), lo, hi => if z.length ≤ sizeLine then .ok (.own (.p (.str (cutS z lo hi)))) else .bad
  | .lst xs, lo, hi => .ok (.own (.lst (cutP xs lo hi)))
  | _, _, _ => .bad
def gSl (ga : GE) (gl gh : GO) : GE := fun δ => (ga δ).bind fun r => (gl δ).bind fun lo => (gh δ).bind fun hi => fSl r.d lo hi
theorem RepPs.cut {K : PySem.W.Frag} {H : Hp} {xs : List P} {vs : List V} (h : RepPs K H xs vs) (lo hi : Option Int) : RepPs K H (cutP xs lo hi) (cutV vs lo hi) := by
  unfold cutP cutV
  rw [h.len]
  exact (h.drop _).take _
theorem cut_whole {α : Type} (xs : List α) {lo hi : Option Int} (h : HT.sIx xs.length 0 lo = 0 ∧ HT.sIx xs.length xs.length hi = xs.length) : cutP xs lo hi = xs := by
  unfold cutP
  rw [h.1, h.2, Nat.sub_zero, List.drop_zero, List.take_length]
theorem de_slice {lo hi : Option Expr} {gl gh : GO} {p2 : Pos} (ha : DE W X e ga) (hl : DO W X lo gl) (hh : DO W X hi gh) : DE W X (.Subscript e (.Slice lo hi none p2) pos) (gSl ga gl gh) := by
  refine PE.imp (pe_slice (sl_list.or (sl_tupA.or sl_str)) ha hl hh) fun σ H Q ⟨B, Rg, δ, S0, w⟩ => ?_
  refine ⟨B, Rg, δ, S0, Rn.wp_mono (Rn.wp_bind.mp w) (fun r q v H1 s1 rv => ?_) fun _ _ q => q⟩
  refine ⟨B, Rg, δ, S0.grow s1, Rn.wp_mono (Rn.wp_bind.mp q) (fun lo q H2 s2 => ?_) fun cl _ q C H' e s => q C H' e (s1.trans s)⟩
  refine ⟨B, Rg, δ, (S0.grow s1).grow s2, Rn.wp_mono (Rn.wp_bind.mp q) (fun hi q H3 s3 => ?_) fun cl _ q C H' e s => q C H' e (s1.trans (s2.trans s))⟩
  have s13 := s1.trans (s2.trans s3)
  obtain ⟨fp, q1⟩ := ((rv.grow s2).grow s3).look
  generalize r.d = d at q1 q
  unfold fSl at q
  split at q
  · rename_i lo hi xs
    obtain ⟨⟨p, vs, rfl, q2, r2⟩, _⟩ := q1
    refine .inr (.inl ⟨p, vs, rfl, q2, fun z => ?_, fun _ p' hp => ?_⟩)
    · rw [r2.len] at z
      rw [cut_whole xs z] at q
      exact q _ H3 s13 (RepR.plain ⟨p, vs, rfl, q2, r2⟩)
    · exact q _ _ (s13.trans (Same.new hp)) (RepR.plain ⟨p', _, rfl, .inl (.inl upd_same), RepPs.kt (Same.kt (Same.new hp)) _ _ (r2.cut _ _)⟩)
  · rename_i lo hi z
    obtain rfl : v = .str z := q1.1
    split at q
    · rename_i hz
      exact .inr (.inr ⟨z, rfl, hz, q _ H3 s13 (RepR.plain rfl)⟩)
    · exact q.elim
  · rename_i lo hi xs
    obtain ⟨p, vs, rfl, q2, _, r2⟩ := q1
    refine .inl ⟨p, vs, rfl, SqL.of q2, fun p' hp => ?_⟩
    exact q _ _ (s13.trans (Same.new hp)) ⟨[p'], ⟨p', _, rfl, upd_same, rfl, RepPs.kt (Same.kt (Same.new hp)) _ _ (r2.cut _ _)⟩, by simp, fun b hb => by
      obtain rfl : b = p' := by simpa using hb
      exact s13.free hp⟩
  · exact q.elim

/-! ### built-ins by name -/
def CallG (K : PySem.W.Frag) (r : List V → Hp → VK → Prop) (f : List D → Rn Unit R) : Prop := ∀ (H : Hp) (ds : List D) (vs : List V) (Q : VK) (E : Str → Unit → Prop), LookL K H ds vs →
  (f ds).wp (fun r => ∀ v H', Same H H' → RepR K H H' r v → Q v H') E → r vs H Q
def gCall (f : List D → Rn Unit R) (gs : GA) : GE := fun δ => (gs δ).bind fun rs => f (rs.map R.d)
theorem call_of {r : List V → Hp → VK → Prop} {f : List D → Rn Unit R} (hf : CallG X.K r f) (σ : L2.St) (H : Hp) (Q : VK) (h : tD (dc X W) (gCall f gs) σ H Q) : tCB r (tDA (dc X W) gs) σ H Q := by
  obtain ⟨B, Rg, δ, S0, w⟩ := h
  refine ⟨B, Rg, δ, S0, Rn.wp_mono (Rn.wp_bind.mp w) (fun rs q vs H1 s1 ra => ?_) fun _ _ q => q⟩
  obtain ⟨fp, q1, _⟩ := ra
  exact hf H1 _ vs Q (fun cl _ => ∀ C H', (dc X W).mg cl = some (.ref C) → Same H H' → (dc X W).W (.ref C) none σ H') q1.look (Rn.wp_mono q (fun r q v H' s rv => q v H' (s1.trans s) (rv.back s1)) fun _ _ q => q)
theorem de_callB {id : String} {x : Str} {p : Pos} {r : List V → Hp → VK → Prop} {f : List D → Rn Unit R} (hc : CallR X (.builtin id) r) (hf : CallG X.K r f) (hm : X.mg x = none) (hv : bootBuiltins x = some (.builtin id)) (ha : DA W X (e :: es) gs)
    (hg : Gl X x := by rfl) (hn : x ≠ "__name__" := by decide) (hdb : (x == ("__debug__" : Str)) = false := by decide) (he : starEach (e :: es) X.env = (false, eval e X.env) :: starEach es X.env := by rfl) (hpl : (backTo pos (starEach es X.env)).any (·.1) = false := by rfl) :
    DE W X (.Call (.Name x p) (e :: es) [] pos) (gCall f gs) := PE.imp (pe_callB hc hg hm hv ha hn hdb he hpl) (call_of hf)
theorem de_callTy {T : String} {x : Str} {p : Pos} {r : List V → Hp → VK → Prop} {f : List D → Rn Unit R} (hc : CallR X (.type T) r) (hf : CallG X.K r f) (hm : X.mg x = none) (hv : bootBuiltins x = some (.type T)) (ha : DA W X (e :: es) gs)
    (hg : Gl X x := by rfl) (hn : x ≠ "__name__" := by decide) (hdb : (x == ("__debug__" : Str)) = false := by decide) (he : starEach (e :: es) X.env = (false, eval e X.env) :: starEach es X.env := by rfl) (hpl : (backTo pos (starEach es X.env)).any (·.1) = false := by rfl) :
    DE W X (.Call (.Name x p) (e :: es) [] pos) (gCall f gs) := PE.imp (pe_callTy hc hg hm hv ha hn hdb he hpl) (call_of hf)
end
section
variable {K : PySem.W.Frag} {H : Hp}
theorem LookL.one {d : D} {vs : List V} (h : LookL K H [d] vs) : ∃ v fp, vs = [v] ∧ RepD K H d v fp := by
  obtain ⟨v, r, rfl, ⟨fp, q⟩, rfl⟩ := h
  exact ⟨v, fp, rfl, q⟩
theorem LookL.two {d e : D} {vs : List V} (h : LookL K H [d, e] vs) : ∃ v u fp gp, vs = [v, u] ∧ RepD K H d v fp ∧ RepD K H e u gp := by
  obtain ⟨v, r, rfl, ⟨fp, q⟩, u, r', rfl, ⟨gp, q'⟩, rfl⟩ := h
  exact ⟨v, u, fp, gp, rfl, q, q'⟩
def fLen : List D → Rn Unit R
  | [.p (.str z)] => if z.length ≤ sizeLine then .ok (.own (.p (.int z.length))) else .bad
  | [.p (.tup xs)] => .ok (.own (.p (.int xs.length)))
  | [.lst xs] => .ok (.own (.p (.int xs.length)))
  | [.ls xs] => .ok (.own (.p (.int xs.length)))
  | [.tp xs] => .ok (.own (.p (.int xs.length)))
  | [.dic xs] => .ok (.own (.p (.int xs.length)))
  | _ => .bad
theorem RepKs.len {κ : Type} : ∀ {xs : List (κ × P)} {vs : List (κ × V)}, RepKs K H xs vs → vs.length = xs.length
  | [], vs, h => by
    obtain rfl : vs = [] := h
    rfl
  | (k, x) :: xs, vs, h => by
    obtain ⟨v, r, rfl, _, h2⟩ := h
    simp [RepKs.len h2]
theorem call_lenA {X : Cx} : CallR X (.builtin "len") (fun xs H Q => (∃ x n, xs = [x] ∧ LenV X.K x H n ∧ Q (.int n) H) ∨ ∃ a kvs, xs = [V.ref a] ∧ H a = some (.dK kvs) ∧ Q (.int kvs.length) H) := call_len.or call_lenD
theorem cg_len : CallG K (fun xs H Q => (∃ x n, xs = [x] ∧ LenV K x H n ∧ Q (.int n) H) ∨ ∃ a kvs, xs = [V.ref a] ∧ H a = some (.dK kvs) ∧ Q (.int kvs.length) H) fLen := by
  intro H ds vs Q E hl h
  unfold fLen at h
  split at h
  · rename_i z
    obtain ⟨v, fp, rfl, r⟩ := hl.one
    obtain rfl : v = .str z := r.1
    split at h
    · rename_i hz
      exact .inl ⟨.str z, z.length, rfl, ⟨hz, rfl⟩, RepP.up h rfl⟩
    · exact h.elim
  · rename_i xs
    obtain ⟨v, fp, rfl, r⟩ := hl.one
    obtain ⟨⟨a, vs, rfl, q, r⟩, _⟩ := r
    exact .inl ⟨.ref a, xs.length, rfl, .inr ⟨vs, q, r.len.symm⟩, RepP.up h rfl⟩
  · rename_i xs
    obtain ⟨v, fp, rfl, r⟩ := hl.one
    obtain ⟨a, vs, rfl, q, _, r⟩ := r
    exact .inl ⟨.ref a, xs.length, rfl, .inl ⟨vs, SqL.of q, r.len.symm⟩, RepP.up h rfl⟩
  · rename_i xs
    obtain ⟨v, fp, rfl, r⟩ := hl.one
    obtain ⟨a, vs, _, rfl, q, _, r⟩ := r
    exact .inl ⟨.ref a, xs.length, rfl, .inl ⟨vs, SqL.of q, r.len.symm⟩, RepP.up h rfl⟩
  · rename_i xs
    obtain ⟨v, fp, rfl, r⟩ := hl.one
    obtain ⟨a, vs, rfl, q, r⟩ := r
    exact .inl ⟨.ref a, xs.length, rfl, .inr ⟨vs, q, r.len.symm⟩, RepP.up h rfl⟩
  · rename_i xs
    obtain ⟨v, fp, rfl, r⟩ := hl.one
    obtain ⟨a, vs, rfl, q, _, r⟩ := r
    exact .inr ⟨a, vs, rfl, q, by rw [r.len]; exact RepP.up h rfl⟩
  · exact h.elim
theorem up_lst {xs : List P} {vs : List V} {Q : VK} (h : ∀ v H', Same H H' → RepR K H H' (.own (.lst xs)) v → Q v H') (r : RepPs K H xs vs) {p : Addr} (hp : H p = none) : Q (.ref p) (upd H p (.lst vs)) :=
  h _ _ (Same.new hp) ⟨[p], ⟨p, vs, rfl, upd_same, rfl, RepPs.kt (Same.kt (Same.new hp)) _ _ r⟩, by simp, fun b hb => by
    obtain rfl : b = p := by simpa using hb
    exact hp⟩
theorem up_tup {xs : List P} {vs : List V} {Q : VK} (h : ∀ v H', Same H H' → RepR K H H' (.own (.p (.tup xs))) v → Q v H') (r : RepPs K H xs vs) {p : Addr} (hp : H p = none) : Q (.ref p) (upd H p (.tup vs)) :=
  h _ _ (Same.new hp) (RepR.plain ⟨p, vs, rfl, .inl (.inl upd_same), RepPs.kt (Same.kt (Same.new hp)) _ _ r⟩)
def fTuple : List D → Rn Unit R
  | [.p (.tup xs)] => .ok (.own (.p (.tup xs)))
  | [.lst xs] => .ok (.own (.p (.tup xs)))
  | _ => .bad
theorem cg_tuple : CallG K (fun xs H Q => ∃ p ys, xs = [.ref p] ∧ ((SqL K H p ys ∧ ∀ l, H l = none → Q (.ref l) (upd H l (.tup ys))) ∨ (SqT K H p ys ∧ Q (.ref p) H))) fTuple := by
  intro H ds vs Q E hl h
  unfold fTuple at h
  split at h
  · rename_i xs
    obtain ⟨v, fp, rfl, r⟩ := hl.one
    obtain ⟨⟨a, vs, rfl, q, r⟩, _⟩ := r
    exact ⟨a, vs, rfl, .inr ⟨q, RepP.up h ⟨a, vs, rfl, q, r⟩⟩⟩
  · rename_i xs
    obtain ⟨v, fp, rfl, r⟩ := hl.one
    obtain ⟨a, vs, rfl, q, _, r⟩ := r
    exact ⟨a, vs, rfl, .inl ⟨SqL.of q, fun l hl => up_tup h r hl⟩⟩
  · exact h.elim
def fList : List D → Rn Unit R
  | [.p (.tup xs)] => .ok (.own (.lst xs))
  | [.lst xs] => .ok (.own (.lst xs))
  | _ => .bad
theorem cg_list : CallG K (fun xs H Q => ∃ p ys, xs = [.ref p] ∧ (SqL K H p ys ∨ SqT K H p ys) ∧ ∀ l, H l = none → Q (.ref l) (upd H l (.lst ys))) fList := by
  intro H ds vs Q E hl h
  unfold fList at h
  split at h
  · rename_i xs
    obtain ⟨v, fp, rfl, r⟩ := hl.one
    obtain ⟨⟨a, vs, rfl, q, r⟩, _⟩ := r
    exact ⟨a, vs, rfl, .inr q, fun l hl => up_lst h r hl⟩
  · rename_i xs
    obtain ⟨v, fp, rfl, r⟩ := hl.one
    obtain ⟨a, vs, rfl, q, _, r⟩ := r
    exact ⟨a, vs, rfl, .inl (SqL.of q), fun l hl => up_lst h r hl⟩
  · exact h.elim
def fAbs : List D → Rn Unit R
  | [.p (.int i)] => .ok (.own (.p (.int (if i < 0 then -i else i))))
  | _ => .bad
theorem cg_abs : CallG K (fun xs H Q => ∃ i, xs = [.int i] ∧ Q (.int (if i < 0 then -i else i)) H) fAbs := by
  intro H ds vs Q E hl h
  unfold fAbs at h
  split at h
  · rename_i i
    obtain ⟨v, fp, rfl, r⟩ := hl.one
    obtain rfl : v = .int i := r.1
    exact ⟨i, rfl, RepP.up h rfl⟩
  · exact h.elim
def fInt1 : List D → Rn Unit R
  | [.p (.int i)] => .ok (.own (.p (.int i)))
  | [.p (.bl k)] => .ok (.own (.p (.int (if k then 1 else 0))))
  | _ => .bad
theorem cg_int : CallG K (fun xs H Q => (∃ i, xs = [.int i] ∧ Q (.int i) H) ∨ ∃ k, xs = [.bl k] ∧ Q (.int (if k then 1 else 0)) H) fInt1 := by
  intro H ds vs Q E hl h
  unfold fInt1 at h
  split at h
  · rename_i i
    obtain ⟨v, fp, rfl, r⟩ := hl.one
    obtain rfl : v = .int i := r.1
    exact .inl ⟨i, rfl, RepP.up h rfl⟩
  · rename_i i
    obtain ⟨v, fp, rfl, r⟩ := hl.one
    obtain rfl : v = .bl i := r.1
    exact .inr ⟨i, rfl, RepP.up h rfl⟩
  · exact h.elim
def fMax2 : List D → Rn Unit R
  | [.p (.int i), .p (.int j)] => .ok (.own (.p (.int (if j > i then j else i))))
  | _ => .bad
def fMin2 : List D → Rn Unit R
  | [.p (.int i), .p (.int j)] => .ok (.own (.p (.int (if j < i then j else i))))
  | _ => .bad
theorem cg_max2 : CallG K (fun xs H Q => ∃ i j, xs = [.int i, .int j] ∧ Q (.int (if j > i then j else i)) H) fMax2 := by
  intro H ds vs Q E hl h
  unfold fMax2 at h
  split at h
  · rename_i i j
    obtain ⟨v, u, fp, gp, rfl, r, r'⟩ := hl.two
    obtain rfl : v = .int i := r.1
    obtain rfl : u = .int j := r'.1
    exact ⟨i, j, rfl, RepP.up h rfl⟩
  · exact h.elim
theorem cg_min2 : CallG K (fun xs H Q => ∃ i j, xs = [.int i, .int j] ∧ Q (.int (if j < i then j else i)) H) fMin2 := by
  intro H ds vs Q E hl h
  unfold fMin2 at h
  split at h
  · rename_i i j
    obtain ⟨v, u, fp, gp, rfl, r, r'⟩ := hl.two
    obtain rfl : v = .int i := r.1
    obtain rfl : u = .int j := r'.1
    exact ⟨i, j, rfl, RepP.up h rfl⟩
  · exact h.elim
/-- the ints of plain data -/
def pInts : List P → Option (List Int)
  | [] => some []
  | .int i :: xs => (pInts xs).map (i :: ·)
  | _ => none
theorem pInts_ok : ∀ {xs : List P} {ns : List Int}, pInts xs = some ns → xs = ns.map P.int
  | [], ns, e => by
    obtain rfl : ([] : List Int) = ns := by simpa [pInts] using e
    rfl
  | x :: xs, ns, e => by
    cases x with
    | int i =>
      simp only [pInts] at e
      cases z : pInts xs with
      | none => rw [z] at e; cases e
      | some ms =>
        rw [z] at e
        obtain rfl := Option.some.inj e
        rw [pInts_ok z]
        rfl
    | _ => simp [pInts] at e
@[simp] theorem pInts_map (ns : List Int) : pInts (ns.map P.int) = some ns := by
  induction ns with
  | nil => rfl
  | cons n ns ih => simp [pInts, ih]
def pBls : List P → Option (List Bool)
  | [] => some []
  | .bl i :: xs => (pBls xs).map (i :: ·)
  | _ => none
theorem pBls_ok : ∀ {xs : List P} {ns : List Bool}, pBls xs = some ns → xs = ns.map P.bl
  | [], ns, e => by
    obtain rfl : ([] : List Bool) = ns := by simpa [pBls] using e
    rfl
  | x :: xs, ns, e => by
    cases x with
    | bl i =>
      simp only [pBls] at e
      cases z : pBls xs with
      | none => rw [z] at e; cases e
      | some ms =>
        rw [z] at e
        obtain rfl := Option.some.inj e
        rw [pBls_ok z]
        rfl
    | _ => simp [pBls] at e
@[simp] theorem pBls_map (ns : List Bool) : pBls (ns.map P.bl) = some ns := by
  induction ns with
  | nil => rfl
  | cons n ns ih => simp [pBls, ih]
def pStrs : List P → Option (List Str)
  | [] => some []
  | .str i :: xs => (pStrs xs).map (i :: ·)
  | _ => none
theorem pStrs_ok : ∀ {xs : List P} {ns : List Str}, pStrs xs = some ns → xs = ns.map P.str
  | [], ns, e => by
    obtain rfl : ([] : List Str) = ns := by simpa [pStrs] using e
    rfl
  | x :: xs, ns, e => by
    cases x with
    | str i =>
      simp only [pStrs] at e
      cases z : pStrs xs with
      | none => rw [z] at e; cases e
      | some ms =>
        rw [z] at e
        obtain rfl := Option.some.inj e
        rw [pStrs_ok z]
        rfl
    | _ => simp [pStrs] at e
@[simp] theorem pStrs_map (ns : List Str) : pStrs (ns.map P.str) = some ns := by
  induction ns with
  | nil => rfl
  | cons n ns ih => simp [pStrs, ih]
def fSum : List D → Rn Unit R
  | [.lst xs] => match pInts xs with
    | some ns => .ok (.own (.p (.int ns.sum)))
    | none => .bad
  | _ => .bad
theorem cg_sum : CallG K (rSum K) fSum := by
  intro H ds vs Q E hl h
  unfold fSum at h
  split at h
  · rename_i xs
    split at h
    · rename_i ns e
      obtain ⟨v, fp, rfl, r⟩ := hl.one
      obtain ⟨a, vs, rfl, q, _, r⟩ := r
      obtain rfl := pInts_ok e
      obtain rfl := r.int
      exact ⟨a, ns, rfl, SqL.of q, RepP.up h rfl⟩
    · exact h.elim
  · exact h.elim
def fAnyAll (f : List Bool → Bool) : List D → Rn Unit R
  | [.lst xs] => match pBls xs with
    | some ns => .ok (.own (.p (.bl (f ns))))
    | none => .bad
  | _ => .bad
theorem cg_any : CallG K (rAny K) (fAnyAll fun bs => bs.any id) := by
  intro H ds vs Q E hl h
  unfold fAnyAll at h
  split at h
  · rename_i xs
    split at h
    · rename_i ns e
      obtain ⟨v, fp, rfl, r⟩ := hl.one
      obtain ⟨a, vs, rfl, q, _, r⟩ := r
      obtain rfl := pBls_ok e
      obtain rfl := r.bl
      exact ⟨a, ns, rfl, SqL.of q, RepP.up h rfl⟩
    · exact h.elim
  · exact h.elim
theorem cg_all : CallG K (rAll K) (fAnyAll fun bs => bs.all id) := by
  intro H ds vs Q E hl h
  unfold fAnyAll at h
  split at h
  · rename_i xs
    split at h
    · rename_i ns e
      obtain ⟨v, fp, rfl, r⟩ := hl.one
      obtain ⟨a, vs, rfl, q, _, r⟩ := r
      obtain rfl := pBls_ok e
      obtain rfl := r.bl
      exact ⟨a, ns, rfl, SqL.of q, RepP.up h rfl⟩
    · exact h.elim
  · exact h.elim
/-- the greatest, the least of ints -/
def maxL : List Int → Int
  | [] => 0
  | x :: xs => xs.foldl (fun a b => if b > a then b else a) x
def minL : List Int → Int
  | [] => 0
  | x :: xs => xs.foldl (fun a b => if b < a then b else a) x
theorem maxL_fold (xs : List Int) : ∀ x m, m ∈ x :: xs → (∀ y ∈ x :: xs, y ≤ m) → xs.foldl (fun a b => if b > a then b else a) x = m := by
  induction xs with
  | nil => intro x m h1 h2; simp at h1; exact h1.symm
  | cons y xs ih =>
    intro x m h1 h2
    rw [List.foldl_cons]
    refine ih _ m ?_ fun z hz => ?_
    · have hx := h2 x (by simp)
      have hy := h2 y (by simp)
      simp only [List.mem_cons] at h1 ⊢
      rcases h1 with h | h | h
      · by_cases c : y > x
        · omega
        · rw [if_neg c]; exact .inl h
      · by_cases c : y > x
        · rw [if_pos c]; exact .inl h
        · rw [if_neg c]; left; omega
      · exact .inr h
    · have hx := h2 x (by simp)
      have hy := h2 y (by simp)
      simp only [List.mem_cons] at hz
      rcases hz with h | h
      · subst h
        by_cases c : y > x
        · rw [if_pos c]; exact hy
        · rw [if_neg c]; exact hx
      · exact h2 z (by simp [h])
theorem minL_fold (xs : List Int) : ∀ x m, m ∈ x :: xs → (∀ y ∈ x :: xs, m ≤ y) → xs.foldl (fun a b => if b < a then b else a) x = m := by
  induction xs with
  | nil => intro x m h1 h2; simp at h1; exact h1.symm
  | cons y xs ih =>
    intro x m h1 h2
    rw [List.foldl_cons]
    refine ih _ m ?_ fun z hz => ?_
    · have hx := h2 x (by simp)
      have hy := h2 y (by simp)
      simp only [List.mem_cons] at h1 ⊢
      rcases h1 with h | h | h
      · by_cases c : y < x
        · omega
        · rw [if_neg c]; exact .inl h
      · by_cases c : y < x
        · rw [if_pos c]; exact .inl h
        · rw [if_neg c]; left; omega
      · exact .inr h
    · have hx := h2 x (by simp)
      have hy := h2 y (by simp)
      simp only [List.mem_cons] at hz
      rcases hz with h | h
      · subst h
        by_cases c : y < x
        · rw [if_pos c]; exact hy
        · rw [if_neg c]; exact hx
      · exact h2 z (by simp [h])
def fMaxL : List D → Rn Unit R
  | [.lst xs] => match pInts xs with
    | some ns => if 0 < ns.length then .ok (.own (.p (.int (maxL ns)))) else .bad
    | none => .bad
  | ds => fMax2 ds
def fMinL : List D → Rn Unit R
  | [.lst xs] => match pInts xs with
    | some ns => if 0 < ns.length then .ok (.own (.p (.int (minL ns)))) else .bad
    | none => .bad
  | ds => fMin2 ds
theorem cg_max : CallG K (fun xs H Q => rMax K xs H Q ∨ ∃ i j, xs = [.int i, .int j] ∧ Q (.int (if j > i then j else i)) H) fMaxL := by
  intro H ds vs Q E hl h
  unfold fMaxL at h
  split at h
  · rename_i xs
    split at h
    · rename_i ns e
      split at h
      · rename_i hn
        obtain ⟨v, fp, rfl, r⟩ := hl.one
        obtain ⟨a, vs, rfl, q, _, r⟩ := r
        obtain rfl := pInts_ok e
        obtain rfl := r.int
        refine .inl ⟨a, ns, rfl, SqL.of q, hn, fun m h1 h2 => ?_⟩
        cases ns with
        | nil => cases h1
        | cons x ns =>
          rw [← maxL_fold ns x m h1 h2]
          exact RepP.up h rfl
      · exact h.elim
    · exact h.elim
  · exact .inr (cg_max2 H ds vs Q E hl h)
theorem cg_min : CallG K (fun xs H Q => rMin K xs H Q ∨ ∃ i j, xs = [.int i, .int j] ∧ Q (.int (if j < i then j else i)) H) fMinL := by
  intro H ds vs Q E hl h
  unfold fMinL at h
  split at h
  · rename_i xs
    split at h
    · rename_i ns e
      split at h
      · rename_i hn
        obtain ⟨v, fp, rfl, r⟩ := hl.one
        obtain ⟨a, vs, rfl, q, _, r⟩ := r
        obtain rfl := pInts_ok e
        obtain rfl := r.int
        refine .inl ⟨a, ns, rfl, SqL.of q, hn, fun m h1 h2 => ?_⟩
        cases ns with
        | nil => cases h1
        | cons x ns =>
          rw [← minL_fold ns x m h1 h2]
          exact RepP.up h rfl
      · exact h.elim
    · exact h.elim
  · exact .inr (cg_min2 H ds vs Q E hl h)
end
section
variable {W : WX} {X : Cx} {a b e : Expr} {es : List Expr} {ga gb gc : GE} {gs : GA} {pos p : Pos}
theorem de_len (hm : X.mg "len" = none) (ha : DA W X (e :: es) gs) (hg : Gl X "len" := by rfl) (he : starEach (e :: es) X.env = (false, eval e X.env) :: starEach es X.env := by rfl) (hpl : (backTo pos (starEach es X.env)).any (·.1) = false := by rfl) : DE W X (.Call (.Name "len" p) (e :: es) [] pos) (gCall fLen gs) :=
  de_callB call_lenA cg_len hm PySem.boot_len ha hg (he := he) (hpl := hpl)
end
end DL
/-! DLf: statements, defs, calls. -/
namespace DL
open PySem PySem.Spec PyProof.Rows L2

section
variable {K : PySem.W.Frag} {B H H' : Hp} {ex : Option Addr} {Rg : Rgs ex}
theorem SlotsR.mem : ∀ {δ : Sl} {σ : L2.St} {fp : List Addr}, SlotsR K Rg H δ σ fp → ∀ a ∈ fp, H a ≠ none
  | [], _, _, h => fun a ha => by rw [h.2] at ha; cases ha
  | s :: δ, _, _, h => fun b hb => by
    obtain ⟨ov, r, f, g, rfl, rfl, h1, h2⟩ := h
    rcases List.mem_append.mp hb with z | z
    · cases s with
      | no => rw [h1] at z; cases z
      | own d => obtain ⟨v, _, q⟩ := h1; exact q.mem b z
      | bor t d => rw [h1.1] at z; cases z
      | exn => rw [h1.1] at z; cases z
    · exact SlotsR.mem h2 b z
theorem SlotsR.ntup : ∀ {δ : Sl} {σ : L2.St} {fp : List Addr}, SlotsR K Rg H δ σ fp → ∀ a ∈ fp, ¬ Fast H a
  | [], _, _, h => fun a ha => by rw [h.2] at ha; cases ha
  | s :: δ, _, _, h => fun b hb => by
    obtain ⟨ov, r, f, g, rfl, rfl, h1, h2⟩ := h
    rcases List.mem_append.mp hb with z | z
    · cases s with
      | no => rw [h1] at z; cases z
      | own d => obtain ⟨v, _, q⟩ := h1; exact q.ntup b z
      | bor t d => rw [h1.1] at z; cases z
      | exn => rw [h1.1] at z; cases z
    · exact SlotsR.ntup h2 b z
/-- a name is stored: new data -/
theorem SRel.set {σ : L2.St} {δ : Sl} {i : Nat} {v : V} {d : D} {fp : List Addr} (S0 : SRel K B Rg σ H δ) (s : Same H H') (r : RepD K H' d v fp) (n : fp.Nodup) (f : ∀ a ∈ fp, H a = none) : SRel K B Rg (σ.set i (some v)) H' (δ.set i (.own d)) := by
  have S1 := S0.grow s
  obtain ⟨b, u, gp, q, gn, gf⟩ := S1
  have hl := q.len
  by_cases hi : i < δ.length
  · obtain ⟨b0, u0, fp0, z0, n0, f0⟩ := S0
    have z1 := z0.kt (Same.kt s) (fun _ a _ o e => s a o e) (fun a _ o e => s a o e)
    obtain ⟨fp', q1, q2, q3⟩ := SlotsR.set (v := some v) (s := .own d) (f' := fp) ⟨v, rfl, r⟩ i hi z1 n0 n (fun a ha hb => z0.mem a hb (f a ha))
    refine ⟨b, u, fp', q1, q2, fun a ha => ?_⟩
    rcases q3 a ha with z | z
    · exact f0 a z
    · exact b0.free (f a z)
  · rw [List.set_eq_of_length_le (by omega), List.set_eq_of_length_le (by omega)]
    exact ⟨b, u, gp, q, gn, gf⟩
/-- a slot is forgotten -/
theorem SlotsR.drop1 : ∀ {δ : Sl} {σ : L2.St} {fp : List Addr} (i : Nat), SlotsR K Rg H δ σ fp → fp.Nodup → ∃ fp', SlotsR K Rg H (δ.set i .no) σ fp' ∧ fp'.Nodup ∧ ∀ a ∈ fp', a ∈ fp
  | [], _, _, i, h, n => ⟨_, by simpa using h, n, fun _ z => z⟩
  | s :: δ, _, _, 0, h, n => by
    obtain ⟨ov, r, f, g, rfl, rfl, h1, h2⟩ := h
    rw [List.nodup_append] at n
    exact ⟨g, ⟨ov, r, [], g, rfl, rfl, rfl, h2⟩, n.2.1, fun a ha => by simp [ha]⟩
  | s :: δ, _, _, i + 1, h, n => by
    obtain ⟨ov, r, f, g, rfl, rfl, h1, h2⟩ := h
    rw [List.nodup_append] at n
    obtain ⟨fp', q1, q2, q3⟩ := SlotsR.drop1 i h2 n.2.1
    refine ⟨f ++ fp', ⟨ov, r, f, fp', rfl, rfl, h1, q1⟩, ?_, fun a ha => ?_⟩
    · rw [List.nodup_append]
      exact ⟨n.1, q2, fun a ha b hb e => n.2.2 a ha b (q3 b hb) e⟩
    · rcases List.mem_append.mp ha with z | z
      · simp [z]
      · simp [q3 a z]
/-- a slot's data is changed in place -/
theorem SlotsR.change {d : D} : ∀ {δ : Sl} {σ : L2.St} {fp : List Addr} (i : Nat), SlotsR K Rg H δ σ fp → fp.Nodup → δ[i]? = some (.own d) →
    (∀ t a, Rg t a ≠ none → a ∉ fp) →
    ∃ v f, σ[i]? = some (some v) ∧ RepD K H d v f ∧ (∀ a ∈ f, a ∈ fp) ∧ f.Nodup ∧
      ∀ (H' : Hp) (d' : D) (f' : List Addr), KT H H' → (∀ a o, a ∉ f → H a = some o → H' a = some o) → RepD K H' d' v f' → f'.Nodup → (∀ a ∈ f', a ∈ f ∨ H a = none) →
        ∃ fp', SlotsR K Rg H' (δ.set i (.own d')) σ fp' ∧ fp'.Nodup ∧ ∀ a ∈ fp', a ∈ fp ∨ a ∈ f'
  | [], _, _, i, _, _, e, _ => by simp at e
  | s :: δ, _, _, 0, h, n, e, hr => by
    obtain ⟨ov, r, f, g, rfl, rfl, h1, h2⟩ := h
    obtain rfl : s = .own d := by simpa using e
    obtain ⟨v, rfl, rd⟩ := h1
    rw [List.nodup_append] at n
    refine ⟨v, f, rfl, rd, fun a ha => by simp [ha], n.1, fun H' d' f' kt kp rd' n' hf => ?_⟩
    have h2' : SlotsR K Rg H' δ r g := SlotsR.kt kt (fun t a ra o e => kp a o (fun z => hr t a ra (by simp [z])) e) (fun a ha o e => kp a o (fun z => n.2.2 a z a ha rfl) e) h2
    refine ⟨f' ++ g, ⟨some v, r, f', g, rfl, rfl, ⟨v, rfl, rd'⟩, h2'⟩, ?_, fun a ha => ?_⟩
    · rw [List.nodup_append]
      refine ⟨n', n.2.1, fun a ha b hb e => ?_⟩
      subst e
      rcases hf a ha with z | z
      · exact n.2.2 a z a hb rfl
      · exact h2.mem a hb z
    · rcases List.mem_append.mp ha with z | z
      · exact .inr z
      · exact .inl (by simp [z])
  | s :: δ, _, _, i + 1, h, n, e, hr => by
    obtain ⟨ov, r, f, g, rfl, rfl, h1, h2⟩ := h
    rw [List.nodup_append] at n
    obtain ⟨v, fi, e1, rd, sub, ni, k⟩ := SlotsR.change i h2 n.2.1 (by simpa using e) (fun t a ra z => hr t a ra (by simp [z]))
    refine ⟨v, fi, by simpa using e1, rd, fun a ha => by simp [sub a ha], ni, fun H' d' f' kt kp rd' n' hf => ?_⟩
    obtain ⟨fp', q1, q2, q3⟩ := k H' d' f' kt kp rd' n' hf
    have h1' : SlotR K Rg H' s ov f := SlotR.kt kt (fun t a ra o e => kp a o (fun z => hr t a ra (by simp [sub a z])) e) (fun a ha o e => kp a o (fun z => n.2.2 a ha a (sub a z) rfl) e) h1
    refine ⟨f ++ fp', ⟨ov, r, f, fp', rfl, rfl, h1', q1⟩, ?_, fun a ha => ?_⟩
    · rw [List.nodup_append]
      refine ⟨n.1, q2, fun a ha b hb e => ?_⟩
      subst e
      rcases q3 a hb with z | z
      · exact n.2.2 a ha a z rfl
      · rcases hf a z with z | z
        · exact n.2.2 a ha a (sub a z) rfl
        · cases s with
          | no => rw [h1] at ha; cases ha
          | own d => obtain ⟨_, _, q⟩ := h1; exact q.mem a ha z
          | bor t d => rw [h1.1] at ha; cases ha
          | exn => rw [h1.1] at ha; cases ha
    · rcases List.mem_append.mp ha with z | z
      · exact .inl (by simp [z])
      · rcases q3 a z with z | z
        · exact .inl (by simp [z])
        · exact .inr z
/-- slot i's data is changed in place, at its addresses f alone -/
theorem SRel.change {σ : L2.St} {δ : Sl} {i : Nat} {d : D} (S0 : SRel K B Rg σ H δ) (e : δ[i]? = some (.own d)) : ∃ v f, σ[i]? = some (some v) ∧ RepD K H d v f ∧ f.Nodup ∧ (∀ a ∈ f, B a = none) ∧
    ∀ (H' : Hp) (d' : D) (f' : List Addr), KT H H' → (∀ a o, a ∉ f → H a = some o → H' a = some o) → RepD K H' d' v f' → f'.Nodup → (∀ a ∈ f', a ∈ f ∨ H a = none) → SRel K B Rg σ H' (δ.set i (.own d')) := by
  obtain ⟨b, u, fp, q, n, f⟩ := S0
  have hr : ∀ t a, Rg t a ≠ none → a ∉ fp := fun t a ra z => by
    cases e : Rg t a with
    | none => exact ra e
    | some o => have := u t a o e; rw [f a z] at this; cases this
  obtain ⟨v, fi, e1, rd, sub, ni, k⟩ := SlotsR.change i q n e hr
  refine ⟨v, fi, e1, rd, ni, fun a ha => f a (sub a ha), fun H' d' f' kt kp rd' n' hf => ?_⟩
  obtain ⟨fp', q1, q2, q3⟩ := k H' d' f' kt kp rd' n' hf
  refine ⟨fun a o z => kp a o (fun y => by rw [f a (sub a y)] at z; cases z) (b a o z), u, fp', q1, q2, fun a ha => ?_⟩
  rcases q3 a ha with z | z
  · exact f a z
  · rcases hf a z with z | z
    · exact f a (sub a z)
    · exact b.free z
end
end DL
/-! DLg: statements, defs, calls. -/
namespace DL
open PySem PySem.Spec PyProof.Rows L2

inductive Fl where
  | nx (δ : Sl) | ret (d : D) | bk (δ : Sl) | ct (δ : Sl)
abbrev GS := Sl → Rn Sl Fl
def postR (K : PySem.W.Frag) (B : Hp) (d : D) (Q : VK) : Prop := ∀ v H', Same B H' → (∃ fp, RepD K H' d v fp ∧ fp.Nodup ∧ ∀ a ∈ fp, B a = none) → Q v H'
def postF (K : PySem.W.Frag) (B : Hp) {ex : Option Addr} (Rg : Rgs ex) (D : Ends) : Fl → Prop
  | .nx δ => ∀ σ H, SRel K B Rg σ H δ → D.nx σ H
  | .bk δ => ∀ σ H, SRel K B Rg σ H δ → D.bk σ H
  | .ct δ => ∀ σ H, SRel K B Rg σ H δ → D.ct σ H
  | .ret d => postR K B d D.rt
def postE (c : DC) (B : Hp) (Rg : Rgs c.ex) : Str → Sl → Prop := fun cl δ => ∀ C σ H, c.mg cl = some (.ref C) → SRel c.K B Rg σ H δ → c.W (.ref C) none σ H
def tDS (c : DC) (g : GS) : TS := fun D σ H => ∃ (B : Hp) (Rg : Rgs c.ex) (δ : Sl), SRel c.K B Rg σ H δ ∧ (g δ).wp (postF c.K B Rg D) (postE c B Rg)
def DS (W : WX) (X : Cx) (st : Stmt) (g : GS) : Prop := PS X st (tDS (dc X W) g)
def DSs (W : WX) (X : Cx) (sts : List Stmt) (g : GS) : Prop := PSs X sts (tDS (dc X W) g)
/-- an expression's run within a statement -/
def lift {α : Type} (w : Rn Unit α) (δ : Sl) : Rn Sl α := w.mapErr fun _ => δ
section
variable {c : DC} {σ : L2.St} {H B : Hp} {Rg : Rgs c.ex} {δ : Sl} {D : Ends}
theorem tDS_val {g : GE} {f : R → Rn Sl Fl} (S : SRel c.K B Rg σ H δ) (h : ((lift (g δ) δ).bind f).wp (postF c.K B Rg D) (postE c B Rg)) {Q' : VK}
    (k : ∀ r v H1, Same H H1 → RepR c.K H H1 r v → SRel c.K B Rg σ H1 δ → (f r).wp (postF c.K B Rg D) (postE c B Rg) → Q' v H1) : tD c g σ H Q' :=
  ⟨B, Rg, δ, S, Rn.wp_mono (Rn.wp_mapErr.mp (Rn.wp_bind.mp h)) (fun r q v H1 s1 rv => k r v H1 s1 rv (S.grow s1) q) fun cl _ q C H' e s => q C σ H' e (S.grow s)⟩
theorem tDS_bool {g : GT} {f : Bool → Rn Sl Fl} (S : SRel c.K B Rg σ H δ) (h : ((lift (g δ) δ).bind f).wp (postF c.K B Rg D) (postE c B Rg)) {Q' : Bool → Hp → Prop}
    (k : ∀ b H1, Same H H1 → SRel c.K B Rg σ H1 δ → (f b).wp (postF c.K B Rg D) (postE c B Rg) → Q' b H1) : tDT c g σ H Q' :=
  ⟨B, Rg, δ, S, Rn.wp_mono (Rn.wp_mapErr.mp (Rn.wp_bind.mp h)) (fun r q H1 s1 => k r H1 s1 (S.grow s1) q) fun cl _ q C H' e s => q C σ H' e (S.grow s)⟩
theorem tDS_args {g : GA} {f : List R → Rn Sl Fl} (S : SRel c.K B Rg σ H δ) (h : ((lift (g δ) δ).bind f).wp (postF c.K B Rg D) (postE c B Rg)) {Q' : List V → Hp → Prop}
    (k : ∀ rs vs H1, Same H H1 → RepA c.K H H1 rs vs → SRel c.K B Rg σ H1 δ → (f rs).wp (postF c.K B Rg D) (postE c B Rg) → Q' vs H1) : tDA c g σ H Q' :=
  ⟨B, Rg, δ, S, Rn.wp_mono (Rn.wp_mapErr.mp (Rn.wp_bind.mp h)) (fun r q vs H1 s1 rv => k r vs H1 s1 rv (S.grow s1) q) fun cl _ q C H' e s => q C σ H' e (S.grow s)⟩
end
def gNext : GS := fun δ => .ok (.nx δ)
def gSeq (a b : GS) : GS := fun δ => (a δ).bind fun
  | .nx δ' => b δ'
  | fl => .ok fl
section
variable {W : WX} {X : Cx} {a b e : Expr} {es : List Expr} {ga gb gc : GE} {gs : GA} {gt : GT} {g1 g2 : GS} {st : Stmt} {sts : List Stmt} {pos : Pos}
theorem dss_nil : DSs W X [] gNext := PSs.imp pss_nil fun D σ H ⟨B, Rg, δ, S0, w⟩ => w σ H S0
theorem dss_cons (h1 : DS W X st g1) (h2 : DSs W X sts g2) : DSs W X (st :: sts) (gSeq g1 g2) := by
  refine PSs.imp (pss_cons h1 h2) fun D σ H ⟨B, Rg, δ, S0, w⟩ => ?_
  refine ⟨B, Rg, δ, S0, Rn.wp_mono (Rn.wp_bind.mp w) (fun fl q => ?_) fun _ _ q => q⟩
  cases fl with
  | nx δ' => exact fun σ' H' S' => ⟨B, Rg, δ', S', q⟩
  | ret d => exact q
  | bk δ' => exact q
  | ct δ' => exact q
theorem dss_one (h1 : DS W X st g1) : DSs W X [st] g1 := pss_one h1
theorem ds_pass : DS W X (.Pass pos) gNext := PS.imp ps_pass fun D σ H ⟨B, Rg, δ, S0, w⟩ => w σ H S0
def gBk : GS := fun δ => .ok (.bk δ)
def gCt : GS := fun δ => .ok (.ct δ)
theorem ds_break : DS W X (.Break pos) gBk := PS.imp ps_break fun D σ H ⟨B, Rg, δ, S0, w⟩ => w σ H S0
theorem ds_continue : DS W X (.Continue pos) gCt := PS.imp ps_continue fun D σ H ⟨B, Rg, δ, S0, w⟩ => w σ H S0
def gIfS (t : GT) (a b : GS) : GS := fun δ => (lift (t δ) δ).bind fun k => if k = true then a δ else b δ
theorem ds_if {s1 s2 : List Stmt} (hc : DT W X e gt) (ha : DSs W X s1 g1) (hb : DSs W X s2 g2) : DS W X (.If e s1 s2 pos) (gIfS gt g1 g2) := by
  refine PS.imp (ps_if hc ha hb) fun D σ H ⟨B, Rg, δ, S0, w⟩ => ?_
  refine tDS_bool S0 w fun k H1 s1 S1 q => ?_
  cases k with
  | true => rw [if_pos rfl] at q ⊢; exact ⟨B, Rg, δ, S1, q⟩
  | false => rw [if_neg (by decide)] at q ⊢; exact ⟨B, Rg, δ, S1, q⟩
def gRet (ga : GE) : GS := fun δ => (lift (ga δ) δ).bind fun
  | .own d => .ok (.ret d)
  | .vw _ => .bad
theorem ds_ret (ha : DE W X e ga) : DS W X (.Return (some e) pos) (gRet ga) := by
  refine PS.imp (ps_ret ha) fun D σ H ⟨B, Rg, δ, S0, w⟩ => ?_
  refine tDS_val S0 w fun r v H1 s1 rv S1 q => ?_
  cases r with
  | own d =>
    obtain ⟨fp, q1, n, f⟩ := rv
    exact q v H1 S1.same ⟨fp, q1, n, fun a ha => S0.same.free (f a ha)⟩
  | vw d => exact q.elim
def gRetV (i : Nat) : GS := fun δ => match δ[i]? with
  | some (.own d) => .ok (.ret d)
  | some (.bor _ (.p x)) => .ok (.ret (.p x))
  | _ => .bad
theorem ds_retV {i : Nat} {x : Str} {p : Pos} (hN : X.N[i]? = some x) (hv : Vis X.env.scope x) (hd : (x == ("__debug__" : Str)) = false := by decide) (hcd : (x == ("__classdict__" : Str)) = false := by decide) :
    DS W X (.Return (some (.Name x p)) pos) (gRetV i) := by
  refine PS.imp (ps_ret (pe_var hN hv hd hcd)) fun D σ H ⟨B, Rg, δ, S0, w⟩ => ?_
  unfold gRetV at w
  split at w
  · rename_i d e
    obtain ⟨v, f, e1, r, n, ff, _⟩ := S0.change e
    exact ⟨v, e1, w v H S0.same ⟨f, r, n, ff⟩⟩
  · rename_i t x e
    obtain ⟨v, g, e1, r⟩ := S0.slot e (.inr ⟨t, rfl⟩)
    exact ⟨v, e1, w v H S0.same ⟨[], ⟨r.1, rfl⟩, List.nodup_nil, fun _ z => nomatch z⟩⟩
  · exact w.elim
theorem ds_retN : DS W X (.Return none pos) (fun _ => .ok (.ret (.p .non))) := by
  refine PS.imp ps_retN fun D σ H ⟨B, Rg, δ, S0, w⟩ => ?_
  exact w .non H S0.same ⟨[], ⟨rfl, rfl⟩, List.nodup_nil, fun _ z => nomatch z⟩
def gSet (i : Nat) (ga : GE) : GS := fun δ => (lift (ga δ) δ).bind fun
  | .own d => .ok (.nx (δ.set i (.own d)))
  | .vw _ => .bad
theorem ds_set {i : Nat} {x : Str} {p : Pos} (hN : X.N.Nodup) (hi : X.N[i]? = some x) (hx : Loc X.env.scope x) (ha : DE W X e ga) (hs : swapsWith e (some (.Name x p)) pos.line X.env = pure false := by rfl)
    (hf : X.fn x = true ∨ X.env.scope.names.lookup x = some .local := by first | exact .inl rfl | exact .inr rfl | assumption) : DS W X (.Assign [.Name x p] e pos) (gSet i ga) := by
  refine PS.imp (ps_set hN hi hx ha hs hf) fun D σ H ⟨B, Rg, δ, S0, w⟩ => ?_
  refine tDS_val S0 w fun r v H1 s1 rv S1 q => ?_
  cases r with
  | own d =>
    obtain ⟨fp, q1, n, f⟩ := rv
    exact q _ _ (S0.set s1 q1 n f)
  | vw d => exact q.elim
def gExpr (ga : GE) : GS := fun δ => (lift (ga δ) δ).bind fun _ => .ok (.nx δ)
theorem ds_expr (ha : DE W X e ga) (hs : swapsWith e none pos.line X.env = pure false := by rfl) : DS W X (.Expr e pos) (gExpr ga) := by
  refine PS.imp (ps_expr ha hs) fun D σ H ⟨B, Rg, δ, S0, w⟩ => ?_
  exact tDS_val S0 w fun r v H1 s1 rv S1 q => q _ _ S1
end
end DL
/-! DLh: targets, loops. -/
namespace DL
open PySem PySem.Spec PyProof.Rows L2

/-! ### targets -/
inductive Tg where
  | one (i : Nat) | tup (is : List Nat)
def gNms : List Nat → TGs
  | [] => L2.gNil
  | i :: is => L2.gCons (gName i) (gNms is)
def Tg.g (K : PySem.W.Frag) : Tg → TG
  | .one i => gName i
  | .tup is => L2.gTup K is.length (gNms is)
def setAll : List Nat → List D → Sl → Sl
  | i :: is, d :: ds, δ => setAll is ds (δ.set i (.own d))
  | _, _, δ => δ
/-- the slots behind a store of d -/
def Tg.set : Tg → D → Sl → Option Sl
  | .one i, d, δ => some (δ.set i (.own d))
  | .tup is, .p (.tup xs), δ => if xs.length = is.length then some (setAll is (xs.map D.p) δ) else none
  | .tup is, .tp ds, δ => if ds.length = is.length then some (setAll is ds δ) else none
  | _, _, _ => none
section
variable {K : PySem.W.Frag} {B H H' : Hp} {ex : Option Addr} {Rg : Rgs ex}
theorem RepPs.ds : ∀ {xs : List P} {vs : List V}, RepPs K H xs vs → RepDs K H (xs.map D.p) vs []
  | [], _, h => ⟨h, rfl⟩
  | x :: xs, _, h => by
    obtain ⟨v, r, rfl, h1, h2⟩ := h
    exact ⟨v, r, [], [], rfl, rfl, ⟨h1, rfl⟩, RepPs.ds h2⟩
theorem setAll_ok : ∀ (is : List Nat) (ds : List D) (vs : List V) (gp : List Addr) (σ : L2.St) (δ : Sl) (fp : List Addr) (Q : L2.St → Hp → Prop), ds.length = is.length → SlotsR K Rg H δ σ fp → RepDs K H ds vs gp → (fp ++ gp).Nodup →
    (∀ σ' fp', SlotsR K Rg H (setAll is ds δ) σ' fp' → fp'.Nodup → (∀ a ∈ fp', a ∈ fp ++ gp) → Q σ' H) → gNms is vs σ H Q
  | [], [], vs, gp, σ, δ, fp, Q, _, S0, r, n, k => by
    obtain ⟨rfl, rfl⟩ := r
    exact ⟨rfl, k σ fp S0 (by simpa using n) (fun a ha => by simp [ha])⟩
  | i :: is, d :: ds, vs, gp, σ, δ, fp, Q, hl, S0, r, n, k => by
    obtain ⟨v, r, f, g, rfl, rfl, h1, h2⟩ := r
    refine ⟨v, r, rfl, ?_⟩
    have n' := n
    rw [List.nodup_append] at n'
    obtain ⟨n1, n2, n3⟩ := n'
    rw [List.nodup_append] at n2
    by_cases hi : i < δ.length
    · obtain ⟨fp', q1, q2, q3⟩ := SlotsR.set (v := some v) (s := .own d) (f' := f) ⟨v, rfl, h1⟩ i hi S0 n1 n2.1 (fun a ha hb => n3 a hb a (by simp [ha]) rfl)
      refine setAll_ok is ds r g _ _ fp' Q (by simpa using hl) q1 h2 ?_ fun σ' fp'' z1 z2 z3 => k σ' fp'' z1 z2 fun a ha => ?_
      · rw [List.nodup_append]
        refine ⟨q2, n2.2.1, fun a ha b hb e => ?_⟩
        subst e
        rcases q3 a ha with z | z
        · exact n3 a z a (by simp [hb]) rfl
        · exact n2.2.2 a z a hb rfl
      · rcases List.mem_append.mp (z3 a ha) with z | z
        · rcases q3 a z with z | z
          · simp [z]
          · simp [z]
        · simp [z]
    · have hls := S0.len
      have e1 : σ.set i (some v) = σ := List.set_eq_of_length_le (by omega)
      have e2 : δ.set i (.own d) = δ := List.set_eq_of_length_le (by omega)
      show gNms is r (σ.set i (some v)) H Q
      rw [e1]
      refine setAll_ok is ds r g _ _ fp Q (by simpa using hl) S0 h2 ?_ fun σ' fp'' z1 z2 z3 => k σ' fp'' (by show SlotsR K Rg H (setAll is ds (δ.set i (.own d))) σ' fp''; rw [e2]; exact z1) z2 fun a ha => ?_
      · rw [List.nodup_append]
        exact ⟨n1, n2.2.1, fun a ha b hb e => n3 a ha b (by simp [hb]) e⟩
      · rcases List.mem_append.mp (z3 a ha) with z | z
        · simp [z]
        · simp [z]
  | [], d :: ds, _, _, _, _, _, _, hl, _, _, _, _ => by simp at hl
  | i :: is, [], _, _, _, _, _, _, hl, _, _, _, _ => by simp at hl
/-- a store of what was made from H on -/
theorem Tg.ok {t : Tg} {d : D} {δ δ' : Sl} {σ : L2.St} {v : V} {gp : List Addr} {Q : L2.St → Hp → Prop} (S0 : SRel K B Rg σ H δ) (s : Same H H') (r : RepD K H' d v gp) (n : gp.Nodup) (f : ∀ a ∈ gp, H a = none)
    (e : t.set d δ = some δ') (k : ∀ σ', SRel K B Rg σ' H' δ' → Q σ' H') : t.g K v σ H' Q := by
  cases t with
  | one i =>
    obtain rfl := Option.some.inj e
    exact k _ (S0.set s r n f)
  | tup is =>
    have S1 := S0.grow s
    obtain ⟨b, u, fp, q, qn, qf⟩ := S0
    have q1 := q.kt (Same.kt s) (fun _ a _ o e => s a o e) (fun a _ o e => s a o e)
    have nn : (fp ++ gp).Nodup := by
      rw [List.nodup_append]
      exact ⟨qn, n, fun a ha b hb e => by subst e; exact q.mem a ha (f a hb)⟩
    have fin : ∀ σ' fp', SlotsR K Rg H' δ' σ' fp' → fp'.Nodup → (∀ a ∈ fp', a ∈ fp ++ gp) → Q σ' H' := fun σ' fp' z1 z2 z3 => k σ' ⟨b.trans s, u, fp', z1, z2, fun a ha => by
      rcases List.mem_append.mp (z3 a ha) with z | z
      · exact qf a z
      · exact b.free (f a z)⟩
    unfold Tg.set at e
    split at e
    · rename_i e0; cases e0
    · rename_i is' δ'' xs e0
      cases e0
      split at e
      · rename_i hl
        obtain rfl := Option.some.inj e
        obtain ⟨⟨a, vs, rfl, qa, ra⟩, rfl⟩ := r
        exact ⟨a, vs, rfl, qa, by rw [ra.len, hl], setAll_ok is _ vs [] σ _ fp Q (by simpa using hl) q1 ra.ds nn fin⟩
      · cases e
    · rename_i is' δ'' ds e0
      cases e0
      split at e
      · rename_i hl
        obtain rfl := Option.some.inj e
        obtain ⟨a, vs, rfl, qa, ra⟩ := r
        exact ⟨a, vs, rfl, qa, by rw [ra.len, hl], setAll_ok is _ vs gp σ _ fp Q hl q1 ra nn fin⟩
      · cases e
    · cases e
end

theorem gNms_mono {Q Q' : L2.St → Hp → Prop} (k : ∀ σ H, Q σ H → Q' σ H) : ∀ (is : List Nat) (vs : List V) (σ : L2.St) (H : Hp), gNms is vs σ H Q → gNms is vs σ H Q'
  | [], _, _, _, h => ⟨h.1, k _ _ h.2⟩
  | i :: is, _, _, _, h => by
    obtain ⟨v, r, e, h⟩ := h
    exact ⟨v, r, e, gNms_mono k is r _ _ h⟩
theorem Tg.g_mono {K : PySem.W.Frag} {H : Hp} {t : Tg} {v : V} {σ : L2.St} {Q Q' : L2.St → Hp → Prop} (k : ∀ σ H, Q σ H → Q' σ H) (h : t.g K v σ H Q) : t.g K v σ H Q' := by
  cases t with
  | one i => exact k _ _ h
  | tup is =>
    obtain ⟨a, xs, e1, e2, e3, h⟩ := h
    exact ⟨a, xs, e1, e2, e3, gNms_mono k is xs σ H h⟩

/-! ### what a loop walks -/
def Runs (K : PySem.W.Frag) (G : Hp) (J : It) (xs : List P) : Prop := ∀ H', Same G H' → ∀ i, (∀ p, xs[i]? = some p → J.go i H' ∧ ∀ x H'', J.yld i H' x H'' → Same H' H'' ∧ RepP K H'' p x) ∧ (xs.length ≤ i → J.stop i H')
structure Walk (K : PySem.W.Frag) (H0 H : Hp) (J : It) (xs : List P) : Prop where
  ex : ∃ G, Same G H ∧ (∀ a, G a ≠ none → H0 a = none ∨ Fast H a) ∧ Runs K G J xs
/-- the tuples that stand, and what is locked -/
def tupG (H : Hp) : Hp := fun b => match H b with
  | some (.tup xs) => some (.tup xs)
  | some (.frz o u) => some (.frz o u)
  | _ => none
theorem tupG_same (H : Hp) : Same (tupG H) H := fun b o e => by
  unfold tupG at e
  split at e
  · rename_i h; rw [h]; exact e
  · rename_i h; rw [h]; exact e
  · cases e
theorem tupG_rd {H : Hp} {a : Addr} (h : tupG H a ≠ none) : Fast H a := by
  unfold tupG at h
  split at h
  · rename_i xs e; exact .inl ⟨xs, e⟩
  · rename_i o u e; exact .inr ⟨o, u, e⟩
  · exact absurd rfl h
theorem tupG_kt {H H' : Hp} (s : Same (tupG H) H') : KT H H' := ⟨fun a xs h => by
  rcases h with h | ⟨o, h⟩
  · exact .inl (s a _ (by unfold tupG; rw [h]))
  · exact .inr ⟨o, s a _ (by unfold tupG; rw [h])⟩, fun a o u h => s a _ (by unfold tupG; rw [h])⟩
section
variable {K : PySem.W.Frag} {H H0 : Hp}
theorem Walk.range (lo : Int) (n : Nat) : Walk K H0 H (Itr lo n) ((List.range n).map fun (i : Nat) => P.int (lo + (i : Int))) := by
  refine ⟨fun _ => none, (fun _ _ z => by cases z), (fun _ z => absurd rfl z), fun H' _ i => ⟨fun p e => ?_, fun h => (by have h' : n ≤ i := (by simpa using h); exact h')⟩⟩
  simp only [List.getElem?_map, Option.map_eq_some_iff] at e
  obtain ⟨j, ej, rfl⟩ := e
  obtain ⟨hj, ej⟩ := List.getElem?_eq_some_iff.mp ej
  simp at hj ej
  subst ej
  refine ⟨hj, fun x H'' y => ?_⟩
  obtain ⟨rfl, rfl⟩ := y
  exact ⟨Same.refl _, rfl⟩
theorem runs_list {a : Addr} {vs : List V} {xs : List P} (h : H a = some (.lst vs)) (r : RepPs K H xs vs) : ∃ G, Same G H ∧ (∀ b, G b ≠ none → b = a ∨ Fast H b) ∧ Runs K G (Itl K a) xs := by
  refine ⟨upd (tupG H) a (.lst vs), fun b o e => ?_, fun b hb => ?_, fun H' s i => ?_⟩
  · unfold upd at e
    split at e
    · rename_i z; subst z; rw [h]; exact e
    · exact tupG_same H b o e
  · unfold upd at hb
    split at hb
    · rename_i z; exact .inl z
    · exact .inr (tupG_rd hb)
  · have ha : H' a = some (.lst vs) := s a _ upd_same
    have kt : KT H H' := tupG_kt fun b o e => by
      by_cases z : b = a
      · subst z
        have := tupG_same H b o e
        rw [h] at this
        cases this
        exact ha
      · exact s b o (by rw [upd_ne z]; exact e)
    have r' := RepPs.kt kt _ _ r
    refine ⟨fun p ep => ?_, fun hi => ⟨vs, SqL.of ha, by rw [r.len]; exact hi⟩⟩
    obtain ⟨w, e2, q⟩ := r'.get ep
    refine ⟨⟨vs, w, SqL.of ha, e2⟩, fun x H'' y => ?_⟩
    obtain ⟨rfl, y⟩ := y
    have e := y vs (SqL.of ha)
    rw [e] at e2
    obtain rfl := Option.some.inj e2
    exact ⟨Same.refl _, q⟩
theorem Walk.list {a : Addr} {vs : List V} {xs : List P} (h : H a = some (.lst vs)) (h0 : H0 a = none) (r : RepPs K H xs vs) : Walk K H0 H (Itl K a) xs := by
  obtain ⟨G, g1, g2, g3⟩ := runs_list h r
  exact ⟨G, g1, fun b hb => (g2 b hb).imp (fun e => by rw [e]; exact h0) id, g3⟩
theorem Walk.tup {a : Addr} {vs : List V} {xs : List P} (h : SqT K H a vs) (r : RepPs K H xs vs) : Walk K H0 H (Itt K a) xs := by
  refine ⟨tupG H, tupG_same H, fun b hb => .inr (tupG_rd hb), fun H' s i => ?_⟩
  have kt : KT H H' := tupG_kt s
  have ha := kt.sqt h
  have r' := RepPs.kt kt _ _ r
  refine ⟨fun p ep => ?_, fun hi => ⟨vs, ha, by rw [r.len]; exact hi⟩⟩
  obtain ⟨w, e2, q⟩ := r'.get ep
  refine ⟨⟨vs, w, ha, e2⟩, fun x H'' y => ?_⟩
  obtain ⟨rfl, y⟩ := y
  have e := y vs ha
  rw [e] at e2
  obtain rfl := Option.some.inj e2
  exact ⟨Same.refl _, q⟩
def signs (z : Str) : List P := z.cps.toList.map fun c => P.str ⟨#[c]⟩
theorem Walk.str (z : Str) : Walk K H0 H (Its z) (signs z) := by
  refine ⟨fun _ => none, (fun _ _ z => by cases z), (fun _ z => absurd rfl z), fun H' _ i => ⟨fun p e => ?_, fun h => (by have h' : z.cps.size ≤ i := (by simpa [signs] using h); exact h')⟩⟩
  simp only [signs, List.getElem?_map, Option.map_eq_some_iff] at e
  obtain ⟨c, ec, rfl⟩ := e
  rw [Array.getElem?_toList] at ec
  refine ⟨(Array.getElem?_eq_some_iff.mp ec).1, fun x H'' y => ?_⟩
  obtain ⟨rfl, c', e', rfl⟩ := y
  rw [ec] at e'
  obtain rfl := Option.some.inj e'
  exact ⟨Same.refl _, rfl⟩
end

/-! ### loops -/
def gForL (t : Tg) (g : GS) : List P → GS
  | [], δ => .ok (.nx δ)
  | x :: xs, δ => match t.set (.p x) δ with
    | some δ1 => (g δ1).bind fun
      | .nx δ' => gForL t g xs δ'
      | .ct δ' => gForL t g xs δ'
      | .bk δ' => .ok (.nx δ')
      | .ret d => .ok (.ret d)
    | none => .bad
section
variable {c : DC} {B : Hp} {Rg : Rgs c.ex} {G : Hp} {D : Ends} {t : Tg} {g : GS} {J : It}
theorem loop_core {σ0 : L2.St} {H0 : Hp} {δ0 : Sl} {xs : List P} (hG : Same G B) (hR : Runs c.K G J xs) (S0 : SRel c.K B Rg σ0 H0 δ0) (w0 : (gForL t g xs δ0).wp (postF c.K B Rg D) (postE c B Rg)) :
    ∃ W : Nat → Nat → L2.St → Hp → Prop, (∃ m, W 0 m σ0 H0) ∧ ∀ i m σ H, W i m σ H → (J.stop i H ∧ D.nx σ H) ∨
      (J.go i H ∧ ∃ N : L2.St → Hp → Prop, (∀ σ' H', N σ' H' → ∃ m', m' < m ∧ W (i + 1) m' σ' H') ∧ ∀ x H', J.yld i H x H' → t.g c.K x σ H' fun σ2 H2 => tDS c g { D with nx := N, ct := N, bk := D.nx } σ2 H2) := by
  refine ⟨fun i m σ H => m = xs.length - i ∧ i ≤ xs.length ∧ ∃ δ, SRel c.K B Rg σ H δ ∧ (gForL t g (xs.drop i) δ).wp (postF c.K B Rg D) (postE c B Rg), ⟨xs.length, by simp, Nat.zero_le _, δ0, S0, by simpa using w0⟩, ?_⟩
  rintro i m σ H ⟨rfl, hi, δ, S1, w⟩
  obtain ⟨r1, r2⟩ := hR H (hG.trans S1.same) i
  by_cases hlt : i < xs.length
  · have ep := List.getElem?_eq_getElem hlt
    obtain ⟨go, yl⟩ := r1 _ ep
    rw [List.drop_eq_getElem_cons hlt] at w
    refine .inr ⟨go, fun σ H => ∃ δ, SRel c.K B Rg σ H δ ∧ (gForL t g (xs.drop (i + 1)) δ).wp (postF c.K B Rg D) (postE c B Rg), fun σ' H' q => ⟨xs.length - (i + 1), by omega, rfl, hlt, q⟩, fun x H' y => ?_⟩
    obtain ⟨s, rp⟩ := yl x H' y
    unfold gForL at w
    split at w
    · rename_i δ1 e1
      refine Tg.ok S1 s (gp := []) (d := .p xs[i]) ⟨rp, rfl⟩ List.nodup_nil (fun _ z => nomatch z) e1 fun σ' S2 => ?_
      refine ⟨B, Rg, δ1, S2, Rn.wp_mono (Rn.wp_bind.mp w) (fun fl q => ?_) fun _ _ q => q⟩
      cases fl with
      | nx δ' => exact fun σ H S => ⟨δ', S, q⟩
      | ct δ' => exact fun σ H S => ⟨δ', S, q⟩
      | bk δ' => exact q
      | ret d => exact q
    · exact w.elim
  · have hn : xs.length ≤ i := by omega
    rw [List.drop_eq_nil_of_le hn] at w
    exact .inl ⟨r2 hn, w σ H S1⟩
/-- more is held -/
theorem SRel.hold {K : PySem.W.Frag} {σ : L2.St} {H0 H : Hp} {δ : Sl} (S0 : SRel K B Rg σ H0 δ) (s : Same H0 H) (hG : Same G H) (hf : ∀ a, G a ≠ none → H0 a = none ∨ Fast H a ∨ B a ≠ none) :
    ∃ B', Same B B' ∧ Same G B' ∧ SRel K B' Rg σ H δ := by
  have S1 := S0.grow s
  obtain ⟨b0, u0, fp, q0, n, f⟩ := S0
  have q1 := q0.kt (Same.kt s) (fun _ a _ o e => s a o e) (fun a _ o e => s a o e)
  refine ⟨fun a => match G a with | some o => some o | none => B a, fun a o e => ?_, fun a o e => by simp only [e], ⟨fun a o e => ?_, fun t a o e => ?_, fp, q1, n, fun a ha => ?_⟩⟩
  · show (match G a with | some o => some o | none => B a) = some o
    cases z : G a with
    | none => exact e
    | some o' =>
      have h1 := hG a o' z
      have h2 := S1.same a o e
      rw [h1] at h2
      exact h2
  · have e' : (match G a with | some o => some o | none => B a) = some o := e
    cases z : G a with
    | none => rw [z] at e'; exact S1.same a o e'
    | some o' => rw [z] at e'; obtain rfl := Option.some.inj e'; exact hG a _ z
  · show (match G a with | some o => some o | none => B a) = some o
    cases z : G a with
    | none => exact u0 t a o e
    | some o' =>
      have h1 := hG a o' z
      have h2 := S1.same a o (u0 t a o e)
      rw [h1] at h2
      exact h2
  · show (match G a with | some o => some o | none => B a) = none
    cases z : G a with
    | none => exact f a ha
    | some o' =>
      exfalso
      rcases hf a (by rw [z]; exact fun z => nomatch z) with y | y | y
      · exact q0.mem a ha y
      · exact q1.ntup a ha y
      · exact y (f a ha)
theorem SRel.unhold {K : PySem.W.Frag} {B' : Hp} {σ : L2.St} {H : Hp} {δ : Sl} (S : SRel K B' Rg σ H δ) (b : Same B B') (u : ∀ t, Same (Rg t) B) : SRel K B Rg σ H δ := by
  obtain ⟨b1, u1, fp, q, n, f⟩ := S
  exact ⟨b.trans b1, u, fp, q, n, fun a ha => b.free (f a ha)⟩
theorem postF_hold {K : PySem.W.Frag} {B' : Hp} (b : Same B B') (u : ∀ t, Same (Rg t) B) {fl : Fl} (q : postF K B Rg D fl) : postF K B' Rg D fl := by
  cases fl with
  | nx δ => exact fun σ H S => q σ H (S.unhold b u)
  | bk δ => exact fun σ H S => q σ H (S.unhold b u)
  | ct δ => exact fun σ H S => q σ H (S.unhold b u)
  | ret d => exact fun v H' s ⟨fp, r, n, f⟩ => q v H' (b.trans s) ⟨fp, r, n, fun a ha => b.free (f a ha)⟩
theorem postE_hold {B' : Hp} (b : Same B B') (u : ∀ t, Same (Rg t) B) {cl : Str} {δ : Sl} (q : postE c B Rg cl δ) : postE c B' Rg cl δ := fun C σ H e S => q C σ H e (S.unhold b u)
end
/-- what a for or a comprehension walks, as data -/
abbrev GI := Sl → Rn Unit (List P)
def tDI (c : DC) (g : GI) : TI := fun σ H R => ∃ (B : Hp) (Rg : Rgs c.ex) (δ : Sl), SRel c.K B Rg σ H δ ∧
  (g δ).wp (fun xs => ∀ J H', Same H H' → Walk c.K H H' J xs → R J H') fun cl _ => ∀ C H', c.mg cl = some (.ref C) → Same H H' → c.W (.ref C) none σ H'
def DI (W : WX) (X : Cx) (tg iter : Expr) (g : GI) : Prop := PI X tg iter (tDI (dc X W) g)
theorem PI.imp {X : Cx} {tg iter : Expr} {t t' : TI} (h : PI X tg iter t) (m : ∀ σ H R, t' σ H R → t σ H R) : PI X tg iter t' := ⟨fun pins s σ H R I q => h.run pins s σ H R I (m σ H R q)⟩
section
variable {W : WX} {X : Cx} {a b e tg iter : Expr} {es : List Expr} {ga gb gc : GE} {gs : GA} {gt : GT} {gi : GI} {g1 g2 : GS} {st : Stmt} {sts body : List Stmt} {pos p : Pos}
def iSeq (K : PySem.W.Frag) (tl : TE) : TI := fun σ H R => tl σ H fun x H1 => (∃ a, x = .ref a ∧ (∃ xs, SqL K H1 a xs) ∧ R (Itl K a) H1) ∨ (∃ a, x = .ref a ∧ (∃ xs, SqT K H1 a xs) ∧ R (Itt K a) H1) ∨ ∃ z, x = .str z ∧ R (Its z) H1
theorem pi_seq {l : Expr} {tl : TE} (hl : PE X l tl) : PI X tg l (iSeq X.K tl) := by
  refine ⟨fun pins s σ H R I h => ?_⟩
  refine thn (hl.run pins s σ H _ I h) fun v s1 ⟨x, H1, I1, r1, q1⟩ => ?_
  rcases q1 with ⟨a, rfl, ⟨xs, hq⟩, q⟩ | ⟨a, rfl, ⟨xs, hq⟩, q⟩ | ⟨z, rfl, q⟩
  · cases r1
    obtain ⟨its, rv, p, hz⟩ := I1.list hq
    refine wpAny_pyIter_list p.isList ?_
    exact pi_one (tk := s1.toks) I1 _ (turn_list a _) ⟨_, Heap.get?_push_size _ rfl, rfl, rfl⟩ q
  · cases r1
    obtain ⟨its, rv, p, hz⟩ := I1.tuple hq
    refine wpAny_pyIter_tuple (show s1.heap.IsTuple a its.toArray from p) ?_
    exact pi_one (tk := s1.toks) I1 _ (turn_tuple a _) ⟨_, Heap.get?_push_size _ rfl, rfl, rfl⟩ q
  · obtain ⟨t, rfl⟩ := r1
    cases ha : z.cps.all (· < 128)
    · exact wpAny_pyIter_wide ha (pi_one (tk := s1.toks) I1 _ (turn_str _ z t "str_iterator" (.inr rfl)) ⟨_, Heap.get?_push_size _ rfl, rfl, rfl⟩ q)
    · exact wpAny_pyIter_ascii ha (pi_one (tk := s1.toks) I1 _ (turn_str _ z t "str_ascii_iterator" (.inl rfl)) ⟨_, Heap.get?_push_size _ rfl, rfl, rfl⟩ q)
def R.items : R → Option (List P)
  | .own (.p (.tup xs)) => some xs
  | .vw (.p (.tup xs)) => some xs
  | .own (.p (.str z)) => some (signs z)
  | .vw (.p (.str z)) => some (signs z)
  | .own (.lst xs) => some xs
  | _ => none
def gSeqI (ga : GE) : GI := fun δ => (ga δ).bind fun r => match r.items with
  | some xs => .ok xs
  | none => .bad
theorem di_seq (ha : DE W X e ga) : DI W X tg e (gSeqI ga) := by
  refine PI.imp (pi_seq ha) fun σ H Rk ⟨B, Rg, δ, S0, w⟩ => ?_
  refine ⟨B, Rg, δ, S0, Rn.wp_mono (Rn.wp_bind.mp w) (fun r q v H1 s1 rv => ?_) fun _ _ q => q⟩
  split at q
  · rename_i xs e
    unfold R.items at e
    split at e
    · obtain rfl := Option.some.inj e
      obtain ⟨a, vs, rfl, qa, ra⟩ := rv.getP rfl
      exact .inr (.inl ⟨a, rfl, ⟨vs, qa⟩, q _ H1 s1 (.tup qa ra)⟩)
    · obtain rfl := Option.some.inj e
      obtain ⟨a, vs, rfl, qa, ra⟩ := rv.getP rfl
      exact .inr (.inl ⟨a, rfl, ⟨vs, qa⟩, q _ H1 s1 (.tup qa ra)⟩)
    · rename_i z
      obtain rfl := Option.some.inj e
      obtain rfl : v = .str z := rv.getP rfl
      exact .inr (.inr ⟨z, rfl, q _ H1 s1 (.str z)⟩)
    · rename_i z
      obtain rfl := Option.some.inj e
      obtain rfl : v = .str z := rv.getP rfl
      exact .inr (.inr ⟨z, rfl, q _ H1 s1 (.str z)⟩)
    · obtain rfl := Option.some.inj e
      obtain ⟨fp, ⟨a, vs, rfl, qa, rfl, ra⟩, n, f⟩ := rv
      exact .inl ⟨a, rfl, ⟨vs, SqL.of qa⟩, q _ H1 s1 (.list qa (f a (by simp)) ra)⟩
    · cases e
  · exact q.elim
def rangeP (lo hi : Int) : List P := (List.range (hi - lo).toNat).map fun (i : Nat) => P.int (lo + (i : Int))
def fRange1 : List D → Rn Unit (List P)
  | [.p (.int j)] => if -(2 ^ 62) ≤ j ∧ j < 2 ^ 62 then .ok (rangeP 0 j) else .bad
  | _ => .bad
def fRange2 : List D → Rn Unit (List P)
  | [.p (.int i), .p (.int j)] => if -(2 ^ 62) ≤ i ∧ i < 2 ^ 62 ∧ -(2 ^ 62) ≤ j ∧ j < 2 ^ 62 then .ok (rangeP i j) else .bad
  | _ => .bad
def gRangeI (f : List D → Rn Unit (List P)) (gs : GA) : GI := fun δ => (gs δ).bind fun rs => f (rs.map R.d)
theorem di_range1 (hm : X.mg "range" = none) (ha : DA W X [a] gs) (hg : Gl X "range" := by rfl) (hs : starEach [a] X.env = [(false, eval a X.env)] := by rfl) : DI W X tg (.Call (.Name "range" p) [a] [] pos) (gRangeI fRange1 gs) := by
  refine PI.imp (pi_range1 hg hm ha hs) fun σ H Rk ⟨B, Rg, δ, S0, w⟩ => ?_
  refine ⟨B, Rg, δ, S0, Rn.wp_mono (Rn.wp_bind.mp w) (fun rs q vs H1 s1 ra => ?_) fun _ _ q => q⟩
  obtain ⟨fp, r, _⟩ := ra
  have lk := r.look
  generalize rs.map R.d = ds at lk q
  unfold fRange1 at q
  split at q
  · rename_i j
    obtain ⟨v, fp1, rfl, rr⟩ := lk.one
    obtain rfl : v = .int j := rr.1
    split at q
    · rename_i hz
      refine ⟨j, rfl, hz.1, hz.2, q _ H1 s1 ?_⟩
      have := Walk.range (K := X.K) (H0 := H) (H := H1) 0 j.toNat
      unfold rangeP
      rw [Int.sub_zero]
      exact this
    · exact q.elim
  · exact q.elim
theorem di_range2 (hm : X.mg "range" = none) (ha : DA W X [a, b] gs) (hg : Gl X "range" := by rfl) (hs : starEach [a, b] X.env = [(false, eval a X.env), (false, eval b X.env)] := by rfl) (hs2 : starEach [b] X.env = [(false, eval b X.env)] := by rfl) : DI W X tg (.Call (.Name "range" p) [a, b] [] pos) (gRangeI fRange2 gs) := by
  refine PI.imp (pi_range2 hg hm ha hs hs2) fun σ H Rk ⟨B, Rg, δ, S0, w⟩ => ?_
  refine ⟨B, Rg, δ, S0, Rn.wp_mono (Rn.wp_bind.mp w) (fun rs q vs H1 s1 ra => ?_) fun _ _ q => q⟩
  obtain ⟨fp, r, _⟩ := ra
  have lk := r.look
  generalize rs.map R.d = ds at lk q
  unfold fRange2 at q
  split at q
  · rename_i i j
    obtain ⟨v, u, fp1, gp, rfl, rr, rr'⟩ := lk.two
    obtain rfl : v = .int i := rr.1
    obtain rfl : u = .int j := rr'.1
    split at q
    · rename_i hz
      exact ⟨i, j, rfl, hz, q _ H1 s1 (Walk.range _ _)⟩
    · exact q.elim
  · exact q.elim
/-- for t in iter: body -/
def gFor (t : Tg) (gi : GI) (g : GS) : GS := fun δ => (lift (gi δ) δ).bind fun xs => gForL t g xs δ
theorem ds_for {t : Tg} (hp : PassesOwn (model X.prog X.w) X.A X.env X.xe) (hc : X.calm = true) (hi : DI W X tg iter gi) (hg : PG X tg (t.g X.K)) (hb : DSs W X body g1)
    (hs : ∀ x, foldedSetIterable iter X.env x = pure x := by intro _; rfl) : DS W X (.For tg iter body [] pos) (gFor t gi g1) := by
  refine PS.imp (ps_for hp hc hi hg hb hs) fun D σ H ⟨B, Rg, δ, S0, w⟩ => ?_
  refine ⟨B, Rg, δ, S0, Rn.wp_mono (Rn.wp_mapErr.mp (Rn.wp_bind.mp w)) (fun xs q J H1 s1 wk => ?_) fun cl _ q C H' e s => q C σ H' e (S0.grow s)⟩
  obtain ⟨G, hG, hf, hR⟩ := wk.ex
  obtain ⟨B', b1, b2, S1⟩ := S0.hold s1 hG (fun a ha => (hf a ha).imp id .inl)
  exact loop_core b2 hR S1 (Rn.wp_mono q (fun fl q => postF_hold b1 S0.sub q) fun cl δ q => postE_hold b1 S0.sub q)
end
end DL
/-! DLi: comprehensions; append, stores to places; unpacking; while; raise; defs and their calls. -/
namespace DL
open PySem PySem.Spec PyProof.Rows L2

/-! ### comprehensions -/
def Rn.noErr {α : Type} : Rn Unit α → Rn Unit α
  | .ok a => .ok a
  | .err _ _ => .bad
  | .bad => .bad
  | .pick n k => .pick n fun i => (k i).noErr
theorem Rn.wp_noErr {α : Type} {w : Rn Unit α} {Q : α → Prop} {E E' : Str → Unit → Prop} (h : w.noErr.wp Q E) : w.wp Q E' := by
  induction w with
  | ok a => exact h
  | err c e => exact h.elim
  | bad => exact h
  | pick n k ih => exact fun i hi => ih i (h i hi)
def wipeS (δ : Sl) : List Nat → Sl
  | [] => δ
  | v :: vs => (wipeS δ vs).set v .no
def Tg.idx : Tg → List Nat
  | .one i => [i]
  | .tup is => is
/-- the items of [elt for t in xs if test] -/
def lcL (t : Tg) (gt : GT) (ge : GE) (δ : Sl) : List P → List P → Rn Unit (List P)
  | [], acc => .ok acc
  | x :: xs, acc => match t.set (.p x) δ with
    | some δ1 => (gt δ1).noErr.bind fun k => if k = true then (ge δ1).noErr.bind fun r => match r.d with
        | .p y => if acc.length < sizeLine then lcL t gt ge δ xs (acc ++ [y]) else .bad
        | _ => .bad
      else lcL t gt ge δ xs acc
    | none => .bad
def gLc (t : Tg) (vs : List Nat) (gi : GI) (gt : GT) (ge : GE) : GE := fun δ => (gi δ).bind fun xs => (lcL t gt ge (wipeS δ vs) xs []).bind fun ys => .ok (.own (.lst ys))
def W0 : WX := fun _ _ _ _ => False
section
variable {K : PySem.W.Frag} {B H H' : Hp} {ex : Option Addr} {Rg : Rgs ex}
theorem SRel.drop1 {σ : L2.St} {δ : Sl} (S0 : SRel K B Rg σ H δ) (i : Nat) : SRel K B Rg σ H (δ.set i .no) := by
  obtain ⟨b, u, fp, q, n, f⟩ := S0
  obtain ⟨fp', q1, q2, q3⟩ := SlotsR.drop1 i q n
  exact ⟨b, u, fp', q1, q2, fun a ha => f a (q3 a ha)⟩
theorem SlotsR.wipe1 : ∀ {δ : Sl} {σ : L2.St} {fp : List Addr} (i : Nat) {v : Option V}, SlotsR K Rg H δ σ fp → fp.Nodup → ∃ fp', SlotsR K Rg H (δ.set i .no) (σ.set i v) fp' ∧ fp'.Nodup ∧ ∀ a ∈ fp', a ∈ fp
  | [], σ, _, i, v, h, n => ⟨_, by obtain ⟨rfl, rfl⟩ := h; exact ⟨rfl, rfl⟩, n, fun _ z => z⟩
  | s :: δ, _, _, 0, v, h, n => by
    obtain ⟨ov, r, f, g, rfl, rfl, h1, h2⟩ := h
    rw [List.nodup_append] at n
    exact ⟨g, ⟨v, r, [], g, rfl, rfl, rfl, h2⟩, n.2.1, fun a ha => by simp [ha]⟩
  | s :: δ, _, _, i + 1, v, h, n => by
    obtain ⟨ov, r, f, g, rfl, rfl, h1, h2⟩ := h
    rw [List.nodup_append] at n
    obtain ⟨fp', q1, q2, q3⟩ := SlotsR.wipe1 i (v := v) h2 n.2.1
    refine ⟨f ++ fp', ⟨ov, r.set i v, f, fp', rfl, rfl, h1, q1⟩, ?_, fun a ha => ?_⟩
    · rw [List.nodup_append]
      exact ⟨n.1, q2, fun a ha b hb e => n.2.2 a ha b (q3 b hb) e⟩
    · rcases List.mem_append.mp ha with z | z
      · simp [z]
      · simp [q3 a z]
theorem SRel.wipe {σ : L2.St} {δ : Sl} (S0 : SRel K B Rg σ H δ) : ∀ vs : List Nat, SRel K B Rg (L2.wipe σ vs) H (wipeS δ vs)
  | [] => S0
  | v :: vs => by
    obtain ⟨b, u, fp, q, n, f⟩ := SRel.wipe S0 vs
    obtain ⟨fp', q1, q2, q3⟩ := SlotsR.wipe1 v (v := none) q n
    exact ⟨b, u, fp', q1, q2, fun a ha => f a (q3 a ha)⟩
theorem wipe_set (σ : L2.St) (v : Option V) (i : Nat) : ∀ vs : List Nat, i ∈ vs → L2.wipe (σ.set i v) vs = L2.wipe σ vs
  | [], h => by cases h
  | w :: vs, h => by
    show (L2.wipe (σ.set i v) vs).set w none = (L2.wipe σ vs).set w none
    have com : ∀ (us : List Nat) (τ : L2.St), i ∉ us → L2.wipe (τ.set i v) us = (L2.wipe τ us).set i v := by
      intro us
      induction us with
      | nil => intro τ _; rfl
      | cons u us ih =>
        intro τ hu
        show (L2.wipe (τ.set i v) us).set u none = ((L2.wipe τ us).set u none).set i v
        rw [ih τ (fun z => hu (by simp [z])), List.set_comm _ _ (fun z => hu (by simp [z]))]
    by_cases hm : i ∈ vs
    · rw [wipe_set σ v i vs hm]
    · have e : i = w := by
        rcases List.mem_cons.mp h with z | z
        · exact z
        · exact absurd z hm
      subst e
      rw [com vs σ hm, List.set_set]
theorem wipe_wipe (σ : L2.St) : ∀ vs : List Nat, L2.wipe (L2.wipe σ vs) vs = L2.wipe σ vs := by
  intro vs
  have gen : ∀ (us vs : List Nat), (∀ u ∈ us, u ∈ vs) → L2.wipe (L2.wipe σ us) vs = L2.wipe σ vs := by
    intro us
    induction us with
    | nil => intro vs _; rfl
    | cons u us ih =>
      intro vs h
      show L2.wipe ((L2.wipe σ us).set u none) vs = _
      rw [wipe_set _ _ _ vs (h u (by simp)), ih vs fun w hw => h w (by simp [hw])]
  exact gen vs vs fun _ h => h
/-- the heap without D -/
def cutH (H : Hp) (D : Addr) : Hp := fun b => if b = D then none else H b
theorem cutH_same (H : Hp) (D : Addr) : Same (cutH H D) H := fun b o e => by
  unfold cutH at e
  split at e
  · cases e
  · exact e
theorem cutH_mono {H H' : Hp} (s : Same H H') (D : Addr) : Same (cutH H D) (cutH H' D) := fun b o e => by
  unfold cutH at e ⊢
  split at e
  · cases e
  · rename_i h; rw [if_neg h]; exact s b o e
theorem cutH_upd {H : Hp} {D : Addr} {o : HO} : cutH (upd H D o) D = cutH H D := by
  funext b
  unfold cutH
  split
  · rfl
  · rename_i h; rw [upd_ne h]
/-- the slots behind a target's store are forgotten -/
theorem gNms_wipe (vs : List Nat) : ∀ (is : List Nat) (ws : List V) (σ : L2.St) (H : Hp) (Q : L2.St → Hp → Prop), (∀ i ∈ is, i ∈ vs) → gNms is ws σ H Q → gNms is ws σ H fun σ' H' => L2.wipe σ' vs = L2.wipe σ vs ∧ Q σ' H'
  | [], ws, σ, H, Q, _, h => ⟨h.1, rfl, h.2⟩
  | i :: is, ws, σ, H, Q, hi, h => by
    obtain ⟨v, r, e, h⟩ := h
    refine ⟨v, r, e, ?_⟩
    have := gNms_wipe vs is r (σ.set i (some v)) H Q (fun j hj => hi j (by simp [hj])) h
    rw [wipe_set σ (some v) i vs (hi i (by simp))] at this
    exact this
theorem Tg.g_wipe {t : Tg} {vs : List Nat} {v : V} {σ : L2.St} {Q : L2.St → Hp → Prop} (ht : ∀ i ∈ t.idx, i ∈ vs) (h : t.g K v σ H Q) : t.g K v σ H fun σ' H' => L2.wipe σ' vs = L2.wipe σ vs ∧ Q σ' H' := by
  cases t with
  | one i => exact ⟨wipe_set σ (some v) i vs (ht i (by simp [Tg.idx])), h⟩
  | tup is =>
    obtain ⟨a, xs, e1, e2, e3, h⟩ := h
    exact ⟨a, xs, e1, e2, e3, gNms_wipe vs is xs σ H Q ht h⟩
end
section
variable {W : WX} {X : Cx} {e elt tg iter : Expr} {ifs : List Expr} {gi : GI} {gt : GT} {ge : GE} {scope : Scope} {own : List (Str × Nat)} {pos : Pos}
/-- the context of a block -/
abbrev dc0 (X : Cx) : DC := ⟨X.K, X.mg, W0, none⟩
theorem lc_of {t : Tg} {vs : List Nat} (hcal : X.calm = true) (ht : ∀ i ∈ t.idx, i ∈ vs) (σ : L2.St) (H : Hp) (Q : VK) (h : tD (dc X W) (gLc t vs gi gt ge) σ H Q) :
    tLc (tDI (dc X W) gi) (t.g X.K) (tDT (dc0 X) gt) (tD (dc0 X) ge) vs σ H Q := by
  rw [dc_calm hcal] at h ⊢
  obtain ⟨B, Rg, δ, S0, w⟩ := h
  refine ⟨B, Rg, δ, S0, Rn.wp_mono (Rn.wp_bind.mp w) (fun xs q J H1 s1 wk => ?_) fun _ _ q => q⟩
  intro Dp hD
  obtain ⟨G, hG, hf, hR⟩ := wk.ex
  obtain ⟨B', b1, b2, S1⟩ := S0.hold s1 hG (fun a ha => (hf a ha).imp id .inl)
  have S2 := S1.wipe vs
  have c1 : cutH H1 Dp = H1 := by
    funext b
    unfold cutH
    split
    · rename_i z; subst z; exact hD.symm
    · rfl
  refine ⟨fun i m H' => m = xs.length - i ∧ i ≤ xs.length ∧ ∃ acc vacc, H' Dp = some (.lst vacc) ∧ RepPs X.K H' acc vacc ∧ Same H1 (cutH H' Dp) ∧ SRel X.K B' Rg (L2.wipe σ vs) (cutH H' Dp) (wipeS δ vs) ∧
    ((lcL t gt ge (wipeS δ vs) (xs.drop i) acc).bind fun ys => .ok (.own (.lst ys))).wp (fun r => ∀ v H', Same H H' → RepR X.K H H' r v → Q v H') (fun cl _ => ∀ C H', X.mg cl = some (.ref C) → Same H H' → W (.ref C) none σ H'),
    ⟨xs.length, by simp, Nat.zero_le _, [], [], upd_same, rfl, by rw [cutH_upd, c1]; exact Same.refl _, by rw [cutH_upd, c1]; exact S2, by simpa using q⟩, ?_⟩
  rintro i m H2 ⟨rfl, hi, acc, vacc, eD, ra, sm, S3, w3⟩
  have S4 := S3.grow (cutH_same H2 Dp)
  have s02 : Same H H2 := s1.trans (sm.trans (cutH_same H2 Dp))
  obtain ⟨r1, r2⟩ := hR H2 (b2.trans S4.same) i
  by_cases hlt : i < xs.length
  · have ep := List.getElem?_eq_getElem hlt
    obtain ⟨go, yl⟩ := r1 _ ep
    rw [List.drop_eq_getElem_cons hlt] at w3
    refine .inr ⟨go, fun H' => ∃ acc vacc, H' Dp = some (.lst vacc) ∧ RepPs X.K H' acc vacc ∧ Same H1 (cutH H' Dp) ∧ SRel X.K B' Rg (L2.wipe σ vs) (cutH H' Dp) (wipeS δ vs) ∧
      ((lcL t gt ge (wipeS δ vs) (xs.drop (i + 1)) acc).bind fun ys => .ok (.own (.lst ys))).wp (fun r => ∀ v H', Same H H' → RepR X.K H H' r v → Q v H') (fun cl _ => ∀ C H', X.mg cl = some (.ref C) → Same H H' → W (.ref C) none σ H'),
      fun H' q => ⟨xs.length - (i + 1), by omega, rfl, hlt, q⟩, fun x H3 y => ?_⟩
    obtain ⟨s3, rp⟩ := yl x H3 y
    unfold lcL at w3
    split at w3
    · rename_i δ1 e1
      have gw := Tg.ok (K := X.K) (t := t) (d := .p xs[i]) (v := x) (gp := []) (Q := fun σ' H' => H' = H3 ∧ SRel X.K B' Rg σ' H3 δ1) S4 s3 ⟨rp, rfl⟩ List.nodup_nil (fun _ z => nomatch z) e1 fun σ' S5 => ⟨rfl, S5⟩
      have gw2 := Tg.g_wipe (vs := vs) ht gw
      refine Tg.g_mono (fun σ2 H2' ⟨ew, eh, S5⟩ => ?_) gw2
      subst eh
      refine ⟨by rw [ew, wipe_wipe], ?_⟩
      refine ⟨B', Rg, δ1, S5, Rn.wp_noErr (Rn.wp_mono (Rn.wp_bind.mp (Rn.wp_bind.mp w3)) (fun k q H4 s4 => ?_) fun _ _ q => q)⟩
      have S6 := S5.grow s4
      have s24 := s3.trans s4
      have eD4 : H4 Dp = some (.lst vacc) := s24 _ _ eD
      have smm : Same H1 (cutH H4 Dp) := sm.trans (cutH_mono s24 Dp)
      dsimp only
      cases k with
      | false =>
        rw [if_neg (by decide)] at q ⊢
        exact ⟨acc, vacc, eD4, RepPs.kt (Same.kt s24) _ _ ra, smm, S3.grow (cutH_mono s24 Dp), Rn.wp_bind.mpr q⟩
      | true =>
        rw [if_pos rfl] at q ⊢
        refine ⟨B', Rg, δ1, S6, Rn.wp_noErr (Rn.wp_mono (Rn.wp_bind.mp q) (fun r q v H5 s5 rv => ?_) fun _ _ q => q)⟩
        have s25 := s24.trans s5
        split at q
        · rename_i y ey
          split at q
          · rename_i hz
            have ry := rv.getP ey
            have ra5 := RepPs.kt (Same.kt s25) _ _ ra
            have kt5 : KT H5 (upd H5 Dp (.lst (vacc ++ [v]))) := KT.upd (s25 _ _ eD) trivial
            refine ⟨vacc, s25 _ _ eD, by rw [ra.len]; exact hz, acc ++ [y], vacc ++ [v], upd_same, RepPs.kt kt5 _ _ (RepPs.append (show RepPs X.K H5 [y] [v] from ⟨v, [], rfl, ry, rfl⟩) ra5), ?_, ?_, Rn.wp_bind.mpr q⟩
            · rw [cutH_upd]; exact sm.trans (cutH_mono s25 Dp)
            · rw [cutH_upd]; exact S3.grow (cutH_mono s25 Dp)
          · exact q.elim
        · exact q.elim
    · exact w3.elim
  · have hn : xs.length ≤ i := by omega
    rw [List.drop_eq_nil_of_le hn] at w3
    refine .inl ⟨r2 hn, w3 (.ref Dp) H2 s02 ⟨[Dp], ⟨Dp, vacc, rfl, eD, rfl, ra⟩, by simp, fun b hb => ?_⟩⟩
    obtain rfl : b = Dp := by simpa using hb
    exact s1.free hD
def DTs (W : WX) (X : Cx) (ifs : List Expr) (g : GT) : Prop := PTs X ifs (tDT (dc X W) g)
def gYes : GT := fun _ => .ok true
theorem dts_nil : DTs W X [] gYes := ⟨fun pins s σ H Q I ⟨B, Rg, δ, S0, w⟩ => pts_nil.run pins s σ H Q I (w H (Same.refl H))⟩
theorem dts_one (h : DT W X e gt) : DTs W X [e] gt := pts_one h
theorem de_lc {t : Tg} (hc : X.calm = true) (hN : X.N.Nodup) (hi : DI W X tg iter gi) (ok : BlkOk X.N X.env.scope scope own)
    (hg : ∀ (s : Shared) (H : Hp) (C : Addr) (cl : List (Str × Addr)) (fp : List Addr), PG (X.blk s H scope (compEnvC scope cl C X.env) fp) tg (t.g X.K))
    (ht : ∀ (s : Shared) (H : Hp) (C : Addr) (cl : List (Str × Addr)) (fp : List Addr), DTs W0 (X.blk s H scope (compEnvC scope cl C X.env) fp) ifs gt)
    (he : ∀ (s : Shared) (H : Hp) (C : Addr) (cl : List (Str × Addr)) (fp : List Addr), DE W0 (X.blk s H scope (compEnvC scope cl C X.env) fp) elt ge)
    (hx : ∀ i ∈ t.idx, i ∈ own.map (·.2) := by decide) (hs : ∀ x, foldedSetIterable iter X.env x = pure x := by intro _; rfl) :
    DE W X (.ListComp elt [⟨tg, iter, ifs, 0⟩] scope pos) (gLc t (own.map (·.2)) gi gt ge) :=
  PE.imp (pe_lc (tt := tDT (dc0 X) gt) (te := tD (dc0 X) ge) hc hN hi ok hg ht he hs) (lc_of hc hx)
theorem ds_setLc {i : Nat} {y : Str} {py spos : Pos} {t : Tg} (hc : X.calm = true) (hN : X.N.Nodup) (hy : X.N[i]? = some y) (hyl : X.env.scope.names.lookup y = some .local)
    (hsw : swapsWith (.ListComp elt [⟨tg, iter, ifs, 0⟩] scope pos) (some (.Name y py)) spos.line X.env = pure true) (hi : DI W X tg iter gi) (ok : BlkOk X.N X.env.scope scope own)
    (hg : ∀ (s : Shared) (H : Hp) (C : Addr) (cl : List (Str × Addr)) (fp : List Addr), PG (X.blk s H scope (compEnvC scope cl C X.env) fp) tg (t.g X.K))
    (ht : ∀ (s : Shared) (H : Hp) (C : Addr) (cl : List (Str × Addr)) (fp : List Addr), DTs W0 (X.blk s H scope (compEnvC scope cl C X.env) fp) ifs gt)
    (he : ∀ (s : Shared) (H : Hp) (C : Addr) (cl : List (Str × Addr)) (fp : List Addr), DE W0 (X.blk s H scope (compEnvC scope cl C X.env) fp) elt ge)
    (hx : ∀ i ∈ t.idx, i ∈ own.map (·.2) := by decide) (hs : ∀ x, foldedSetIterable iter X.env x = pure x := by intro _; rfl) :
    DS W X (.Assign [.Name y py] (.ListComp elt [⟨tg, iter, ifs, 0⟩] scope pos) spos) (gSet i (gLc t (own.map (·.2)) gi gt ge)) := by
  refine PS.imp (ps_setLc (tt := tDT (dc0 X) gt) (te := tD (dc0 X) ge) hc hN hy hyl hsw hi ok hg ht he hs) fun D σ H ⟨B, Rg, δ, S0, w⟩ => ?_
  refine lc_of hc hx σ H _ ?_
  refine tDS_val S0 w fun r v H1 s1 rv S1 q => ?_
  cases r with
  | own d =>
    obtain ⟨fp, q1, n, f⟩ := rv
    exact q _ _ (S0.set s1 q1 n f)
  | vw d => exact q.elim
end
end DL
/-! DLj: append, stores to places, unpacking, while, raise, defs and their calls. -/
namespace DL
open PySem PySem.Spec PyProof.Rows L2

/-! ### defs and calls -/
/-- a def as a function of data -/
abbrev Fn := List D → Rn Unit D
def startS (n : Nat) (ds : List D) : Sl := ds.map (S.bor none) ++ List.replicate (n - ds.length) S.no
def fnD (n : Nat) (g : GS) : Fn := fun ds => ((g (startS n ds)).mapErr fun _ => ()).bind fun
  | .ret d => .ok d
  | .nx _ => .ok (.p .non)
  | _ => .bad
/-- what a def promises -/
def spD (K : PySem.W.Frag) (mg : Str → Option Value) (n : Nat) (f : Fn) : Sp := fun vs H Q E => ∃ ds : List D, ds.length = n ∧ LookL K H ds vs ∧
  (f ds).wp (fun d => postR K H d Q) fun cl _ => ∀ C H', mg cl = some (.ref C) → Same H H' → E (.ref C) none H'
theorem LookL.len {K : PySem.W.Frag} {H : Hp} : ∀ {ds : List D} {vs : List V}, LookL K H ds vs → vs.length = ds.length
  | [], vs, h => by
    obtain rfl : vs = [] := h
    rfl
  | d :: ds, vs, h => by
    obtain ⟨v, r, rfl, _, h2⟩ := h
    simp [LookL.len h2]
theorem start_slots {K : PySem.W.Frag} {H : Hp} : ∀ {ds : List D} {vs : List V} (m : Nat), LookL K H ds vs → SlotsR K (ex := none) (fun t => if t = none then H else fun _ => none) H (ds.map (S.bor none) ++ List.replicate m S.no) (vs.map some ++ List.replicate m none) []
  | [], vs, m, h => by
    obtain rfl : vs = [] := h
    show SlotsR K _ H (List.replicate m S.no) (List.replicate m none) []
    induction m with
    | zero => exact ⟨rfl, rfl⟩
    | succ m ih => exact ⟨none, List.replicate m none, [], [], rfl, rfl, rfl, ih⟩
  | d :: ds, vs, m, h => by
    obtain ⟨v, r, rfl, ⟨g, q⟩, h2⟩ := h
    refine ⟨some v, r.map some ++ List.replicate m none, [], [], rfl, rfl, ⟨rfl, v, g, rfl, q, fun a ha => ?_⟩, start_slots m h2⟩
    show (if (none : Option Nat) = none then H else fun _ => none) a ≠ none
    rw [if_pos rfl]
    exact q.mem a ha
section
variable {P : Program} {w : World} {K : PySem.W.Frag} {mg : Str → Option Value} {base : Heap}
/-- a def keeps its promise -/
theorem fn_ok {x qual : Str} {st : Stmt} {f : Addr} {fd : FuncData} {N ps : List Str} {k : Nat} {g : GS} (F : Fun K x qual st f fd) (S : FnScope N ps (defScope st))
    (hb : ∀ (cdv : Value) (A : Around) (outer : List Env) (s : Shared) (H : Hp) (E : XK), Room k (A.deeper (envOfC qual (defScope st) s.heap.objs.size f cdv)) →
      DSs (fun cls d _ H => E cls d H) (cxOf (L2.CX P w) P w K mg base N qual (defScope st) f cdv A outer s H E) (defBody st) g) :
    FnOk P w K mg base (L2.CX P w) (k + 1) f fd ps (spD K mg ps.length (fnD N.length g)) := by
  refine F.okX S (fun vs H Q E ⟨ds, hl, lk, _⟩ => by rw [lk.len, hl]) fun cdv A outer s H vs Q E hr ⟨ds, hl, lk, w0⟩ => ⟨_, hb cdv A outer s H E hr, ?_⟩
  refine ⟨H, fun t => if t = none then H else fun _ => none, startS N.length ds, ⟨Same.refl H, fun t => ?_, [], ?_, List.nodup_nil, fun _ z => nomatch z⟩, ?_⟩
  · by_cases e : t = none
    · rw [if_pos e]; exact Same.refl H
    · rw [if_neg e]; exact fun _ _ z => nomatch z
  · have := start_slots (N.length - ds.length) lk
    unfold L2.start startS
    rw [lk.len]
    exact this
  · refine Rn.wp_mono (Rn.wp_mapErr.mp (Rn.wp_bind.mp w0)) (fun fl q => ?_) fun cl δ q C σ H' e S => q C H' e S.same
    cases fl with
    | ret d => exact q
    | nx δ => exact fun σ H' S => q .non H' S.same ⟨[], ⟨rfl, rfl⟩, List.nodup_nil, fun _ z => nomatch z⟩
    | bk δ => exact q.elim
    | ct δ => exact q.elim
end
/-- a def as its callers see it -/
structure FD (P : Program) (w : World) (K : PySem.W.Frag) (mg : Str → Option Value) (base : Heap) (k : Nat) (x : Str) (n : Nat) (f : Fn) : Prop where
  ex : ∃ (a : Addr) (fd : FuncData) (ps : List Str), mg x = some (.ref a) ∧ PySem.W.keepIn K (.ref a) = true ∧ Binds K fd ps [] ∧ FnOk P w K mg base (L2.CX P w) k a fd ps (spD K mg n f)
def gFn (n : Nat) (f : Fn) (gs : GA) : GE := fun δ => (gs δ).bind fun rs => if rs.length = n then (f (rs.map R.d)).bind fun d => .ok (.own d) else .bad
section
variable {W : WX} {X : Cx} {a b e tg iter : Expr} {es : List Expr} {ga gb gc : GE} {gs : GA} {gt : GT} {gi : GI} {g1 g2 : GS} {st : Stmt} {sts body : List Stmt} {pos p : Pos}
theorem de_call {x : Str} {k n : Nat} {f : Fn} (F : FD X.prog X.w X.K X.mg X.base k x n f) (hr : Room k X.A) (tk : Takes X W) (ha : DA W X (e :: es) gs)
    (hg : Gl X x := by rfl) (hdb : (x == ("__debug__" : Str)) = false := by decide) (he : starEach (e :: es) X.env = (false, eval e X.env) :: starEach es X.env := by rfl) (hpl : (backTo pos (starEach es X.env)).any (·.1) = false := by rfl) :
    DE W X (.Call (.Name x p) (e :: es) [] pos) (gFn n f gs) := by
  obtain ⟨a, fd, ps, hm, hk, hb, G⟩ := F.ex
  refine PE.imp (pe_callS G hr hg hm hk hb (fun σ => passAt tk σ) ha hdb he hpl) fun σ H Q ⟨B, Rg, δ, S0, w⟩ => ?_
  refine ⟨B, Rg, δ, S0, Rn.wp_mono (Rn.wp_bind.mp w) (fun rs q vs H1 s1 ra => ?_) fun _ _ q => q⟩
  obtain ⟨fp, r, _⟩ := ra
  split at q
  · rename_i hl
    exact ⟨rs.map R.d, by simpa using hl, r.look, Rn.wp_mono (Rn.wp_bind.mp q) (fun d q v H2 s2 ⟨fp, q1, n1, f1⟩ => q v H2 (s1.trans s2) ⟨fp, q1, n1, fun a ha => s1.free (f1 a ha)⟩) fun cl _ q C H' e s => q C H' e (s1.trans s)⟩
  · exact q.elim

/-! ### append, stores to places -/
def fApp : D → R → Option D
  | .lst xs, .own (.p x) => if xs.length < sizeLine then some (.lst (xs ++ [x])) else none
  | .lst xs, .vw (.p x) => if xs.length < sizeLine then some (.lst (xs ++ [x])) else none
  | .lst [], .own d => some (.ls [d])
  | .ls xs, .own d => if xs.length < sizeLine then some (.ls (xs ++ [d])) else none
  | _, _ => none
def D.isL : D → Bool
  | .lst _ => true
  | .ls _ => true
  | _ => false
def gApp (i : Nat) (ga : GE) : GS := fun δ => match δ[i]? with
  | some (.own d) => if d.isL = true then (lift (ga δ) δ).bind fun r => match fApp d r with
    | some d' => .ok (.nx (δ.set i (.own d')))
    | none => .bad else .bad
  | _ => .bad
theorem RepDs.append {K : PySem.W.Frag} {H : Hp} {ys : List D} {us : List V} {gp : List Addr} (hy : RepDs K H ys us gp) : ∀ {xs : List D} {vs : List V} {fp : List Addr}, RepDs K H xs vs fp → RepDs K H (xs ++ ys) (vs ++ us) (fp ++ gp)
  | [], _, _, h => by
    obtain ⟨rfl, rfl⟩ := h
    exact hy
  | x :: xs, _, _, h => by
    obtain ⟨v, r, f, g, rfl, rfl, h1, h2⟩ := h
    exact ⟨v, r ++ us, f, g ++ gp, rfl, by simp, h1, RepDs.append hy h2⟩
theorem fApp_ok {K : PySem.W.Frag} {H0 H : Hp} {d d' : D} {v u : V} {f : List Addr} {r : R} (rd : RepD K H d v f) (nf : f.Nodup) (hf : ∀ a ∈ f, H0 a ≠ none) (ru : RepR K H0 H r u) (e : fApp d r = some d') :
    ∃ a vs, v = .ref a ∧ a ∈ f ∧ H a = some (.lst vs) ∧ vs.length < sizeLine ∧ ∃ f', RepD K (upd H a (.lst (vs ++ [u]))) d' v f' ∧ f'.Nodup ∧ ∀ b ∈ f', b ∈ f ∨ H0 b = none := by
  unfold fApp at e
  have one : ∀ {xs : List P} {x : P}, RepD K H (.lst xs) v f → RepP K H x u → (if xs.length < sizeLine then some (D.lst (xs ++ [x])) else none) = some d' →
      ∃ a vs, v = .ref a ∧ a ∈ f ∧ H a = some (.lst vs) ∧ vs.length < sizeLine ∧ ∃ f', RepD K (upd H a (.lst (vs ++ [u]))) d' v f' ∧ f'.Nodup ∧ ∀ b ∈ f', b ∈ f ∨ H0 b = none := by
    intro xs x rd rx e
    split at e
    · rename_i hz
      obtain rfl := Option.some.inj e
      obtain ⟨a, vs, rfl, q, rfl, r⟩ := rd
      have kt : KT H (upd H a (.lst (vs ++ [u]))) := KT.upd q trivial
      exact ⟨a, vs, rfl, by simp, q, by rw [r.len]; exact hz, [a], ⟨a, vs ++ [u], rfl, upd_same, rfl, RepPs.kt kt _ _ (RepPs.append (show RepPs K H [x] [u] from ⟨u, [], rfl, rx, rfl⟩) r)⟩, by simp, fun b hb => .inl hb⟩
    · cases e
  split at e
  · rename_i xs x
    exact one rd (ru.getP rfl) e
  · rename_i xs x
    exact one rd (ru.getP rfl) e
  · rename_i d1 _
    obtain rfl := Option.some.inj e
    obtain ⟨a, vs, rfl, q, rfl, r⟩ := rd
    obtain rfl : vs = [] := r
    obtain ⟨g, rg, ng, fg⟩ := ru
    have kt : KT H (upd H a (.lst ([] ++ [u]))) := KT.upd q trivial
    have ha : a ∉ g := fun z => hf a (by simp) (fg a z)
    refine ⟨a, [], rfl, by simp, q, by rw [sizeLine_eq]; decide, a :: (g ++ []), ⟨a, [u], g ++ [], rfl, upd_same, rfl, u, [], g, [], rfl, rfl, RepD.kt kt _ _ _ (fun b hb o e => ?_) rg, rfl, rfl⟩, by simpa using ⟨ha, ng⟩, fun b hb => ?_⟩
    · rw [upd_ne (fun z => ha (by rw [← z]; exact hb))]; exact e
    · simp at hb
      rcases hb with rfl | hb
      · exact .inl (by simp)
      · exact .inr (fg b hb)
  · rename_i xs d1
    split at e
    · rename_i hz
      obtain rfl := Option.some.inj e
      obtain ⟨a, vs, f1, rfl, q, rfl, r⟩ := rd
      obtain ⟨g, rg, ng, fg⟩ := ru
      have kt : KT H (upd H a (.lst (vs ++ [u]))) := KT.upd q trivial
      have ha : a ∉ g := fun z => hf a (by simp) (fg a z)
      rw [List.nodup_cons] at nf
      have st : ∀ b, b ≠ a → ∀ o, H b = some o → upd H a (.lst (vs ++ [u])) b = some o := fun b hb o e => by rw [upd_ne hb]; exact e
      refine ⟨a, vs, rfl, by simp, q, by rw [r.len]; exact hz, a :: (f1 ++ (g ++ [])), ⟨a, vs ++ [u], f1 ++ (g ++ []), rfl, upd_same, rfl, RepDs.append (show RepDs K (upd H a (.lst (vs ++ [u]))) [d1] [u] (g ++ []) from ⟨u, [], g, [], rfl, rfl, RepD.kt kt _ _ _ (fun b hb => st b fun z => ha (by rw [← z]; exact hb)) rg, rfl, rfl⟩) (RepDs.kt kt _ _ _ (fun b hb => st b fun z => nf.1 (by rw [← z]; exact hb)) r)⟩, ?_, fun b hb => ?_⟩
      · rw [List.nodup_cons, List.append_nil, List.nodup_append]
        refine ⟨fun z => ?_, nf.2, ng, fun b hb b' hb' e => ?_⟩
        · rcases List.mem_append.mp z with z | z
          · exact nf.1 z
          · exact ha z
        · subst e
          exact hf b (by simp [hb]) (fg b hb')
      · rw [List.append_nil] at hb
        rcases List.mem_cons.mp hb with rfl | hb
        · exact .inl (by simp)
        · rcases List.mem_append.mp hb with z | z
          · exact .inl (by simp [z])
          · exact .inr (fg b z)
    · cases e
  · cases e
theorem ds_app {i : Nat} {x : Str} {apos cpos : Pos} (hN : X.N[i]? = some x) (hv : Vis X.env.scope x) (ha : DE W X e ga) (hd : (x == ("__debug__" : Str)) = false := by decide) (hcd : (x == ("__classdict__" : Str)) = false := by decide)
    (he : starEach (e :: []) X.env = (false, eval e X.env) :: starEach [] X.env := by rfl)
    (hbase : attributeBase (.Name x p) "append" X.env (eval (.Name x p) X.env) = eval (.Name x p) X.env := by rfl)
    (hfew : ((backTo cpos (starEach (e :: []) X.env)).all (fun x => !x.1) && (backToKw cpos (keywordEach [] X.env)).all (fun x => x.1.isSome)
      && decide ((e :: ([] : List Expr)).length + ([] : List Keyword).length + (if ([] : List Keyword).isEmpty then 0 else 1) < 30)) = true := by rfl)
    (hs : swapsWith (.Call (.Attribute (.Name x p) "append" apos) [e] [] cpos) none pos.line X.env = pure false := by rfl) (hline : (apos.endLine == cpos.line) = true := by rfl)
    (hpl : (backTo cpos (starEach ([] : List Expr) X.env)).any (·.1) = false := by rfl) :
    DS W X (.Expr (.Call (.Attribute (.Name x p) "append" apos) [e] [] cpos) pos) (gApp i ga) := by
  refine PS.imp (ps_expr (pe_bm PySem.F.plainAttrs_list PySem.F.slot_list_append PySem.F.type_list_append mt_append (pe_var hN hv hd hcd) (pa_cons ha pa_nil he) hbase hfew hline he hpl) hs) fun D σ H ⟨B, Rg, δ, S0, w⟩ => ?_
  unfold gApp at w
  split at w
  · rename_i d ed
    split at w
    · rename_i hl
      obtain ⟨v, f, e1, rd, nf, fB, k⟩ := S0.change ed
      refine ⟨v, e1, ?_⟩
      have tv : tyV X.K "list" v H := by
        cases d with
        | lst xs => obtain ⟨a, vs, rfl, q, _⟩ := rd; exact .inl ⟨rfl, vs, SqL.of q⟩
        | ls xs => obtain ⟨a, vs, _, rfl, q, _⟩ := rd; exact .inl ⟨rfl, vs, SqL.of q⟩
        | _ => cases hl
      refine ⟨tv, B, Rg, δ, S0, Rn.wp_mono (Rn.wp_mapErr.mp (Rn.wp_bind.mp w)) (fun r q u H1 s1 ru => ?_) fun cl _ q C H' e s => q C σ H' e (S0.grow s)⟩
      split at q
      · rename_i d' ea
        have rd1 := RepD.kt (Same.kt s1) d v f (fun a _ o e => s1 a o e) rd
        obtain ⟨a, vs, rfl, haf, qa, hz, f', rd', nf', hf'⟩ := fApp_ok rd1 nf rd.mem ru ea
        refine ⟨a, vs, u, rfl, rfl, qa, hz, ?_⟩
        exact q σ _ (k _ _ f' ((Same.kt s1).trans (KT.upd qa trivial)) (fun b o hb e => by rw [upd_ne (fun z => hb (by rw [z]; exact haf))]; exact s1 b o e) rd' nf' hf')
      · exact q.elim
    · exact w.elim
  · exact w.elim

/-- x[i] = e, a list or a dict in a slot -/
def putP {κ : Type} [DecidableEq κ] (kvs : List (κ × P)) (k : κ) (v : P) : List (κ × P) :=
  if (kvs.any fun kv => decide (kv.1 = k)) = true then kvs.map (fun kv => if kv.1 = k then (kv.1, v) else kv) else kvs ++ [(k, v)]
def fPut : D → P → P → Option D
  | .lst xs, .int k, v => match ixN xs.length k with
    | some j => some (.lst (xs.set j v))
    | none => none
  | .dic kvs, x, v => match keyP x with
    | some k => if kvs.length < sizeLine then some (.dic (putP kvs k v)) else none
    | none => none
  | _, _, _ => none
def gPut (i : Nat) (gk ge : GE) : GS := fun δ => match δ[i]? with
  | some (.own d) => (lift (ge δ) δ).bind fun r => (lift (gk δ) δ).bind fun k => match k.d, r.d with
    | .p x, .p v => match fPut d x v with
      | some d' => .ok (.nx (δ.set i (.own d')))
      | none => .bad
    | _, _ => .bad
  | _ => .bad
theorem map_put {K : PySem.W.Frag} {H : Hp} {κ : Type} [DecidableEq κ] {k : κ} {x : P} {v : V} (hx : RepP K H x v) : ∀ {xs : List (κ × P)} {ws : List (κ × V)}, RepKs K H xs ws →
    RepKs K H (xs.map fun kv => if kv.1 = k then (kv.1, x) else kv) (ws.map fun kv => if kv.1 = k then (kv.1, v) else kv)
  | [], ws, h => by obtain rfl : ws = [] := h; exact rfl
  | (c, y) :: xs, ws, h => by
    obtain ⟨u, r, rfl, h1, h2⟩ := h
    rw [List.map_cons, List.map_cons]
    by_cases e : c = k
    · simp only [e, if_true]
      exact ⟨v, _, rfl, hx, map_put hx h2⟩
    · simp only [e, if_false]
      exact ⟨u, _, rfl, h1, map_put hx h2⟩
theorem add_put {K : PySem.W.Frag} {H : Hp} {κ : Type} {k : κ} {x : P} {v : V} (hx : RepP K H x v) : ∀ {xs : List (κ × P)} {ws : List (κ × V)}, RepKs K H xs ws → RepKs K H (xs ++ [(k, x)]) (ws ++ [(k, v)])
  | [], ws, h => by obtain rfl : ws = [] := h; exact ⟨v, [], rfl, hx, rfl⟩
  | (c, y) :: xs, ws, h => by
    obtain ⟨u, r, rfl, h1, h2⟩ := h
    exact ⟨u, _, rfl, h1, add_put hx h2⟩
theorem RepPs.set {K : PySem.W.Frag} {H : Hp} {x : P} {v : V} (hx : RepP K H x v) : ∀ {xs : List P} {vs : List V} (j : Nat), RepPs K H xs vs → RepPs K H (xs.set j x) (vs.set j v)
  | [], vs, j, h => by
    obtain rfl : vs = [] := h
    exact rfl
  | y :: xs, vs, 0, h => by
    obtain ⟨u, r, rfl, _, h2⟩ := h
    exact ⟨v, r, rfl, hx, h2⟩
  | y :: xs, vs, j + 1, h => by
    obtain ⟨u, r, rfl, h1, h2⟩ := h
    exact ⟨u, r.set j v, rfl, h1, RepPs.set hx j h2⟩
theorem RepKs.any {K : PySem.W.Frag} {H : Hp} {κ : Type} [DecidableEq κ] {k : κ} : ∀ {xs : List (κ × P)} {ws : List (κ × V)}, RepKs K H xs ws → (xs.any fun kv => decide (kv.1 = k)) = ws.any fun kv => decide (kv.1 = k)
  | [], ws, h => by
    obtain rfl : ws = [] := h
    rfl
  | (c, x) :: xs, ws, h => by
    obtain ⟨v, r, rfl, _, h2⟩ := h
    simp only [List.any_cons, RepKs.any h2]
theorem RepKs.put {K : PySem.W.Frag} {H : Hp} {κ : Type} [DecidableEq κ] {k : κ} {x : P} {v : V} (hx : RepP K H x v) {xs : List (κ × P)} {ws : List (κ × V)} (h : RepKs K H xs ws) : RepKs K H (putP xs k x) (putK ws k v) := by
  unfold putP putK
  rw [h.any]
  split
  · exact map_put hx h
  · exact add_put hx h
theorem PSet.or {t t' : TSet} (h : PSet X t) (h' : PSet X t') : PSet X (fun o i v H Q => t o i v H Q ∨ t' o i v H Q) := by
  intro pins s σ H o i v ov iv u Q I ro ri rv q
  rcases q with q | q
  · exact h pins s σ H o i v ov iv u Q I ro ri rv q
  · exact h' pins s σ H o i v ov iv u Q I ro ri rv q
theorem ds_put {i : Nat} {x : Str} {ix : Expr} {gk : GE} {tpos : Pos} (hu : X.A.units + 1 < cLine) (hN : X.N[i]? = some x) (hv : Vis X.env.scope x) (hk : DE W X ix gk) (he : DE W X e ga)
    (hd : (x == ("__debug__" : Str)) = false := by decide) (hcd : (x == ("__classdict__" : Str)) = false := by decide)
    (ha : ∀ v, assign (.Subscript (.Name x p) ix tpos) X.env v = (do
      let ov ← holding [v] (eval (.Name x p) X.env)
      let iv ← holding [v, ov] (eval ix X.env)
      standAt tpos
      holding [v, ov, iv] (setItem ov iv v)
      release [v, ov, iv] []) := by intro _; rfl)
    (hs : swapsWithSole [.Subscript (.Name x p) ix tpos] e pos.line X.env = pure false := by rfl) (hw : swappedStores [.Subscript (.Name x p) ix tpos] e X.env = pure none := by rfl)
    (h1 : (assignEach [.Subscript (.Name x p) ix tpos] X.env).map (·.2) = [assign (.Subscript (.Name x p) ix tpos) X.env] := by rfl) :
    DS W X (.Assign [.Subscript (.Name x p) ix tpos] e pos) (gPut i gk ga) := by
  refine PS.imp (ps_asg he (pg_sub (pe_var hN hv hd hcd) hk (PSet.or set_list (set_dict hu)) ha) hs hw h1) fun D σ H ⟨B, Rg, δ, S0, w⟩ => ?_
  unfold gPut at w
  split at w
  · rename_i d ed
    refine tDS_val S0 w fun r v H1 s1 rv S1 q => ?_
    obtain ⟨ov, f, e1, rd, nf, fB, k⟩ := S1.change ed
    refine ⟨ov, e1, ?_⟩
    refine tDS_val S1 q fun r2 v2 H2 s2 rv2 S2 q => ?_
    split at q
    · rename_i x v0 ek ev
      split at q
      · rename_i d' ef
        have rd2 := RepD.kt (Same.kt s2) d ov f (fun a _ o e => s2 a o e) rd
        have rx := rv2.getP ek
        have rw' := RepP.kt (Same.kt s2) _ _ (rv.getP ev)
        cases d with
        | lst xs =>
          cases x with
          | int kk =>
            obtain rfl : v2 = .int kk := rx
            simp only [fPut] at ef
            split at ef
            · rename_i j ej
              obtain rfl := Option.some.inj ef
              obtain ⟨a, vs, rfl, qa, rfl, ra⟩ := rd2
              have kt : KT H2 (upd H2 a (.lst (vs.set j v))) := KT.upd qa trivial
              refine .inl ⟨a, vs, kk, j, rfl, rfl, qa, by rw [ra.len]; exact ej, ?_⟩
              exact q σ _ (k _ _ [a] ((Same.kt s2).trans kt) (fun b o hb e => by rw [upd_ne (by simpa using hb)]; exact s2 b o e) ⟨a, _, rfl, upd_same, rfl, RepPs.kt kt _ _ (RepPs.set rw' j ra)⟩ (by simp) fun b hb => .inl hb)
            · cases ef
          | _ => cases ef
        | dic kvs =>
          simp only [fPut] at ef
          split at ef
          · rename_i kk ekk
            split at ef
            · rename_i hz
              obtain rfl := Option.some.inj ef
              obtain rfl : v2 = kV kk := keyP_kV rx ekk
              obtain ⟨a, ws, rfl, qa, rfl, ra⟩ := rd2
              have kt : KT H2 (upd H2 a (.dK (putK ws kk v))) := KT.upd qa trivial
              refine .inr ⟨a, _, rfl, DPut.k qa (by rw [ra.len]; exact hz), ?_⟩
              exact q σ _ (k _ _ [a] ((Same.kt s2).trans kt) (fun b o hb e => by rw [upd_ne (by simpa using hb)]; exact s2 b o e) ⟨a, _, rfl, upd_same, rfl, RepKs.kt kt _ _ (RepKs.put rw' ra)⟩ (by simp) fun b hb => .inl hb)
            · cases ef
          · cases ef
        | _ => cases x <;> cases ef
      · exact q.elim
    · exact q.elim
  · exact w.elim
end
end DL
/-! DLk: unpacking, while, loops over a slot's list, raise, try, isinstance. -/
namespace DL
open PySem PySem.Spec PyProof.Rows L2
section
variable {W : WX} {X : Cx} {a b e tg iter : Expr} {es : List Expr} {ga gb gc : GE} {gs : GA} {gt : GT} {gi : GI} {g1 g2 : GS} {st : Stmt} {sts body : List Stmt} {pos p : Pos}
/-- a, b = e -/
def gUnp (t : Tg) (ga : GE) : GS := fun δ => (lift (ga δ) δ).bind fun r => match r with
  | .own d => match t.set d δ with
    | some δ' => .ok (.nx δ')
    | none => .bad
  | .vw _ => .bad
theorem ds_unp {t : Tg} (hg : PG X tg (t.g X.K)) (ha : DE W X e ga) (hs : swapsWithSole [tg] e pos.line X.env = pure false := by rfl) (hw : swappedStores [tg] e X.env = pure none := by rfl)
    (h1 : (assignEach [tg] X.env).map (·.2) = [assign tg X.env] := by rfl) : DS W X (.Assign [tg] e pos) (gUnp t ga) := by
  refine PS.imp (ps_asg ha hg hs hw h1) fun D σ H ⟨B, Rg, δ, S0, w⟩ => ?_
  refine tDS_val S0 w fun r v H1 s1 rv S1 q => ?_
  cases r with
  | own d =>
    dsimp only at q
    split at q
    · rename_i δ' e1
      obtain ⟨fp, q1, n, f⟩ := rv
      exact Tg.ok S0 s1 q1 n f e1 fun σ' S2 => q σ' H1 S2
    · exact q.elim
  | vw d => exact q.elim
/-- a, b = x, y -/
def gPar (i j : Nat) (gs : GA) : GS := fun δ => (lift (gs δ) δ).bind fun rs => match rs with
  | [.own (.p x), .own (.p y)] => .ok (.nx ((δ.set i (.own (.p x))).set j (.own (.p y))))
  | _ => .bad
theorem ds_par {i j : Nat} {x y : Str} {px py pt pt2 : Pos} {kt k2 : Nat} (hc : X.calm = true) (hN : X.N.Nodup) (hi : X.N[i]? = some x) (hj : X.N[j]? = some y) (hij : i ≠ j)
    (hx : X.env.scope.names.lookup x = some .local) (hy : X.env.scope.names.lookup y = some .local) (ha : DA W X [a, b] gs)
    (hw : swappedStores [.Tuple [.Name x px, .Name y py] kt pt] (.Tuple [a, b] k2 pt2) X.env = pure (some [x, y]))
    (hs : swapsWithSole [.Tuple [.Name x px, .Name y py] kt pt] (.Tuple [a, b] k2 pt2) pos.line X.env = pure false := by rfl) :
    DS W X (.Assign [.Tuple [.Name x px, .Name y py] kt pt] (.Tuple [a, b] k2 pt2) pos) (gPar i j gs) := by
  refine PS.imp (ps_par hc hN hi hj hij hx hy ha hw hs) fun D σ H ⟨B, Rg, δ, S0, w⟩ => ?_
  refine tDS_args S0 w fun rs vs H1 s1 ra S1 q => ?_
  split at q
  · rename_i x y
    obtain ⟨fp, r, _⟩ := ra
    obtain ⟨v, r1, f, g, rfl, rfl, h1, u, r2, f2, g2, rfl, rfl, h2, h3⟩ := r
    obtain ⟨rfl, rfl⟩ := h3
    refine ⟨v, u, rfl, ?_⟩
    exact q _ _ ((S1.set (Same.refl _) (fp := []) (d := .p x) ⟨h1.1, rfl⟩ List.nodup_nil (fun _ z => nomatch z)).set (Same.refl _) (fp := []) (d := .p y) ⟨h2.1, rfl⟩ List.nodup_nil (fun _ z => nomatch z))
  · exact q.elim

/-! ### while -/
def gWhile (gt : GT) (g : GS) : Nat → GS
  | 0, _ => .bad
  | n + 1, δ => (lift (gt δ) δ).bind fun k => if k = true then (g δ).bind fun
      | .nx δ' => gWhile gt g n δ'
      | .ct δ' => gWhile gt g n δ'
      | .bk δ' => .ok (.nx δ')
      | .ret d => .ok (.ret d)
    else .ok (.nx δ)
theorem ds_while {fuel : Sl → Nat} (hp : PassesOwn (model X.prog X.w) X.A X.env X.xe) (hc : DT W X e gt) (hb : DSs W X body g1) : DS W X (.While e body [] pos) (fun δ => gWhile gt g1 (fuel δ) δ) := by
  refine PS.imp (ps_while hp hc hb) fun D σ H ⟨B, Rg, δ, S0, w⟩ => ?_
  refine ⟨fun m σ H => ∃ δ, SRel X.K B Rg σ H δ ∧ (gWhile gt g1 m δ).wp (postF X.K B Rg D) (postE (dc X W) B Rg), ⟨fuel δ, δ, S0, w⟩, ?_⟩
  rintro m σ1 H1 ⟨δ1, S1, w1⟩
  cases m with
  | zero => exact w1.elim
  | succ m =>
    unfold gWhile at w1
    refine tDS_bool (c := dc X W) S1 w1 fun k H2 s2 S2 q => ?_
    cases k with
    | false =>
      rw [if_neg (by decide)] at q ⊢
      exact q _ _ S2
    | true =>
      rw [if_pos rfl] at q ⊢
      refine ⟨fun σ H => ∃ δ, SRel X.K B Rg σ H δ ∧ (gWhile gt g1 m δ).wp (postF X.K B Rg D) (postE (dc X W) B Rg), fun σ' H' q => ⟨m, Nat.lt_succ_self m, q⟩, ?_⟩
      refine ⟨B, Rg, δ1, S2, Rn.wp_mono (Rn.wp_bind.mp q) (fun fl q => ?_) fun _ _ q => q⟩
      cases fl with
      | nx δ' => exact fun σ H S => ⟨δ', S, q⟩
      | ct δ' => exact fun σ H S => ⟨δ', S, q⟩
      | bk δ' => exact q
      | ret d => exact q

/-! ### raise -/
structure ErrC (K : PySem.W.Frag) (mg : Str → Option Value) (c : Str) : Prop where
  ex : ∃ C, mg c = some (.ref C) ∧ PySem.W.excIn K C [.type "ValueError", .type "Exception", .type "BaseException", .type "object"] "ValueError.__new__" = true ∧ PySem.W.keepIn K (.ref C) = true ∧
    PySem.W.subIn K (.ref C) (.type "BaseException") = some true ∧ PySem.W.typeIn K (.ref C) = some (.type "type")
def gRaise (c : Str) : GS := fun δ => .err c δ
theorem ds_raise {x m : Str} {j : Nat} {p2 pos2 : Pos} (hc : X.calm = true) (tk : Takes X W) (ec : ErrC X.K X.mg x) (hg : Gl X x := by rfl) (hdb : (x == ("__debug__" : Str)) = false := by decide) :
    DS W X (.Raise (some (.Call (.Name x p) [.Constant (.str m) j p2] [] pos)) none pos2) (gRaise x) := by
  obtain ⟨C, hm, h1, h2, h3, h4⟩ := ec.ex
  refine PS.imp (ps_raise hc tk (pmk_own PySem.F.excBase_ValueError h1 hm h2 (raises_own h3 h4) hg hdb)) fun D σ H ⟨B, Rg, δ, S0, w⟩ => ?_
  exact w C σ H hm S0

/-! ### try -/
/-- what the module tells of its errors: is class c caught by a clause that names h? -/
def ErrT (K : PySem.W.Frag) (mg : Str → Option Value) (h : Value) (sub : Str → Option Bool) : Prop := ∀ c b C, sub c = some b → mg c = some (.ref C) → PySem.W.exmOne K (.ref C) h = some b
def Fl.map (f : Sl → Sl) : Fl → Fl
  | .nx δ => .nx (f δ)
  | .bk δ => .bk (f δ)
  | .ct δ => .ct (f δ)
  | .ret d => .ret d
def Rn.noErrS {ε α : Type} : Rn ε α → Rn ε α
  | .ok a => .ok a
  | .err _ _ => .bad
  | .bad => .bad
  | .pick n k => .pick n fun i => (k i).noErrS
theorem Rn.wp_noErrS {ε α : Type} {w : Rn ε α} {Q : α → Prop} {E E' : Str → ε → Prop} (h : w.noErrS.wp Q E) : w.wp Q E' := by
  induction w with
  | ok a => exact h
  | err c e => exact h.elim
  | bad => exact h
  | pick n k ih => exact fun i hi => ih i (h i hi)
def S.noExn : S → S
  | .exn => .no
  | s => s
/-- behind a suite: slot i, and what else held the exception, is empty -/
def outEx (i : Nat) (δ : Sl) : Sl := (δ.map S.noExn).set i .no
def gTryW (sub : Str → Option Bool) (i : Nat) (gsu : Str → GS) : Rn Sl Fl → Rn Sl Fl
  | .ok fl => .ok fl
  | .err c δ' => match sub c with
    | some true => ((gsu c (δ'.set i .exn)).noErrS).bind fun fl => .ok (fl.map (outEx i))
    | some false => .err c δ'
    | none => .bad
  | .bad => .bad
  | .pick n k => .pick n fun j => gTryW sub i gsu (k j)
def gTry (sub : Str → Option Bool) (i : Nat) (g : GS) (gsu : Str → GS) : GS := fun δ => gTryW sub i gsu (g δ)
theorem gTryW_wp {sub : Str → Option Bool} {i : Nat} {gsu : Str → GS} {Q : Fl → Prop} {E : Str → Sl → Prop} : ∀ {r : Rn Sl Fl}, (gTryW sub i gsu r).wp Q E →
    r.wp Q fun c δ' => (sub c = some true ∧ (((gsu c (δ'.set i .exn)).noErrS).bind fun fl => .ok (fl.map (outEx i))).wp Q E) ∨ (sub c = some false ∧ E c δ') := by
  intro r
  induction r with
  | ok fl => exact fun h => h
  | err c δ' =>
    intro h
    unfold gTryW at h
    split at h
    · rename_i e; exact .inl ⟨e, h⟩
    · rename_i e; exact .inr ⟨e, h⟩
    · exact h.elim
  | bad => exact fun h => h
  | pick n k ih => exact fun h j hj => ih j (h j hj)
end
section
variable {K : PySem.W.Frag} {B H : Hp}
theorem SlotsR.toEx {Rg : Option Nat → Hp} {a : Addr} : ∀ {δ : Sl} {σ : L2.St} {fp : List Addr}, SlotsR K (ex := none) Rg H δ σ fp → SlotsR K (ex := some a) Rg H δ σ fp
  | [], _, _, h => h
  | s :: δ, _, _, h => by
    obtain ⟨ov, r, f, g, e1, e2, h1, h2⟩ := h
    refine ⟨ov, r, f, g, e1, e2, ?_, SlotsR.toEx h2⟩
    cases s with
    | exn => obtain ⟨_, _, z, _⟩ := h1; cases z
    | no => exact h1
    | own d => exact h1
    | bor t d => exact h1
theorem SlotsR.offEx {Rg : Option Nat → Hp} {ex : Option Addr} : ∀ {δ : Sl} {σ : L2.St} {fp : List Addr}, SlotsR K (ex := ex) Rg H δ σ fp → SlotsR K (ex := none) Rg H (δ.map S.noExn) σ fp
  | [], _, _, h => h
  | s :: δ, _, _, h => by
    obtain ⟨ov, r, f, g, e1, e2, h1, h2⟩ := h
    refine ⟨ov, r, f, g, e1, e2, ?_, SlotsR.offEx h2⟩
    cases s with
    | exn => exact h1.1
    | no => exact h1
    | own d => exact h1
    | bor t d => exact h1
theorem SlotsR.setExn {Rg : Option Nat → Hp} {a : Addr} : ∀ {δ : Sl} {σ : L2.St} {fp : List Addr} (i : Nat), SlotsR K (ex := some a) Rg H δ σ fp → fp.Nodup → ∃ fp', SlotsR K (ex := some a) Rg H (δ.set i .exn) (σ.set i (some (.ref a))) fp' ∧ fp'.Nodup ∧ ∀ b ∈ fp', b ∈ fp
  | [], _, _, i, h, n => ⟨_, by obtain ⟨rfl, rfl⟩ := h; exact ⟨rfl, rfl⟩, n, fun _ z => z⟩
  | s :: δ, _, _, 0, h, n => by
    obtain ⟨ov, r, f, g, rfl, rfl, h1, h2⟩ := h
    rw [List.nodup_append] at n
    exact ⟨g, ⟨_, r, [], g, rfl, rfl, ⟨rfl, a, rfl, rfl⟩, h2⟩, n.2.1, fun a ha => by simp [ha]⟩
  | s :: δ, _, _, i + 1, h, n => by
    obtain ⟨ov, r, f, g, rfl, rfl, h1, h2⟩ := h
    rw [List.nodup_append] at n
    obtain ⟨fp', q1, q2, q3⟩ := SlotsR.setExn i h2 n.2.1
    refine ⟨f ++ fp', ⟨ov, _, f, fp', rfl, rfl, h1, q1⟩, ?_, fun a ha => ?_⟩
    · rw [List.nodup_append]
      exact ⟨n.1, q2, fun a ha b hb e => n.2.2 a ha b (q3 b hb) e⟩
    · rcases List.mem_append.mp ha with z | z
      · simp [z]
      · simp [q3 a z]
theorem SRel.outEx {Rg : Option Nat → Hp} {ex : Option Addr} {σ : L2.St} {δ : Sl} (i : Nat) (S0 : SRel K B (ex := ex) Rg σ H δ) : SRel K B (ex := none) Rg (σ.set i none) H (outEx i δ) := by
  obtain ⟨b, u, fp, q, n, f⟩ := S0
  obtain ⟨fp', q1, q2, q3⟩ := SlotsR.wipe1 i (v := none) q.offEx n
  exact ⟨b, u, fp', q1, q2, fun a ha => f a (q3 a ha)⟩
end
section
variable {W : WX} {X : Cx} {body suite : List Stmt} {b₀ : Stmt} {g1 : GS} {pos p np pos' : Pos}
/-- the wish of a try's body -/
theorem try_of {sub : Str → Option Bool} {i : Nat} {gsu : Str → GS} {c : Value} {ts : Addr → Value → Option Addr → TS}
    (hts : ts = fun a cls d D σ H => ∃ cl C, X.mg cl = some (.ref C) ∧ cls = .ref C ∧ d = none ∧ tDS ⟨X.K, X.mg, W0, some a⟩ (gsu cl) D σ H) (et : ErrT X.K X.mg c sub) (hc : X.calm = true)
    (D : Ends) (σ : L2.St) (H : Hp) (h : tDS (dc X W) (gTry sub i g1 gsu) D σ H) : tDS ⟨X.K, X.mg, wAs X.K c i ts W D, none⟩ g1 D σ H := by
  rw [dc_calm hc] at h
  obtain ⟨B, Rg, δ, S0, w⟩ := h
  refine ⟨B, Rg, δ, S0, Rn.wp_mono (gTryW_wp w) (fun _ q => q) fun cl δ' q C σ1 H1 hm S1 => ?_⟩
  rcases q with ⟨e, q⟩ | ⟨e, q⟩
  · refine ⟨true, et cl true C e hm, fun _ a ha => ?_, fun z => Bool.noConfusion z⟩
    subst hts
    refine ⟨cl, C, hm, rfl, rfl, ?_⟩
    obtain ⟨b, u, fp, r, n, f⟩ := S1
    obtain ⟨fp', q1, q2, q3⟩ := SlotsR.setExn i (r.toEx (a := a)) n
    refine ⟨B, Rg, δ'.set i .exn, ⟨b, u, fp', q1, q2, fun a ha => f a (q3 a ha)⟩, Rn.wp_noErrS (Rn.wp_mono (Rn.wp_bind.mp q) (fun fl q => ?_) fun _ _ q => q)⟩
    cases fl with
    | nx δ2 => exact fun σ2 H2 S2 => q _ _ (S2.outEx i)
    | bk δ2 => exact fun σ2 H2 S2 => q _ _ (S2.outEx i)
    | ct δ2 => exact fun σ2 H2 S2 => q _ _ (S2.outEx i)
    | ret d => exact q
  · exact ⟨false, et cl false C e hm, fun z => Bool.noConfusion z, fun _ => q C σ1 H1 hm S1⟩
theorem ds_tryAs {x n : Str} {c : Value} {sub : Str → Option Bool} {i : Nat} {gsu : Str → GS} (hs : X.stack = X.env :: X.outer) (hf : X.env.frame = some X.env.locals) (hcal : X.calm = true) (hN : X.N.Nodup) (hi : X.N[i]? = some n) (hln : X.env.kindOf n = some .local)
    (hc : Names X x c) (et : ErrT X.K X.mg c sub) (tk : Takes X W)
    (hb : ∀ (W' : WX) (pn : List (Addr × Obj)) (xe : Value → Shared → Prop), Takes (X.tr pn xe) W' → PassesOwn (model X.prog X.w) X.A X.env xe → DSs W' (X.tr pn xe) body g1)
    (hsu : ∀ (cl : Str) (C a : Addr) (oe : Obj) (pn : List (Addr × Obj)), X.mg cl = some (.ref C) → Zc (.ref C) none oe → (∃ vs, oe.data = .fields vs) → DSs W0 (X.suite a ((a, oe) :: pn)) (b₀ :: suite) (gsu cl)) :
    DS W X (.Try body [.ExceptHandler (some (.Name x np)) (some n) (b₀ :: suite) pos'] [] [] pos) (gTry sub i g1 gsu) := by
  refine PS.imp (ps_try_as (Wout := W) (tb := fun W' => tDS ⟨X.K, X.mg, W', none⟩ g1) (ts := fun a cls d D σ H => ∃ cl C, X.mg cl = some (.ref C) ∧ cls = .ref C ∧ d = none ∧ tDS ⟨X.K, X.mg, W0, some a⟩ (gsu cl) D σ H)
    hs hf hN hi hln hc tk (fun W' pn xe t1 t2 => ?_) fun a oe cls d pn hz hv => ?_) fun D σ H h => try_of rfl et hcal D σ H h
  · have := hb W' pn xe t1 t2
    unfold DSs at this
    rw [dc_calm (X := X.tr pn xe) hcal] at this
    exact this
  · refine ⟨fun pins s σ H D I ⟨cl, C, hm, e1, e2, h⟩ => ?_⟩
    subst e1 e2
    exact (hsu cl C a oe pn hm hz hv).run pins s σ H D I h
end
end DL
/-! DLl: in, isinstance, join, built-ins in short. -/
namespace DL
open PySem PySem.Spec PyProof.Rows L2
def P.flat : P → Bool
  | .tup _ => false
  | _ => true
def P.eqF : P → P → Bool
  | .non, .non => true
  | .bl a, .bl b => a == b
  | .bl a, .int b => (if a then 1 else 0) == b
  | .int a, .bl b => a == (if b then 1 else 0)
  | .int a, .int b => a == b
  | .str a, .str b => a == b
  | _, _ => false
def inP (x : P) (xs : List P) : Bool := xs.any fun y => P.eqF y x
def fIn (neg : Bool) : D → D → Rn Unit Bool
  | .p (.str x), .p (.str z) => match x.cps.toList with
    | [c] => .ok (if neg then !decide (c ∈ z.cps.toList) else decide (c ∈ z.cps.toList))
    | _ => .ok (if neg then !(!(Builtin.Str.occurrences z x 0 z.length 1).isEmpty) else !(Builtin.Str.occurrences z x 0 z.length 1).isEmpty)
  | .p x, .p (.tup xs) => if x.flat = true ∧ xs.all P.flat = true then .ok (if neg then !inP x xs else inP x xs) else .bad
  | .p x, .lst xs => if x.flat = true ∧ xs.all P.flat = true then .ok (if neg then !inP x xs else inP x xs) else .bad
  | .p x, .dic kvs => match keyP x with
    | some k => .ok (if neg then !(valP kvs k).isSome else (valP kvs k).isSome)
    | none => .bad
  | _, _ => .bad
section
variable {K : PySem.W.Frag} {H : Hp}
theorem flat_ok {x : P} {v : V} (r : RepP K H x v) (h : x.flat = true) : flatV v = true := by
  cases x <;> first | (cases h; done) | (obtain rfl := (r : v = _); rfl)
theorem eqF_ok {x y : P} {v u : V} (r : RepP K H x v) (r' : RepP K H y u) (h : x.flat = true) (h' : y.flat = true) : eqV v u = P.eqF x y := by
  cases x <;> cases y <;> first
    | (cases h; done)
    | (cases h'; done)
    | (obtain rfl := (r : v = _); obtain rfl := (r' : u = _); rfl)
theorem inP_ok {x : P} {v : V} (rx : RepP K H x v) (hx : x.flat = true) : ∀ {xs : List P} {vs : List V}, RepPs K H xs vs → xs.all P.flat = true → vs.all flatV = true ∧ inV v vs = inP x xs
  | [], vs, h, _ => by
    obtain rfl : vs = [] := h
    exact ⟨rfl, rfl⟩
  | y :: xs, vs, h, hf => by
    obtain ⟨u, r, rfl, h1, h2⟩ := h
    simp only [List.all_cons, Bool.and_eq_true] at hf
    obtain ⟨z1, z2⟩ := inP_ok rx hx h2 hf.2
    unfold inV at z2 ⊢
    unfold inP at z2 ⊢
    simp only [List.all_cons, List.any_cons, flat_ok h1 hf.1, z1, z2, eqF_ok h1 rx hf.1 hx, Bool.and_self, true_and]
end
theorem op_in_dict {X : Cx} (hu : X.A.units + 1 < cLine) : OpR X (compareOp .In) (fun x y H Q => ∃ a o, y = .ref a ∧ DGet H a x o ∧ Q (.bl o.isSome) H) := by
  intro pins s σ H x y v u Q I rx ry h
  obtain ⟨a, o, rfl, g, q⟩ := h
  obtain rfl : u = Value.ref a := ry
  exact d_in hu I g rx fun s3 I3 => ⟨.bl o.isSome, H, I3, rfl, q⟩
theorem op_notIn_dict {X : Cx} (hu : X.A.units + 1 < cLine) : OpR X (compareOp .NotIn) (fun x y H Q => ∃ a o, y = .ref a ∧ DGet H a x o ∧ Q (.bl (!o.isSome)) H) := by
  intro pins s σ H x y v u Q I rx ry h
  obtain ⟨a, o, rfl, g, q⟩ := h
  obtain rfl : u = Value.ref a := ry
  exact d_notIn hu I g rx fun s3 I3 => ⟨.bl (!o.isSome), H, I3, rfl, q⟩
def rInA (K : PySem.W.Frag) : R2 := fun x y H Q => rIn K false x y H Q ∨ (∃ a o, y = .ref a ∧ DGet H a x o ∧ Q (.bl o.isSome) H) ∨ (∃ (c : Nat) (z : Str), x = .str ⟨#[c]⟩ ∧ y = .str z ∧ Q (.bl (decide (c ∈ z.cps.toList))) H) ∨ ∃ i j, x = .str i ∧ y = .str j ∧ Q (.bl (!(Builtin.Str.occurrences j i 0 j.length 1).isEmpty)) H
def rNiA (K : PySem.W.Frag) : R2 := fun x y H Q => rIn K true x y H Q ∨ (∃ a o, y = .ref a ∧ DGet H a x o ∧ Q (.bl (!o.isSome)) H) ∨ (∃ (c : Nat) (z : Str), x = .str ⟨#[c]⟩ ∧ y = .str z ∧ Q (.bl (!decide (c ∈ z.cps.toList))) H) ∨ ∃ i j, x = .str i ∧ y = .str j ∧ Q (.bl (!(!(Builtin.Str.occurrences j i 0 j.length 1).isEmpty))) H
theorem op_inA {X : Cx} (hu : X.A.units + 1 < cLine) : OpR X (compareOp .In) (rInA X.K) := op_in_seq.or ((op_in_dict hu).or (op_in_sign.or op_in_str))
theorem op_niA {X : Cx} (hu : X.A.units + 1 < cLine) : OpR X (compareOp .NotIn) (rNiA X.K) := op_notIn_seq.or ((op_notIn_dict hu).or (op_notIn_sign.or op_notIn_str))
theorem one_sign {x : Str} {c : Nat} (h : x.cps.toList = [c]) : x = ⟨#[c]⟩ := by
  obtain ⟨a⟩ := x
  have : a = #[c] := by
    have := congrArg List.toArray h
    simpa using this
  rw [this]
theorem og_in {K : PySem.W.Frag} : OpG K (rInA K) (fB (fIn false)) := by
  intro H x y v u fx fy Q E rx ry h
  have h' := Rn.wp_bind.mp h
  unfold fIn at h'
  split at h'
  · rename_i x z
    obtain rfl : v = .str x := rx.1
    obtain rfl : u = .str z := ry.1
    split at h'
    · rename_i c e
      obtain rfl := one_sign e
      exact .inr (.inr (.inl ⟨c, z, rfl, rfl, RepP.up h' rfl⟩))
    · exact .inr (.inr (.inr ⟨x, z, rfl, rfl, RepP.up h' rfl⟩))
  · rename_i x xs _
    split at h'
    · rename_i hf
      obtain ⟨⟨a, vs, rfl, q, r⟩, _⟩ := ry
      obtain ⟨z1, z2⟩ := inP_ok rx.1 hf.1 r hf.2
      exact .inl ⟨a, vs, rfl, .inr q, flat_ok rx.1 hf.1, z1, by rw [z2]; exact RepP.up h' rfl⟩
    · exact h'.elim
  · rename_i x xs
    split at h'
    · rename_i hf
      obtain ⟨a, vs, rfl, q, _, r⟩ := ry
      obtain ⟨z1, z2⟩ := inP_ok rx.1 hf.1 r hf.2
      exact .inl ⟨a, vs, rfl, .inl (SqL.of q), flat_ok rx.1 hf.1, z1, by rw [z2]; exact RepP.up h' rfl⟩
    · exact h'.elim
  · rename_i x kvs
    split at h'
    · rename_i k ek
      obtain ⟨a, ws, rfl, q, _, r⟩ := ry
      obtain rfl : v = kV k := keyP_kV rx.1 ek
      have g := RepKs.get (k := k) r
      refine .inr (.inl ⟨a, _, rfl, DGet.k q, ?_⟩)
      cases e : valP kvs k with
      | none => rw [e] at g h'; rw [g]; exact RepP.up h' rfl
      | some x => rw [e] at g h'; obtain ⟨w, e2, _⟩ := g; rw [e2]; exact RepP.up h' rfl
    · exact h'.elim
  · exact h'.elim
theorem og_ni {K : PySem.W.Frag} : OpG K (rNiA K) (fB (fIn true)) := by
  intro H x y v u fx fy Q E rx ry h
  have h' := Rn.wp_bind.mp h
  unfold fIn at h'
  split at h'
  · rename_i x z
    obtain rfl : v = .str x := rx.1
    obtain rfl : u = .str z := ry.1
    split at h'
    · rename_i c e
      obtain rfl := one_sign e
      exact .inr (.inr (.inl ⟨c, z, rfl, rfl, RepP.up h' rfl⟩))
    · exact .inr (.inr (.inr ⟨x, z, rfl, rfl, RepP.up h' rfl⟩))
  · rename_i x xs _
    split at h'
    · rename_i hf
      obtain ⟨⟨a, vs, rfl, q, r⟩, _⟩ := ry
      obtain ⟨z1, z2⟩ := inP_ok rx.1 hf.1 r hf.2
      exact .inl ⟨a, vs, rfl, .inr q, flat_ok rx.1 hf.1, z1, by rw [z2]; exact RepP.up h' rfl⟩
    · exact h'.elim
  · rename_i x xs
    split at h'
    · rename_i hf
      obtain ⟨a, vs, rfl, q, _, r⟩ := ry
      obtain ⟨z1, z2⟩ := inP_ok rx.1 hf.1 r hf.2
      exact .inl ⟨a, vs, rfl, .inl (SqL.of q), flat_ok rx.1 hf.1, z1, by rw [z2]; exact RepP.up h' rfl⟩
    · exact h'.elim
  · rename_i x kvs
    split at h'
    · rename_i k ek
      obtain ⟨a, ws, rfl, q, _, r⟩ := ry
      obtain rfl : v = kV k := keyP_kV rx.1 ek
      have g := RepKs.get (k := k) r
      refine .inr (.inl ⟨a, _, rfl, DGet.k q, ?_⟩)
      cases e : valP kvs k with
      | none => rw [e] at g h'; rw [g]; exact RepP.up h' rfl
      | some x => rw [e] at g h'; obtain ⟨w, e2, _⟩ := g; rw [e2]; exact RepP.up h' rfl
    · exact h'.elim
  · exact h'.elim
/-! ### isinstance -/
def D.ty? : D → Option String
  | .p .non => some "NoneType"
  | .p (.bl _) => some "bool"
  | .p (.int _) => some "int"
  | .p (.str _) => some "str"
  | .p (.tup _) => some "tuple"
  | .lst _ => some "list"
  | .ls _ => some "list"
  | .tp _ => some "tuple"
  | .dic _ => some "dict"
  | .dit _ => some "dict"
  | _ => none
/-- is a a kind of b -/
def tyB (a b : String) : Bool := a == b || (a == "bool" && b == "int")
def tyOkB (b : String) : Bool := ["NoneType", "bool", "int", "str", "tuple", "list", "dict"].all fun a => kitB a b == some (tyB a b)
theorem D.ty_ok {K : PySem.W.Frag} {H : Hp} {d : D} {v : V} {fp : List Addr} {t : String} (r : RepD K H d v fp) (e : d.ty? = some t) : TyX K H v (.type t) ∧ t ∈ ["NoneType", "bool", "int", "str", "tuple", "list", "dict"] := by
  have tupT : ∀ {a : Addr} {vs : List V}, SqT K H a vs → TyX K H (.ref a) (.type "tuple") := fun {a vs} q => by
    rcases q with (q | ⟨o, q⟩) | ⟨o, its, n, q, c, _⟩
    · exact .base (.tup q)
    · exact .fTuple q
    · exact .kTuple q c
  cases d with
  | p x =>
    cases x with
    | non => obtain rfl := Option.some.inj e; obtain rfl : v = .non := r.1; exact ⟨.base .non, by simp⟩
    | bl b => obtain rfl := Option.some.inj e; obtain rfl : v = .bl b := r.1; exact ⟨.base (.bl b), by simp⟩
    | int b => obtain rfl := Option.some.inj e; obtain rfl : v = .int b := r.1; exact ⟨.base (.int b), by simp⟩
    | str b => obtain rfl := Option.some.inj e; obtain rfl : v = .str b := r.1; exact ⟨.base (.str b), by simp⟩
    | tup xs =>
      obtain rfl := Option.some.inj e
      obtain ⟨⟨a, vs, rfl, q, _⟩, _⟩ := r
      exact ⟨tupT q, by simp⟩
  | lst xs => obtain rfl := Option.some.inj e; obtain ⟨a, vs, rfl, q, _⟩ := r; exact ⟨.base (.lst q), by simp⟩
  | ls xs => obtain rfl := Option.some.inj e; obtain ⟨a, vs, _, rfl, q, _⟩ := r; exact ⟨.base (.lst q), by simp⟩
  | tp xs => obtain rfl := Option.some.inj e; obtain ⟨a, vs, rfl, q, _⟩ := r; exact ⟨tupT q, by simp⟩
  | dic xs => obtain rfl := Option.some.inj e; obtain ⟨a, vs, rfl, q, _⟩ := r; exact ⟨.base (.dK q), by simp⟩
  | dit xs => obtain rfl := Option.some.inj e; obtain ⟨a, vs, rfl, q, _⟩ := r; exact ⟨.base (.dT q), by simp⟩
  | orc => cases e
  | scr ns => cases e
def gIsi (T : String) (ga : GE) : GE := fun δ => (ga δ).bind fun r => match r.d.ty? with
  | some t => .ok (.own (.p (.bl (tyB t T))))
  | none => .bad
section
variable {W : WX} {X : Cx} {a b e tg iter : Expr} {es : List Expr} {ga gb gc : GE} {gs : GA} {gt : GT} {gi : GI} {pos p p2 : Pos}
theorem de_isi {T : String} {x : Str} (hm : X.mg "isinstance" = none) (hm2 : X.mg x = none) (ha : DE W X e ga) (hv : bootBuiltins x = some (.type T)) (hT : tyOkB T = true) (hg2 : Gl X x := by rfl) (hg : Gl X "isinstance" := by rfl)
    (hn : x ≠ "__name__" := by decide) (hdb : (x == ("__debug__" : Str)) = false := by decide)
    (he : starEach [e, .Name x p2] X.env = (false, eval e X.env) :: starEach [.Name x p2] X.env := by rfl) (he2 : starEach [.Name x p2] X.env = (false, eval (.Name x p2) X.env) :: starEach [] X.env := by rfl) (hpl : (backTo pos (starEach [.Name x p2] X.env)).any (·.1) = false := by rfl) :
    DE W X (.Call (.Name "isinstance" p) [e, .Name x p2] [] pos) (gIsi T ga) := by
  refine PE.imp (pe_callB call_isi hg hm (by decide +kernel) (pa_cons ha (pa_cons (pe_bltn (v := .ty T) hg2 hm2 hv rfl hn hdb) pa_nil he2) he) (by decide) (by decide) he hpl) fun σ H Q ⟨B, Rg, δ, S0, w⟩ => ?_
  refine ⟨B, Rg, δ, S0, Rn.wp_mono (Rn.wp_bind.mp w) (fun r q v H1 s1 rv => ?_) fun _ _ q => q⟩
  split at q
  · rename_i t et
    obtain ⟨fp, rd⟩ := rv.look
    obtain ⟨ty, hm⟩ := D.ty_ok rd et
    refine ⟨v, .ty T, .type t, .type T, tyB t T, rfl, .ty T, ty, kit_ty ?_, q _ H1 s1 (RepR.plain rfl)⟩
    have := List.all_eq_true.mp hT t hm
    simpa using this
  · exact q.elim
/-- isinstance(e, x) of the exception that the suite handles -/
def gIsE (i : Nat) (ob : Option Bool) : GE := fun δ => match δ[i]?, ob with
  | some .exn, some b => .ok (.own (.p (.bl b)))
  | _, _ => .bad
/-- what the module tells of isinstance(e, x) -/
structure IsT (K : PySem.W.Frag) (mg : Str → Option Value) (x : Str) (sub : Str → Option Bool) : Prop where
  ex : ∃ C', mg x = some (.ref C') ∧ ∀ c b C, sub c = some b → mg c = some (.ref C) → ExcC K C ∧ PySem.W.kitOne K (.ref C) (.ref C') = some b
theorem de_isE {x y cl : Str} {C a : Addr} {oe : Obj} {pn : List (Addr × Obj)} {i : Nat} {sub : Str → Option Bool} {py : Pos} (it : IsT X.K X.mg x sub) (hcl : X.mg cl = some (.ref C)) (hz : Zc (.ref C) none oe) (hf : ∃ vs, oe.data = .fields vs)
    (hm : X.mg "isinstance" = none) (hN : X.N[i]? = some y) (hv : Vis X.env.scope y) (hg2 : Gl X x := by rfl) (hg : Gl X "isinstance" := by rfl)
    (hdb : (x == ("__debug__" : Str)) = false := by decide) (hdy : (y == ("__debug__" : Str)) = false := by decide) (hcd : (y == ("__classdict__" : Str)) = false := by decide)
    (he : starEach [.Name y py, .Name x p2] X.env = (false, eval (.Name y py) X.env) :: starEach [.Name x p2] X.env := by rfl) (he2 : starEach [.Name x p2] X.env = (false, eval (.Name x p2) X.env) :: starEach [] X.env := by rfl) (hpl : (backTo pos (starEach [.Name x p2] X.env)).any (·.1) = false := by rfl) :
    DE W0 (X.suite a ((a, oe) :: pn)) (.Call (.Name "isinstance" p) [.Name y py, .Name x p2] [] pos) (gIsE i (sub cl)) := by
  obtain ⟨C', hx, hk⟩ := it.ex
  cases eb : sub cl with
  | none => exact ⟨fun pins s σ H Q I ⟨B, Rg, δ, S0, w⟩ => by
      unfold gIsE at w
      split at w
      · rename_i z; cases z
      · exact w.elim⟩
  | some b =>
    obtain ⟨ec, hkit⟩ := hk cl b C eb hcl
    refine PE.imp (pe_callB (X := X.suite a ((a, oe) :: pn)) (call_isE ec hz hf) hg hm (by decide +kernel) (pa_cons (pe_var (i := i) hN hv hdy hcd) (pa_cons (pe_glob (v := .ref C') hg2 hx rfl hdb) pa_nil he2) he) (by decide) (by decide) he hpl) fun σ H Q ⟨B, Rg, δ, S0, w⟩ => ?_
    unfold gIsE at w
    split at w
    · rename_i b' e1 e2
      cases e2
      obtain ⟨b0, u, fp, q, n, f⟩ := S0
      obtain ⟨ov, f1, e3, r, _⟩ := q.get e1
      obtain ⟨_, a', ea, rfl⟩ := r
      obtain rfl : a = a' := Option.some.inj ea
      exact ⟨_, e3, .ref C', .ref C', b, rfl, fun u h => h, hkit, w _ H (Same.refl H) (RepR.plain rfl)⟩
    · exact w.elim

/-! ### join and other methods of texts -/
def fJoin (a : Str) : D → Rn Unit R
  | .lst xs => match pStrs xs with
    | some ys => if (ys.map (·.length)).sum + ys.length * a.length ≤ 16777216 then .ok (.own (.p (.str (Txt.join a ys)))) else .bad
    | none => .bad
  | .p (.tup xs) => match pStrs xs with
    | some ys => if (ys.map (·.length)).sum + ys.length * a.length ≤ 16777216 then .ok (.own (.p (.str (Txt.join a ys)))) else .bad
    | none => .bad
  | _ => .bad
def gJoin (go ge : GE) : GE := fun δ => (go δ).bind fun s => match s.d with
  | .p (.str a) => (ge δ).bind fun r => fJoin a r.d
  | _ => .bad
end
end DL
/-! DLm: join; built-ins in short. -/
namespace DL
open PySem PySem.Spec PyProof.Rows L2
section
variable {W : WX} {X : Cx} {a b e o tg iter : Expr} {es : List Expr} {ga gb gc go ge : GE} {gs : GA} {gt : GT} {gi : GI} {pos p p2 : Pos}
theorem de_join {apos : Pos} (ho : DE W X o go) (he : DE W X e ge) (hs : starEach [e] X.env = [(false, eval e X.env)] := by rfl) (hbase : attributeBase o "join" X.env (eval o X.env) = eval o X.env := by rfl) (hline : (apos.endLine == pos.line) = true := by rfl) :
    DE W X (.Call (.Attribute o "join" apos) [e] [] pos) (gJoin go ge) := by
  refine PE.imp (pe_join ho he hs hbase hline) fun σ H Q ⟨B, Rg, δ, S0, w⟩ => ?_
  refine tD_val S0 w fun r1 v1 H1 s1 rv1 S1 w1 => ?_
  split at w1
  · rename_i a ea
    obtain rfl : v1 = .str a := rv1.getP ea
    refine ⟨⟨a, rfl⟩, ?_⟩
    refine tD_val S1 w1 fun r2 v2 H2 s2 rv2 S2 w2 => ?_
    obtain ⟨fp, rd⟩ := rv2.look
    generalize r2.d = d at rd w2
    unfold fJoin at w2
    split at w2
    · rename_i xs
      split at w2
      · rename_i ys ey
        split at w2
        · rename_i hz
          obtain ⟨q, vs, rfl, hq, _, r⟩ := rd
          obtain rfl := pStrs_ok ey
          obtain rfl := r.str
          exact ⟨a, q, ys, rfl, rfl, .inl (SqL.of hq), hz, RepP.up w2 rfl⟩
        · exact w2.elim
      · exact w2.elim
    · rename_i xs
      split at w2
      · rename_i ys ey
        split at w2
        · rename_i hz
          obtain ⟨⟨q, vs, rfl, hq, r⟩, _⟩ := rd
          obtain rfl := pStrs_ok ey
          obtain rfl := r.str
          exact ⟨a, q, ys, rfl, rfl, .inr hq, hz, RepP.up w2 rfl⟩
        · exact w2.elim
      · exact w2.elim
    · exact w2.elim
  · exact w1.elim
theorem de_abs (hm : X.mg "abs" = none) (ha : DA W X (e :: es) gs) (hg : Gl X "abs" := by rfl) (he : starEach (e :: es) X.env = (false, eval e X.env) :: starEach es X.env := by rfl) (hpl : (backTo pos (starEach es X.env)).any (·.1) = false := by rfl) : DE W X (.Call (.Name "abs" p) (e :: es) [] pos) (gCall fAbs gs) :=
  de_callB call_abs cg_abs hm (by decide +kernel) ha hg (he := he) (hpl := hpl)
theorem de_max (hc : X.calm = true) (hm : X.mg "max" = none) (ha : DA W X (e :: es) gs) (hg : Gl X "max" := by rfl) (he : starEach (e :: es) X.env = (false, eval e X.env) :: starEach es X.env := by rfl) (hpl : (backTo pos (starEach es X.env)).any (·.1) = false := by rfl) : DE W X (.Call (.Name "max" p) (e :: es) [] pos) (gCall fMaxL gs) :=
  de_callB ((cr_max hc).or (call_max2 hc)) cg_max hm (by decide +kernel) ha hg (he := he) (hpl := hpl)
theorem de_min (hc : X.calm = true) (hm : X.mg "min" = none) (ha : DA W X (e :: es) gs) (hg : Gl X "min" := by rfl) (he : starEach (e :: es) X.env = (false, eval e X.env) :: starEach es X.env := by rfl) (hpl : (backTo pos (starEach es X.env)).any (·.1) = false := by rfl) : DE W X (.Call (.Name "min" p) (e :: es) [] pos) (gCall fMinL gs) :=
  de_callB ((cr_min hc).or (call_min2 hc)) cg_min hm (by decide +kernel) ha hg (he := he) (hpl := hpl)
theorem de_sum (hc : X.calm = true) (hm : X.mg "sum" = none) (ha : DA W X (e :: es) gs) (hg : Gl X "sum" := by rfl) (he : starEach (e :: es) X.env = (false, eval e X.env) :: starEach es X.env := by rfl) (hpl : (backTo pos (starEach es X.env)).any (·.1) = false := by rfl) : DE W X (.Call (.Name "sum" p) (e :: es) [] pos) (gCall fSum gs) :=
  de_callB (cr_sum hc) cg_sum hm (by decide +kernel) ha hg (he := he) (hpl := hpl)
theorem de_any (hc : X.calm = true) (hm : X.mg "any" = none) (ha : DA W X (e :: es) gs) (hg : Gl X "any" := by rfl) (he : starEach (e :: es) X.env = (false, eval e X.env) :: starEach es X.env := by rfl) (hpl : (backTo pos (starEach es X.env)).any (·.1) = false := by rfl) : DE W X (.Call (.Name "any" p) (e :: es) [] pos) (gCall (fAnyAll fun bs => bs.any id) gs) :=
  de_callB (cr_any hc) cg_any hm (by decide +kernel) ha hg (he := he) (hpl := hpl)
theorem de_all (hc : X.calm = true) (hm : X.mg "all" = none) (ha : DA W X (e :: es) gs) (hg : Gl X "all" := by rfl) (he : starEach (e :: es) X.env = (false, eval e X.env) :: starEach es X.env := by rfl) (hpl : (backTo pos (starEach es X.env)).any (·.1) = false := by rfl) : DE W X (.Call (.Name "all" p) (e :: es) [] pos) (gCall (fAnyAll fun bs => bs.all id) gs) :=
  de_callB (cr_all hc) cg_all hm (by decide +kernel) ha hg (he := he) (hpl := hpl)
theorem de_tuple (hm : X.mg "tuple" = none) (ha : DA W X (e :: es) gs) (hg : Gl X "tuple" := by rfl) (he : starEach (e :: es) X.env = (false, eval e X.env) :: starEach es X.env := by rfl) (hpl : (backTo pos (starEach es X.env)).any (·.1) = false := by rfl) : DE W X (.Call (.Name "tuple" p) (e :: es) [] pos) (gCall fTuple gs) :=
  de_callTy call_tuple_of cg_tuple hm (by decide +kernel) ha hg (he := he) (hpl := hpl)
theorem de_list (hm : X.mg "list" = none) (ha : DA W X (e :: es) gs) (hg : Gl X "list" := by rfl) (he : starEach (e :: es) X.env = (false, eval e X.env) :: starEach es X.env := by rfl) (hpl : (backTo pos (starEach es X.env)).any (·.1) = false := by rfl) : DE W X (.Call (.Name "list" p) (e :: es) [] pos) (gCall fList gs) :=
  de_callTy call_list_of cg_list hm (by decide +kernel) ha hg (he := he) (hpl := hpl)
theorem de_intc (hm : X.mg "int" = none) (ha : DA W X (e :: es) gs) (hg : Gl X "int" := by rfl) (he : starEach (e :: es) X.env = (false, eval e X.env) :: starEach es X.env := by rfl) (hpl : (backTo pos (starEach es X.env)).any (·.1) = false := by rfl) : DE W X (.Call (.Name "int" p) (e :: es) [] pos) (gCall fInt1 gs) :=
  de_callTy call_int1 cg_int hm (by decide +kernel) ha hg (he := he) (hpl := hpl)
end
end DL
/-! DLn: a loop over the list of a slot; words for the printer. -/
namespace DL
open PySem PySem.Spec PyProof.Rows L2
/-- what is lent of slot i's goes -/
def S.offT (i : Nat) : S → S
  | .bor (some j) d => if j = i then .no else .bor (some j) d
  | s => s
/-- slot i's list, lent while a loop walked it, is one's own again -/
def outV (i : Nat) (δ : Sl) : Sl := match δ[i]? with
  | some (.bor (some j) (.lst xs)) => if j = i then (δ.map (S.offT i)).set i (.own (.lst xs)) else δ.map (S.offT i)
  | _ => δ.map (S.offT i)
def Rn.outS (f : Sl → Sl) : Rn Sl Fl → Rn Sl Fl
  | .ok fl => .ok (fl.map f)
  | .err c δ => .err c (f δ)
  | .bad => .bad
  | .pick n k => .pick n fun j => (k j).outS f
theorem Rn.wp_outS {f : Sl → Sl} {Q : Fl → Prop} {E : Str → Sl → Prop} : ∀ {w : Rn Sl Fl}, (w.outS f).wp Q E → w.wp (fun fl => Q (fl.map f)) (fun c δ => E c (f δ)) := by
  intro w
  induction w with
  | ok a => exact fun h => h
  | err c e => exact fun h => h
  | bad => exact fun h => h
  | pick n k ih => exact fun h i hi => ih i (h i hi)
def notBor (i : Nat) (δ : Sl) : Bool := δ.all fun s => match s with
  | .bor (some j) _ => j != i
  | _ => true
/-- for t in x, x the name in slot i -/
def gForV (t : Tg) (i : Nat) (g : GS) : GS := fun δ => match δ[i]? with
  | some (.own (.lst xs)) => if notBor i δ = true then (gForL t g xs (δ.set i (.bor (some i) (.lst xs)))).outS (outV i) else .bad
  | some (.own (.p x)) => match (R.own (.p x)).items with
    | some xs => gForL t g xs δ
    | none => .bad
  | some (.bor _ (.p x)) => match (R.own (.p x)).items with
    | some xs => gForL t g xs δ
    | none => .bad
  | some (.bor _ (.lst xs)) => gForL t g xs δ
  | _ => .bad

section
variable {K : PySem.W.Frag} {B H H' : Hp} {ex : Option Addr} {Rg : Rgs ex}
/-- H at the addresses f alone -/
def onlyH (H : Hp) (f : List Addr) : Hp := fun b => if b ∈ f then H b else none
def lendRg (Rg : Rgs ex) (i : Nat) (G : Hp) : Rgs ex := fun t => if t = some i then G else Rg t
theorem SlotR.lend {i : Nat} {G : Hp} {s : S} {ov : Option V} {fp : List Addr} (h : SlotR K Rg H s ov fp) (hn : ∀ d, s ≠ .bor (some i) d) : SlotR K (lendRg Rg i G) H s ov fp := by
  cases s with
  | no => exact h
  | exn => exact h
  | own d => exact h
  | bor t d =>
    obtain ⟨e, v, g, e1, r, q⟩ := h
    refine ⟨e, v, g, e1, r, fun a ha => ?_⟩
    show (if t = some i then G else Rg t) a ≠ none
    rw [if_neg (fun z => hn d (by rw [z]))]
    exact q a ha
theorem SlotsR.lend0 {i : Nat} {G : Hp} : ∀ {δ : Sl} {σ : L2.St} {fp : List Addr}, SlotsR K Rg H δ σ fp → notBor i δ = true → SlotsR K (lendRg Rg i G) H δ σ fp
  | [], _, _, h, _ => h
  | s :: δ, _, _, h, n => by
    obtain ⟨ov, r, f, g, e1, e2, h1, h2⟩ := h
    unfold notBor at n
    rw [List.all_cons, Bool.and_eq_true] at n
    refine ⟨ov, r, f, g, e1, e2, h1.lend fun d z => ?_, SlotsR.lend0 h2 n.2⟩
    subst z
    simp at n
theorem SlotsR.lend {d : D} {i : Nat} : ∀ {δ : Sl} {σ : L2.St} {fp : List Addr} (j : Nat), SlotsR K Rg H δ σ fp → fp.Nodup → notBor i δ = true → δ[j]? = some (.own d) →
    ∃ v f, σ[j]? = some (some v) ∧ RepD K H d v f ∧ (∀ a ∈ f, a ∈ fp) ∧ ∃ fp', SlotsR K (lendRg Rg i (onlyH H f)) H (δ.set j (.bor (some i) d)) σ fp' ∧ fp'.Nodup ∧ ∀ b ∈ fp', b ∈ fp ∧ b ∉ f
  | [], _, _, j, _, _, _, e => by simp at e
  | s :: δ, _, _, 0, h, n, nb, e => by
    obtain ⟨ov, r, f, g, rfl, rfl, h1, h2⟩ := h
    obtain rfl : s = .own d := by simpa using e
    obtain ⟨v, rfl, rd⟩ := h1
    rw [List.nodup_append] at n
    unfold notBor at nb
    rw [List.all_cons, Bool.and_eq_true] at nb
    refine ⟨v, f, rfl, rd, fun a ha => by simp [ha], g, ⟨some v, r, [], g, rfl, rfl, ⟨rfl, v, f, rfl, rd, fun a ha => ?_⟩, SlotsR.lend0 h2 nb.2⟩, n.2.1, fun b hb => ⟨by simp [hb], fun z => n.2.2 b z b hb rfl⟩⟩
    show (if some i = some i then onlyH H f else Rg (some i)) a ≠ none
    rw [if_pos rfl]
    unfold onlyH
    rw [if_pos ha]
    exact rd.mem a ha
  | s :: δ, _, _, j + 1, h, n, nb, e => by
    obtain ⟨ov, r, f, g, rfl, rfl, h1, h2⟩ := h
    rw [List.nodup_append] at n
    unfold notBor at nb
    rw [List.all_cons, Bool.and_eq_true] at nb
    obtain ⟨v, fj, e1, rd, sub, fp', q1, q2, q3⟩ := SlotsR.lend (i := i) j h2 n.2.1 nb.2 (by simpa using e)
    refine ⟨v, fj, by simpa using e1, rd, fun a ha => by simp [sub a ha], f ++ fp', ⟨ov, r, f, fp', rfl, rfl, h1.lend fun d z => ?_, q1⟩, ?_, fun b hb => ?_⟩
    · subst z
      simp at nb
    · rw [List.nodup_append]
      exact ⟨n.1, q2, fun a ha b hb e => n.2.2 a ha b (q3 b hb).1 e⟩
    · rcases List.mem_append.mp hb with z | z
      · exact ⟨by simp [z], fun y => n.2.2 b z b (sub b y) rfl⟩
      · exact ⟨by simp [(q3 b z).1], (q3 b z).2⟩
theorem SlotR.off {i : Nat} {G : Hp} {s : S} {ov : Option V} {fp : List Addr} (h : SlotR K (lendRg Rg i G) H s ov fp) : SlotR K Rg H (s.offT i) ov fp := by
  cases s with
  | no => exact h
  | exn => exact h
  | own d => exact h
  | bor t d =>
    obtain ⟨e, v, g, e1, r, q⟩ := h
    cases t with
    | none => exact ⟨e, v, g, e1, r, fun a ha => q a ha⟩
    | some j =>
      unfold S.offT
      split
      · rename_i c d' e0
        cases e0
        split
        · exact e
        · rename_i hj
          refine ⟨e, v, g, e1, r, fun a ha => ?_⟩
          have := q a ha
          unfold lendRg at this
          rw [if_neg (fun z => hj (Option.some.inj z))] at this
          exact this
      · rename_i z; exact absurd rfl (z j d)
theorem SlotsR.off {i : Nat} {G : Hp} : ∀ {δ : Sl} {σ : L2.St} {fp : List Addr}, SlotsR K (lendRg Rg i G) H δ σ fp → SlotsR K Rg H (δ.map (S.offT i)) σ fp
  | [], _, _, h => h
  | s :: δ, _, _, h => by
    obtain ⟨ov, r, f, g, e1, e2, h1, h2⟩ := h
    exact ⟨ov, r, f, g, e1, e2, h1.off, SlotsR.off h2⟩
theorem SlotsR.putBack {s : S} {ov : Option V} {f' : List Addr} (hs : SlotR K Rg H s ov f') : ∀ {δ : Sl} {σ : L2.St} {fp : List Addr} (i : Nat), σ[i]? = some ov → SlotsR K Rg H δ σ fp → fp.Nodup → f'.Nodup → (∀ a ∈ f', a ∉ fp) →
    ∃ fp', SlotsR K Rg H (δ.set i s) σ fp' ∧ fp'.Nodup ∧ ∀ a ∈ fp', a ∈ fp ∨ a ∈ f' := fun {δ σ fp} i ei h n n' dj => by
  have hi : i < δ.length := by rw [h.len]; exact (List.getElem?_eq_some_iff.mp ei).1
  obtain ⟨fp', q1, q2, q3⟩ := SlotsR.set hs i hi h n n' dj
  have e : σ.set i ov = σ := by
    obtain ⟨h1, h2⟩ := List.getElem?_eq_some_iff.mp ei
    rw [← h2]; exact List.set_getElem_self h1
  rw [e] at q1
  exact ⟨fp', q1, q2, q3⟩
end
section
variable {W : WX} {X : Cx} {tg : Expr} {body : List Stmt} {g1 : GS} {pos p : Pos}
theorem ds_forV {t : Tg} {i : Nat} {x : Str} (hN : X.N[i]? = some x) (hv : Vis X.env.scope x) (hp : PassesOwn (model X.prog X.w) X.A X.env X.xe) (hc : X.calm = true) (hg : PG X tg (t.g X.K)) (hb : DSs W X body g1)
    (hd : (x == ("__debug__" : Str)) = false := by decide) (hcd : (x == ("__classdict__" : Str)) = false := by decide)
    (hs : ∀ y, foldedSetIterable (.Name x p) X.env y = pure y := by intro _; rfl) : DS W X (.For tg (.Name x p) body [] pos) (gForV t i g1) := by
  refine PS.imp (ps_for hp hc (pi_seq (pe_var hN hv hd hcd)) hg hb hs) fun D σ H ⟨B, Rg, δ, S0, w⟩ => ?_
  -- nothing of the slots changes
  have fin : ∀ {J : It} {G : Hp} {xs : List P}, Same G H → (∀ b, G b ≠ none → Fast H b ∨ B b ≠ none) → Runs X.K G J xs → (gForL t g1 xs δ).wp (postF X.K B Rg D) (postE (dc X W) B Rg) →
      ∃ W1 : Nat → Nat → L2.St → Hp → Prop, (∃ m, W1 0 m σ H) ∧ ∀ i m σ H, W1 i m σ H → (J.stop i H ∧ D.nx σ H) ∨
        (J.go i H ∧ ∃ N : L2.St → Hp → Prop, (∀ σ' H', N σ' H' → ∃ m', m' < m ∧ W1 (i + 1) m' σ' H') ∧ ∀ x H', J.yld i H x H' → t.g X.K x σ H' fun σ2 H2 => tDS (dc X W) g1 { nx := N, rt := D.rt, ct := N, bk := D.nx } σ2 H2) := by
    intro J G xs g1' g2 g3 w
    obtain ⟨B', b1, b2, S1⟩ := S0.hold (Same.refl H) g1' (fun a ha => .inr (g2 a ha))
    exact loop_core (c := dc X W) b2 g3 S1 (Rn.wp_mono w (fun fl q => postF_hold b1 S0.sub q) fun cl δ q => postE_hold b1 S0.sub q)
  have ofWalk : ∀ {J : It} {xs : List P}, Walk X.K (fun _ => some (.lst [])) H J xs → ∃ G, Same G H ∧ (∀ b, G b ≠ none → Fast H b ∨ B b ≠ none) ∧ Runs X.K G J xs := fun wk => by
    obtain ⟨G, z1, z2, z3⟩ := wk.ex
    exact ⟨G, z1, fun b hb => .inl ((z2 b hb).resolve_left fun z => nomatch z), z3⟩
  have plain : ∀ {x : P} {v : V} {xs : List P}, RepP X.K H x v → (R.own (.p x)).items = some xs → (gForL t g1 xs δ).wp (postF X.K B Rg D) (postE (dc X W) B Rg) → σ[i]? = some (some v) →
      tFor (iSeq X.K (tVar i)) (t.g X.K) (tDS (dc X W) g1) D σ H := by
    intro x v xs r ei w e1
    refine ⟨v, e1, ?_⟩
    unfold R.items at ei
    split at ei
    · rename_i e0; cases e0
      obtain rfl := Option.some.inj ei
      obtain ⟨a, vs, rfl, qa, ra⟩ := r
      obtain ⟨G, z1, z2, z3⟩ := ofWalk (.tup qa ra)
      exact .inr (.inl ⟨a, rfl, ⟨vs, qa⟩, fin z1 z2 z3 w⟩)
    · rename_i e0; cases e0
    · rename_i z e0; cases e0
      obtain rfl := Option.some.inj ei
      obtain rfl : v = .str z := r
      obtain ⟨G, z1, z2, z3⟩ := ofWalk (.str z)
      exact .inr (.inr ⟨z, rfl, fin z1 z2 z3 w⟩)
    · rename_i e0; cases e0
    · rename_i e0; cases e0
    · cases ei
  unfold gForV at w
  split at w
  · rename_i xs es
    split at w
    · rename_i nb
      obtain ⟨bs, bu, fp, q, n, f⟩ := S0
      obtain ⟨v, f1, e1, rd, sub, fp', q1, q2, q3⟩ := SlotsR.lend (i := i) i q n nb es
      have fB : ∀ a ∈ f1, B a = none := fun a ha => f a (sub a ha)
      -- B with the list
      have S1 : SRel X.K (fun b => if b ∈ f1 then H b else B b) (lendRg Rg i (onlyH H f1)) σ H (δ.set i (.bor (some i) (.lst xs))) := by
        refine ⟨fun b o e => ?_, fun tt b o e => ?_, fp', q1, q2, fun b hb => ?_⟩
        · have e' : (if b ∈ f1 then H b else B b) = some o := e
          split at e'
          · exact e'
          · exact bs b o e'
        · show (if b ∈ f1 then H b else B b) = some o
          have e' : (if tt = some i then onlyH H f1 else Rg tt) b = some o := e
          split at e'
          · unfold onlyH at e'
            split at e'
            · rename_i hm; rw [if_pos hm]; exact e'
            · cases e'
          · have z := bu tt b o e'
            split
            · rename_i hm; rw [fB b hm] at z; cases z
            · exact z
        · show (if b ∈ f1 then H b else B b) = none
          rw [if_neg (q3 b hb).2]
          exact f b (q3 b hb).1
      have bB : Same B (fun b => if b ∈ f1 then H b else B b) := fun b o e => by
        show (if b ∈ f1 then H b else B b) = some o
        split
        · exact bs b o e
        · exact e
      obtain ⟨a, vs, rfl, qa, rfl, ra⟩ := rd
      obtain ⟨G, z1, z2, z3⟩ := runs_list (K := X.K) qa ra
      obtain ⟨B', b1, b2, S2⟩ := S1.hold (Same.refl H) z1 (fun b hb => .inr ((z2 b hb).elim (fun e => .inr (by
        subst e
        show (if b ∈ [b] then H b else B b) ≠ none
        rw [if_pos (by simp), qa]; exact fun z => nomatch z)) .inl))
      have back : ∀ {σ' : L2.St} {H' : Hp} {δ' : Sl}, SRel X.K B' (lendRg Rg i (onlyH H [a])) σ' H' δ' → SRel X.K B Rg σ' H' (outV i δ') := by
        intro σ' H' δ' S3
        obtain ⟨cs, cu, gp, p1, p2, p3⟩ := S3
        have BB : Same B B' := bB.trans b1
        have p1' := p1.off
        unfold outV
        split
        · rename_i j ys ej
          split
          · rename_i hj
            subst hj
            obtain ⟨ov, gf, w1, w2, _⟩ := p1.get ej
            obtain ⟨_, u, g, rfl, rg, hg⟩ := w2
            obtain ⟨a', us, rfl, qa', rfl, ra'⟩ := rg
            have ha' : (if (some j : Option Nat) = some j then onlyH H [a] else Rg (some j)) a' ≠ none := hg a' (by simp)
            rw [if_pos rfl] at ha'
            unfold onlyH at ha'
            split at ha'
            · rename_i hm
              obtain rfl : a' = a := by simpa using hm
              have nB : B a' = none := fB a' (by simp)
              obtain ⟨fp2, r1, r2, r3⟩ := SlotsR.putBack (s := .own (.lst ys)) (f' := [a']) ⟨_, rfl, a', us, rfl, qa', rfl, ra'⟩ j w1 p1' p2 (by simp) (fun b hb hc => by
                obtain rfl : b = a' := by simpa using hb
                have := p3 b hc
                have z : B' b = some (.lst vs) := b1 b _ (by show (if b ∈ [b] then H b else B b) = _; rw [if_pos (by simp)]; exact qa)
                rw [this] at z; cases z)
              refine ⟨BB.trans cs, bu, fp2, r1, r2, fun b hb => ?_⟩
              rcases r3 b hb with z | z
              · exact BB.free (p3 b z)
              · obtain rfl : b = a' := by simpa using z
                exact nB
            · exact absurd rfl ha'
          · exact ⟨BB.trans cs, bu, gp, p1', p2, fun b hb => BB.free (p3 b hb)⟩
        · exact ⟨BB.trans cs, bu, gp, p1', p2, fun b hb => BB.free (p3 b hb)⟩
      refine ⟨_, e1, .inl ⟨a, rfl, ⟨vs, SqL.of qa⟩, ?_⟩⟩
      refine loop_core (c := dc X W) b2 z3 S2 (Rn.wp_mono (Rn.wp_outS w) (fun fl q => ?_) fun cl δ q C σ' H' e S => q C σ' H' e (back S))
      cases fl with
      | nx δ' => exact fun σ' H' S => q σ' H' (back S)
      | bk δ' => exact fun σ' H' S => q σ' H' (back S)
      | ct δ' => exact fun σ' H' S => q σ' H' (back S)
      | ret d => exact fun v H' s ⟨fp, r, n, f⟩ => q v H' ((bB.trans b1).trans s) ⟨fp, r, n, fun a ha => (bB.trans b1).free (f a ha)⟩
    · exact w.elim
  · rename_i x es
    split at w
    · rename_i xs ex
      obtain ⟨v, g, e1, r⟩ := S0.slot es (.inl rfl)
      exact plain r.1 ex w e1
    · exact w.elim
  · rename_i tt x es
    split at w
    · rename_i xs ex
      obtain ⟨v, g, e1, r⟩ := S0.slot es (.inr ⟨tt, rfl⟩)
      exact plain r.1 ex w e1
    · exact w.elim
  · rename_i tt xs es
    obtain ⟨bs, bu, fp, q, n, f⟩ := id S0
    obtain ⟨ov, f1, e1, r, _⟩ := q.get es
    obtain ⟨_, v, g, rfl, rd, hg⟩ := r
    obtain ⟨a, vs, rfl, qa, rfl, ra⟩ := rd
    obtain ⟨G, z1, z2, z3⟩ := runs_list (K := X.K) qa ra
    refine ⟨_, e1, .inl ⟨a, rfl, ⟨vs, SqL.of qa⟩, fin z1 (fun b hb => (z2 b hb).elim (fun e => .inr ?_) .inl) z3 w⟩⟩
    subst e
    cases z : Rg tt b with
    | none => exact absurd z (hg b (by simp))
    | some o => rw [bu tt b o z]; exact fun z => nomatch z
  · exact w.elim
end
end DL
/-! DLo: the draws of a law: what _law_begin and _law_take promise, the list of draws hidden. -/
namespace DL
open PySem PySem.Spec PyProof.Rows L2
theorem iteTT {c : Bool} {A B : Prop} (hc : c = true) (h : A) : if c = true then A else B := by rw [if_pos hc]; exact h
theorem iteFF {c : Bool} {A B : Prop} (hc : c = false) (h : B) : if c = true then A else B := by rw [hc, if_neg (by decide)]; exact h
section
variable {P : Program} {w : World} {K : PySem.W.Frag} {mg : Str → Option Value} {base : Heap} {H : Hp} {h : Heap} {a s : Addr}
theorem hok_swap {o o' : HO} (ok : HOk P w H h) (ea : H a = some o) (n1 : ∀ x, o ≠ .own x) (n2 : ∀ xs, o ≠ .tup xs) (new : ObjOk P w (upd H a o') h a o') : HOk P w (upd H a o') h := fun b u e => by
  by_cases hb : b = a
  · subst hb; rw [upd_same] at e; cases e; exact new
  · rw [upd_ne hb] at e
    refine (ok b u e).stay (fun c v _ q => q) (fun c q => ?_) fun c xs q => ?_
    · rw [upd_ne (fun z => by subst z; rw [ea] at q; exact n1 _ (Option.some.inj q))]; exact q
    · rw [upd_ne (fun z => by subst z; rw [ea] at q; exact n2 _ (Option.some.inj q))]; exact q
theorem orc_hide {i b z : Int} (ok : HOk P w H h) (ea : H a = some (.lst [.ref s, .int i, .int b, .int z])) (hi : 0 ≤ i) (hb : 0 ≤ b) (hz : 0 ≤ z) (hz2 : z < 2147483647) : HOk P w (upd H a (.ext (OrcAt a s))) h := by
  obtain ⟨_, its, n, r, e⟩ := ok a _ ea
  refine hok_swap ok ea (fun _ z => by cases z) (fun _ z => by cases z) ?_
  cases r with
  | cons r1 r =>
    cases r with
    | cons r2 r =>
      cases r with
      | cons r3 r =>
        cases r with
        | cons r4 r =>
          cases r
          obtain rfl := (r1 : _ = Value.ref s)
          obtain ⟨t2, rfl⟩ := r2
          obtain ⟨t3, rfl⟩ := r3
          obtain ⟨t4, rfl⟩ := r4
          refine ⟨⟨i, b, z, t2, t3, t4, n, e, hi, hb, hz, hz2⟩, ⟨_, e⟩, fun h1 h2 ⟨i, b, z, t2, t3, t4, n, e, q⟩ k => ⟨i, b, z, t2, t3, t4, n, k _ e, q⟩⟩
theorem orc_show (ok : HOk P w H h) (ea : H a = some (.ext (OrcAt a s))) : ∃ i b z : Int, HOk P w (upd H a (.lst [.ref s, .int i, .int b, .int z])) h ∧ 0 ≤ i ∧ 0 ≤ b ∧ 0 ≤ z ∧ z < 2147483647 := by
  obtain ⟨⟨i, b, z, t2, t3, t4, n, e, q⟩, _⟩ := ok a _ ea
  refine ⟨i, b, z, hok_swap ok ea (fun _ z => by cases z) (fun _ z => by cases z) ?_, q⟩
  exact ⟨by rw [sizeLine_eq]; show 4 ≤ 16777216; decide, _, n, .cons rfl (.cons ⟨t2, rfl⟩ (.cons ⟨t3, rfl⟩ (.cons ⟨t4, rfl⟩ .nil))), e⟩
/-- the draws' list as a list of values: _law_take -/
def spTakeL : Sp := fun vs H Q _ => ∃ (a s : Addr) (i b z many : Int) (ns : List Int), vs = [.ref a, .int many] ∧ H a = some (.lst [.ref s, .int i, .int b, .int z]) ∧ H s = some (.lst (ns.map V.int)) ∧
  0 < many ∧ many.natAbs.log2 < 9000 ∧ 0 ≤ i ∧ 0 ≤ b ∧ 0 ≤ z ∧ z < 2147483647 ∧
  ∀ r i' b' z' : Int, 0 ≤ r → r < many → 0 ≤ i' → 0 ≤ b' → 0 ≤ z' → z' < 2147483647 → Q (.int r) (upd H a (.lst [.ref s, .int i', .int b', .int z']))
/-- _law_begin -/
def spBegL (K : PySem.W.Frag) : Sp := fun vs H Q _ => ∃ (p : Addr) (ns : List Int), vs = [.ref p] ∧ ns.length ≤ 63 ∧ SqL K H p (ns.map V.int) ∧
  ∀ (a s : Addr) (z : Int) (H' : Hp), Same H H' → H a = none → H s = none → a ≠ s → H' a = some (.lst [.ref s, .int 0, .int 0, .int z]) → H' s = some (.lst (ns.map V.int)) → 0 ≤ z → z < 2147483647 → Q (.ref a) H'
/-- a draw -/
def takeF : Fn
  | [.orc, .p (.int n)] => if 0 < n ∧ n.natAbs.log2 < 9000 then .pick n.toNat fun i => .ok (.p (.int (i : Int))) else .bad
  | _ => .bad
def beginF : Fn
  | [.scr ns] => if ns.length ≤ 63 then .ok .orc else .bad
  | _ => .bad
theorem take_hide {k : Nat} {f : Addr} {fd : FuncData} {ps : List Str} (F : FnOk P w K mg base CX0 k f fd ps spTakeL) (hp : ps.length = 2) : FnOk P w K mg base (L2.CX P w) k f fd ps (spD K mg 2 takeF) := by
  refine ⟨fun vs H Q E ⟨ds, hl, lk, _⟩ => by rw [lk.len, hl, hp], fun A outer st H args us vs Q E hr e0 hb r ⟨ds, hl, lk, wpv⟩ => ?_⟩
  unfold takeF at wpv
  split at wpv
  · rename_i n
    split at wpv
    · rename_i hn
      obtain ⟨v, u, fp, gp, rfl, r1, r2⟩ := lk.two
      obtain ⟨a, s, ns, rfl, _, ea, es⟩ := r1
      obtain rfl : u = .int n := r2.1
      obtain ⟨i, b, z, ok1, hi, hb', hz, hz2⟩ := orc_show e0.hok ea
      have ne : ∀ {c : Addr}, H c = none → c ≠ a := fun q z => by subst z; rw [ea] at q; cases q
      have nes : s ≠ a := fun z => by subst z; rw [es] at ea; cases ea
      have e1 : Env0 P w K mg base A outer st (upd H a (.lst [.ref s, .int i, .int b, .int z])) := ⟨e0.frames, e0.mod, fun c o q => ⟨(e0.bs c o q).1, by rw [upd_ne (ne (e0.bs c o q).2)]; exact (e0.bs c o q).2⟩, e0.bsz, e0.funs,
        fun c hc => by rw [upd_ne (ne (e0.frf c hc))]; exact e0.frf c hc, ok1, e0.bare⟩
      refine codeAny_mono (F.run A outer st _ args us _ (fun v H2 => ∃ r i' b' z' : Int, v = .int r ∧ 0 ≤ r ∧ r < n ∧ 0 ≤ i' ∧ 0 ≤ b' ∧ 0 ≤ z' ∧ z' < 2147483647 ∧ H2 = upd (upd H a (.lst [.ref s, .int i, .int b, .int z])) a (.lst [.ref s, .int i', .int b', .int z'])) (fun _ _ _ => False) hr e1 hb r
        ⟨a, s, i, b, z, n, ns, rfl, upd_same, by rw [upd_ne nes]; exact es, hn.1, hn.2, hi, hb', hz, hz2, fun r i' b' z' h1 h2 h3 h4 h5 h6 => ⟨r, i', b', z', rfl, h1, h2, h3, h4, h5, h6, rfl⟩⟩) fun res s' hq => ?_
      cases res with
      | error e => exact False.elim hq
      | ok fl =>
        cases fl with
        | next => exact False.elim hq
        | brk => exact False.elim hq
        | cont => exact False.elim hq
        | ret u =>
          obtain ⟨v, H2, os, bare, un, hok, rv, r, i', b', z', rfl, h1, h2, h3, h4, h5, h6, rfl⟩ := hq
          have back : upd (upd (upd H a (.lst [.ref s, .int i, .int b, .int z])) a (.lst [.ref s, .int i', .int b', .int z'])) a (.ext (OrcAt a s)) = H := by
            rw [upd_upd, upd_upd]
            funext c
            by_cases hc : c = a
            · subst hc; rw [upd_same, ea]
            · rw [upd_ne hc]
          have hok2 := orc_hide hok upd_same h3 h4 h5 h6
          rw [back] at hok2
          refine ⟨.int r, H, os, bare, ⟨fun c o e n hx he => un.keep c o e (by rw [upd_ne (ne n)]; exact n) hx he, fun c o e n hx he => un.slot c o e (by rw [upd_ne (ne n)]; exact n) hx he, fun c o e n he => n, un.there, fun c xs q => q, fun c o u q => q, fun c ps q => ⟨#[], by rw [q]; simp⟩⟩, hok2, rv, ?_⟩
          have := wpv r.toNat (by omega)
          dsimp only [Rn.wp] at this
          rw [show ((r.toNat : Nat) : Int) = r by omega] at this
          exact this (.int r) H (Same.refl H) ⟨[], ⟨rfl, rfl⟩, List.nodup_nil, fun _ z => nomatch z⟩
    · exact wpv.elim
  · exact wpv.elim
theorem begin_hide {k : Nat} {f : Addr} {fd : FuncData} {ps : List Str} (F : FnOk P w K mg base CX0 k f fd ps (spBegL K)) (hp : ps.length = 1) : FnOk P w K mg base (L2.CX P w) k f fd ps (spD K mg 1 beginF) := by
  refine ⟨fun vs H Q E ⟨ds, hl, lk, _⟩ => by rw [lk.len, hl, hp], fun A outer st H args us vs Q E hr e0 hb r ⟨ds, hl, lk, wpv⟩ => ?_⟩
  unfold beginF at wpv
  split at wpv
  · rename_i ns
    split at wpv
    · rename_i hn
      obtain ⟨v, fp, rfl, r1⟩ := lk.one
      obtain ⟨_, p, rfl, hp'⟩ := r1
      have sq : SqL K H p (ns.map V.int) := hp'.elim (fun ⟨o, q⟩ => .inl (.inr ⟨o, q⟩)) .inr
      refine codeAny_mono (F.run A outer st H args us _ (fun v H2 => ∃ (a s : Addr) (z : Int), v = .ref a ∧ Same H H2 ∧ H a = none ∧ H s = none ∧ a ≠ s ∧ H2 a = some (.lst [.ref s, .int 0, .int 0, .int z]) ∧ H2 s = some (.lst (ns.map V.int)) ∧ 0 ≤ z ∧ z < 2147483647) (fun _ _ _ => False) hr e0 hb r
        ⟨p, ns, rfl, hn, sq, fun a s z H' h1 h2 h3 h4 h5 h6 h7 h8 => ⟨a, s, z, rfl, h1, h2, h3, h4, h5, h6, h7, h8⟩⟩) fun res s' hq => ?_
      cases res with
      | error e => exact False.elim hq
      | ok fl =>
        cases fl with
        | next => exact False.elim hq
        | brk => exact False.elim hq
        | cont => exact False.elim hq
        | ret u =>
          obtain ⟨v, H2, os, bare, un, hok, rv, a, s, z, rfl, sm, na, ns', nas, ea, es, hz, hz2⟩ := hq
          have ne : ∀ {c : Addr} {o : Option HO}, H2 c = o → o ≠ some (.lst [.ref s, .int 0, .int 0, .int z]) → c ≠ a := fun q d z => by subst z; rw [ea] at q; exact d q.symm
          refine ⟨.ref a, upd H2 a (.ext (OrcAt a s)), os, bare, ⟨un.keep, un.slot, fun c o e n he => ?_, un.there, fun c xs q => ?_, fun c o u q => ?_, fun c ps q => ?_⟩, orc_hide hok ea (by omega) (by omega) hz hz2, rv, ?_⟩
          · have q := un.free c o e n he
            rw [upd_ne (ne q (fun z => nomatch z))]; exact q
          · have q := un.tups c xs q
            rw [upd_ne (ne q (fun z => by cases z))]; exact q
          · have q := un.frzs c o u q
            rw [upd_ne (ne q (fun z => by cases z))]; exact q
          · obtain ⟨more, q⟩ := un.tbls c ps q
            exact ⟨more, by rw [upd_ne (ne q (fun z => by cases z))]; exact q⟩
          · have sm2 : Same H (upd H2 a (.ext (OrcAt a s))) := fun c o e => by
              rw [upd_ne (fun z => by subst z; rw [na] at e; cases e)]; exact sm c o e
            refine wpv (.ref a) _ sm2 ⟨[a, s], ⟨a, s, ns, rfl, rfl, upd_same, by rw [upd_ne nas.symm]; exact es⟩, by simp [nas], fun c hc => ?_⟩
            rcases List.mem_cons.mp hc with rfl | hc
            · exact na
            · obtain rfl : c = s := by simpa using hc
              exact ns'
    · exact wpv.elim
  · exact wpv.elim
/-! ### reading -/
theorem rd_ix {σ : L2.St} {Q : VK} {xs : List V} {i : Int} {v : V} (h0 : σ[0]? = some (some (.ref a))) (hH : H a = some (.lst xs)) (e : atI xs i = some v) (q : Q v H) :
    tOp (rIxL K) (tVar 0) (tC (.int i)) σ H Q := ⟨_, h0, a, xs, i, v, rfl, rfl, SqL.of hH, e, q⟩
end
end DL
/-! DLp: short words for the printer. -/
namespace DL
open PySem PySem.Spec PyProof.Rows L2
/-- a def as the top leaves it -/
structure DefT (K : PySem.W.Frag) (mg : Str → Option Value) (x : Str) (st : Stmt) (ps : List Str) : Prop where
  ex : ∃ (a : Addr) (fd : FuncData), mg x = some (.ref a) ∧ Fun K x x st a fd ∧ Binds K fd ps []
/-- a class that a clause names -/
structure CatchC (K : PySem.W.Frag) (mg : Str → Option Value) (x : Str) (sub : Str → Option Bool) : Prop where
  ex : ∃ C, mg x = some (.ref C) ∧ ErrT K mg (.ref C) sub
section
variable {P : Program} {w : World} {K : PySem.W.Frag} {mg : Str → Option Value} {base : Heap}
theorem fd_of {x : Str} {st : Stmt} {ps : List Str} {k : Nat} {f : Fn} (T : DefT K mg x st ps) (h : ∀ (a : Addr) (fd : FuncData), Fun K x x st a fd → FnOk P w K mg base (L2.CX P w) k a fd ps (spD K mg ps.length f)) : FD P w K mg base k x ps.length f := by
  obtain ⟨a, fd, e, F, b⟩ := T.ex
  exact ⟨a, fd, ps, e, F.2, b, h a fd F⟩
theorem FD.mono {x : Str} {j k n : Nat} {f : Fn} (F : FD P w K mg base j x n f) (h : j ≤ k) : FD P w K mg base k x n f := by
  obtain ⟨a, fd, ps, e, kp, b, g⟩ := F.ex
  exact ⟨a, fd, ps, e, kp, b, g.mono h⟩
end
section
variable {W : WX} {X : Cx} {a b c e tg iter : Expr} {es : List Expr} {ga gb gc : GE} {gs : GA} {gt : GT} {gi : GI} {g1 g2 : GS} {st : Stmt} {sts body : List Stmt} {pos p p2 : Pos}
theorem dv (i : Nat) {x : Str} (hN : X.N[i]? = some x := by rfl) (hv : Vis X.env.scope x := by first | exact Or.inl rfl | exact Or.inr (Or.inl rfl) | exact Or.inr (Or.inr rfl)) (hd : (x == ("__debug__" : Str)) = false := by decide) (hcd : (x == ("__classdict__" : Str)) = false := by decide) : DE W X (.Name x pos) (gVar i) := de_var hN hv hd hcd
theorem op_eqA (hu : X.A.units + 64 < cLine) : OpR X (compareOp .Eq) (rEqA X.K) := op_eq.or (op_eqD hu)
theorem op_neA (hu : X.A.units + 64 < cLine) : OpR X (compareOp .NotEq) (rNeA X.K) := op_ne.or (op_neD hu)
theorem hu64 {A : Around} {k : Nat} (hr : Room k A) : A.units + 64 < cLine := Nat.lt_of_le_of_lt (Nat.add_le_add_left (by omega) _) hr.units
theorem ds_tryC {x n : Str} {b₀ : Stmt} {suite : List Stmt} {np pos' : Pos} {sub : Str → Option Bool} {i : Nat} {gsu : Str → GS} (cc : CatchC X.K X.mg x sub) (hs : X.stack = X.env :: X.outer) (hf : X.env.frame = some X.env.locals) (hcal : X.calm = true) (hN : X.N.Nodup) (tk : Takes X W)
    (hb : ∀ (W' : WX) (pn : List (Addr × Obj)) (xe : Value → Shared → Prop), Takes (X.tr pn xe) W' → PassesOwn (model X.prog X.w) X.A X.env xe → DSs W' (X.tr pn xe) body g1)
    (hsu : ∀ (cl : Str) (C a : Addr) (oe : Obj) (pn : List (Addr × Obj)), X.mg cl = some (.ref C) → Zc (.ref C) none oe → (∃ vs, oe.data = .fields vs) → DSs W0 (X.suite a ((a, oe) :: pn)) (b₀ :: suite) (gsu cl))
    (hi : X.N[i]? = some n := by rfl) (hln : X.env.kindOf n = some .local := by rfl) (hg : Gl X x := by rfl) (hdb : (x == ("__debug__" : Str)) = false := by decide) :
    DS W X (.Try body [.ExceptHandler (some (.Name x np)) (some n) (b₀ :: suite) pos'] [] [] pos) (gTry sub i g1 gsu) := by
  obtain ⟨C, hC, et⟩ := cc.ex
  exact ds_tryAs hs hf hcal hN hi hln ⟨hg, hdb, .inl hC⟩ et tk hb hsu
/-- the table of a class -/
def tabS (t : List (Str × Bool)) : Str → Option Bool := fun c => t.lookup c
theorem tab_mem : ∀ {t : List (Str × Bool)} {c : Str} {b : Bool}, tabS t c = some b → (c, b) ∈ t := by
  intro t
  induction t with
  | nil => intro c b h; cases h
  | cons p t ih =>
    intro c b h
    obtain ⟨x, v⟩ := p
    unfold tabS at h
    rw [List.lookup_cons] at h
    split at h
    · rename_i e
      have e' : c = x := by simpa using e
      have h' : v = b := Option.some.inj h
      rw [e', h']
      exact List.mem_cons_self
    · exact List.mem_cons_of_mem _ (ih h)
end
/-! ### what the top tells -/
section
variable {K : PySem.W.Frag} {mg : Str → Option Value}
/-- a class of errors as the top leaves it -/
structure ClsT (K : PySem.W.Frag) (mg : Str → Option Value) (x : Str) (C : Addr) : Prop where
  mg : mg x = some (.ref C)
  ex : PySem.W.excIn K C [.type "ValueError", .type "Exception", .type "BaseException", .type "object"] "ValueError.__new__" = true
  kp : PySem.W.keepIn K (.ref C) = true
  hs : PySem.W.subIn K (.ref C) (.type "BaseException") = some true
  ty : PySem.W.typeIn K (.ref C) = some (.type "type")
  hg : PySem.W.findIn K (.ref C) "__getattribute__" = some (some (.builtin "BaseException.__getattribute__"))
  hk : PySem.W.findIn K (.ref C) "__getattr__" = some none
  hd : PySem.W.hasDictIn K C = true
  ha : PySem.W.findIn K (.ref C) "__class__" = some (some (.builtin "object.__class__"))
  hm : PySem.W.mroIn K C (.type "object") = some true
theorem ClsT.err {x : Str} {C : Addr} (T : ClsT K mg x C) : ErrC K mg x := ⟨C, T.mg, T.ex, T.kp, T.hs, T.ty⟩
structure ObjT (K : PySem.W.Frag) : Prop where
  hn : PySem.W.specialIn K (.builtin "object.__class__") "__get__" = some (some (.builtin "getset_descriptor.__get__"))
  ht : PySem.W.takesIn K (.builtin "object.__class__") = some true
theorem ClsT.excC {x : Str} {C : Addr} (T : ClsT K mg x C) (O : ObjT K) : ExcC K C := ⟨T.hg, T.hk, T.hs, T.hd, T.ha, O.hn, O.ht, T.hm⟩
/-- which classes are kinds of the class at C -/
inductive SubT (K : PySem.W.Frag) (mg : Str → Option Value) (C : Addr) : List (Str × Bool) → Prop
  | nil : SubT K mg C []
  | cons {x : Str} {D : Addr} {b : Bool} {t : List (Str × Bool)} (T : ClsT K mg x D) (h : PySem.W.subIn K (.ref D) (.ref C) = some b) (r : SubT K mg C t) : SubT K mg C ((x, b) :: t)
theorem SubT.get {C : Addr} : ∀ {t : List (Str × Bool)} {x : Str} {b : Bool}, SubT K mg C t → (x, b) ∈ t → ∃ D, ClsT K mg x D ∧ PySem.W.subIn K (.ref D) (.ref C) = some b
  | _, _, _, .nil, h => by cases h
  | _, x, b, .cons T h r, hm => by
    rcases List.mem_cons.mp hm with e | e
    · cases e; exact ⟨_, T, h⟩
    · exact SubT.get r e
theorem catch_of {x : Str} {C : Addr} {t : List (Str × Bool)} (T : ClsT K mg x C) (S : SubT K mg C t) : CatchC K mg x (tabS t) := by
  refine ⟨C, T.mg, fun c b D e hm => ?_⟩
  obtain ⟨D', T', h⟩ := S.get (tab_mem e)
  have : D' = D := by have := T'.mg.symm.trans hm; exact Value.ref.inj (Option.some.inj this)
  subst this
  exact PySem.W.exm_ref T.hs T.hd T.ty h
theorem kit_ref {C D : Addr} {b : Bool} (hd : PySem.W.hasDictIn K C = true) (ht : PySem.W.typeIn K (.ref C) = some (.type "type")) (h : PySem.W.subIn K (.ref D) (.ref C) = some b) (he : D = C → b = true) : PySem.W.kitOne K (.ref D) (.ref C) = some b := by
  unfold PySem.W.kitOne
  by_cases e : (Value.ref D == Value.ref C) = true
  · rw [if_pos e]
    have := Value.ref.inj (beq_iff_eq.mp e)
    rw [he this]
  · rw [if_neg e]
    obtain ⟨cd, hc, _⟩ := PySem.W.any_some hd
    show (if ((PySem.W.clsIn K C).isSome && PySem.W.typeIn K (.ref C) == some (.type "type")) = true then PySem.W.subIn K (.ref D) (.ref C) else none) = some b
    rw [hc, ht]
    exact h
theorem isT_of {x : Str} {C : Addr} {t : List (Str × Bool)} (T : ClsT K mg x C) (O : ObjT K) (S : SubT K mg C t) (hx : (x, true) ∈ t) (hself : PySem.W.subIn K (.ref C) (.ref C) = some true) : IsT K mg x (tabS t) := by
  refine ⟨C, T.mg, fun c b D e hm => ?_⟩
  obtain ⟨D', T', h⟩ := S.get (tab_mem e)
  have : D' = D := by have := T'.mg.symm.trans hm; exact Value.ref.inj (Option.some.inj this)
  subst this
  refine ⟨T'.excC O, kit_ref T.hd T.ty h fun e => ?_⟩
  subst e
  rw [hself] at h
  exact (Option.some.inj h).symm
/-- a constant of the top stands for plain data -/
inductive RepK (K : PySem.W.Frag) : Value → P → Prop
  | non : RepK K .none .non
  | bl (b : Bool) : RepK K (.bool b) (.bl b)
  | int {i : Int} {t : Tok} : RepK K (.int i t) (.int i)
  | str {x : Str} {t : Tok} : RepK K (.str x t) (.str x)
  | tup {a : Addr} {od : Option Addr} {its : List Value} {n : Nat} {sl : Array (Option Value)} {xs : List P} (l : K.lookup a = some ⟨.type "tuple", od, .seq its.toArray n, sl⟩) (hz : its.length ≤ 1000) (h : PySem.Paired (RepK K) its xs) : RepK K (.ref a) (.tup xs)
mutual
theorem RepK.ok : ∀ {u : Value} {p : P}, RepK K u p → ∃ v, RelV v u ∧ ∀ H, RepP K H p v
  | _, _, .non => ⟨.non, rfl, fun _ => rfl⟩
  | _, _, .bl b => ⟨.bl b, rfl, fun _ => rfl⟩
  | _, _, .int (i := i) (t := t) => ⟨.int i, ⟨t, rfl⟩, fun _ => rfl⟩
  | _, _, .str (x := x) (t := t) => ⟨.str x, ⟨t, rfl⟩, fun _ => rfl⟩
  | _, _, .tup (a := a) (its := its) (n := n) l hz h => by
    obtain ⟨vs, r, q⟩ := RepK.oks h
    exact ⟨.ref a, rfl, fun H => ⟨a, vs, rfl, .inr ⟨_, its.toArray, n, l, rfl, rfl, by rw [sizeLine_eq]; simp; omega, by simpa using r⟩, q H⟩⟩
theorem RepK.oks : ∀ {us : List Value} {ps : List P}, PySem.Paired (RepK K) us ps → ∃ vs, Vals vs us ∧ ∀ H, RepPs K H ps vs
  | _, _, .nil => ⟨[], .nil, fun _ => rfl⟩
  | _, _, .cons h t => by
    obtain ⟨v, r, q⟩ := RepK.ok h
    obtain ⟨vs, r', q'⟩ := RepK.oks t
    exact ⟨v :: vs, .cons r r', fun H => ⟨v, vs, rfl, q H, q' H⟩⟩
end
theorem gc_of {x : Str} {u : Value} {p : P} (e : mg x = some u) (h : RepK K u p) : GC K mg x p := by
  obtain ⟨v, r, q⟩ := h.ok
  exact ⟨u, v, e, r, q⟩
end
end DL
/-! DLq: the law's own head. -/
namespace DL
open PySem PySem.Spec PyProof.Rows L2
theorem tk0 {X : Cx} : Takes X W0 := fun _ _ ⟨_, _, _, _, _, _, _, _, _, _, _, _, _, _, _, _, w⟩ => w.elim
theorem cx_never {P : Program} {w : World} {H : Hp} {s : Shared} {e : Value} {s' : Shared} (h : L2.CX P w [] H s (fun _ _ _ => False) e s') : False := by
  obtain ⟨_, _, _, _, _, _, _, _, _, _, _, _, h⟩ := h
  exact h
/-- the promise of a law that raises nothing -/
def spAny (f : Fn) (K : PySem.W.Frag) : Sp := fun vs H Q E => ∃ ds : List D, ds.length = 1 ∧ LookL K H ds vs ∧ (f ds).wp (fun d => postR K H d Q) fun _ _ => False
theorem spAny_of {P : Program} {w : World} {K : PySem.W.Frag} {mg : Str → Option Value} {k : Nat} {fa : Addr} {f : Fn} {x : Str} {Z : Heap → Prop}
    (h : ∃ fd : FuncData, (∀ (s : Shared) (v : Value), BindsTo s fd ⟨[v], []⟩ [(x, v)]) ∧ ∀ base : Heap, K.In base → Z base → FnOk P w K mg base (L2.CX P w) k fa fd [x] (spD K mg 1 f)) :
    ∃ fd : FuncData, (∀ (s : Shared) (v : Value), BindsTo s fd ⟨[v], []⟩ [(x, v)]) ∧ ∀ base : Heap, K.In base → Z base → FnOk P w K mg base (L2.CX P w) k fa fd [x] (spAny f K) := by
  obtain ⟨fd, h1, h2⟩ := h
  exact ⟨fd, h1, fun base a b => (h2 base a b).imp fun vs H Q E ⟨ds, h1, h2, h3⟩ => ⟨ds, h1, h2, Rn.wp_mono h3 (fun _ q => q) fun _ _ z => z.elim⟩⟩
theorem law_sp {K : PySem.W.Frag} {H : Hp} {a : Addr} {ns : List Int} {f : Fn} (hl : ns.length ≤ 63) (hO : Only H) (hS : SqL K H a (ns.map V.int))
    (h : ∀ ns : List Int, ns.length ≤ 63 → (f [.scr ns]).wp (fun d => d = .p (.bl true)) fun _ _ => False) : spAny f K [.ref a] H (fun v _ => v = .bl true) fun _ _ _ => False := by
  have hr : RepD K H (.scr ns) (.ref a) [] := by
    refine ⟨rfl, a, rfl, ?_⟩
    rcases hS with (q | q) | q
    · rcases hO a with z | ⟨o, xs, z⟩
      · rw [z] at q; cases q
      · rw [z] at q; cases q
    · exact .inl q
    · exact .inr q
  refine ⟨[.scr ns], rfl, ⟨.ref a, [], rfl, ⟨[], hr⟩, rfl⟩, Rn.wp_mono (h ns hl) (fun d e => ?_) fun _ _ z => z⟩
  subst e
  intro v H' s r
  obtain ⟨fp, r, _⟩ := r
  have : v = .bl true := r.1
  exact this
end DL
/-! DLr: reading the mirrors. -/
namespace DL
open PySem PySem.Spec PyProof.Rows L2
section
variable {ε ε' α β : Type} {c : Prop} [Decidable c]
theorem Rn.bind_ite {a b : Rn ε α} {f : α → Rn ε β} : (if c then a else b).bind f = if c then a.bind f else b.bind f := by split <;> rfl
theorem Rn.mapErr_ite {a b : Rn ε α} {f : ε → ε'} : (if c then a else b).mapErr f = if c then a.mapErr f else b.mapErr f := by split <;> rfl
theorem Rn.wp_ite {a b : Rn ε α} {Q : α → Prop} {E : Str → ε → Prop} : (if c then a else b).wp Q E ↔ (c → a.wp Q E) ∧ (¬ c → b.wp Q E) := by
  by_cases h : c
  · rw [if_pos h]; exact ⟨fun x => ⟨fun _ => x, fun z => absurd h z⟩, fun x => x.1 h⟩
  · rw [if_neg h]; exact ⟨fun x => ⟨fun z => absurd z h, fun _ => x⟩, fun x => x.2 h⟩
theorem Rn.bind_ok {a : α} {f : α → Rn ε β} : (Rn.ok a).bind f = f a := rfl
theorem Rn.bind_err {s : Str} {e : ε} {f : α → Rn ε β} : (Rn.err s e : Rn ε α).bind f = .err s e := rfl
theorem Rn.bind_pick {n : Nat} {k : Nat → Rn ε α} {f : α → Rn ε β} : (Rn.pick n k).bind f = .pick n fun i => (k i).bind f := rfl
end
theorem tryW_ok {sub : Str → Option Bool} {i : Nat} {gsu : Str → GS} {fl : Fl} : gTryW sub i gsu (.ok fl) = .ok fl := rfl
theorem tryW_err {sub : Str → Option Bool} {i : Nat} {gsu : Str → GS} {c : Str} {δ : Sl} : gTryW sub i gsu (.err c δ) = match sub c with
    | some true => ((gsu c (δ.set i .exn)).noErrS).bind fun fl => .ok (fl.map (outEx i))
    | some false => .err c δ
    | none => .bad := rfl
theorem tryW_ite {sub : Str → Option Bool} {i : Nat} {gsu : Str → GS} {c : Prop} [Decidable c] {a b : Rn Sl Fl} : gTryW sub i gsu (if c then a else b) = if c then gTryW sub i gsu a else gTryW sub i gsu b := by split <;> rfl
theorem take_ok {n : Int} (h0 : 0 < n) (h1 : n < 2 ^ 64) : takeF [.orc, .p (.int n)] = .pick n.toNat fun i => .ok (.p (.int (i : Int))) := by
  unfold takeF
  refine if_pos ⟨h0, ?_⟩
  have h : n.natAbs < 2 ^ 64 := by omega
  by_cases hz : n.natAbs = 0
  · omega
  · have := (Nat.log2_lt hz).mpr h
    omega
theorem begin_ok {ns : List Int} (h : ns.length ≤ 63) : beginF [.scr ns] = .ok .orc := if_pos h
/-- a run keeps its wish (a wall before the reader's eyes: nothing unfolds it) -/
structure Wp {ε α : Type} (w : Rn ε α) (Q : α → Prop) (E : Str → ε → Prop) : Prop where
  r : w.wp Q E
section
variable {ε α β : Type} {Q : α → Prop} {E : Str → ε → Prop}
theorem wp_ok {a : α} : Wp (.ok a : Rn ε α) Q E ↔ Q a := ⟨fun h => h.r, fun h => ⟨h⟩⟩
theorem wp_err {c : Str} {e : ε} : Wp (.err c e : Rn ε α) Q E ↔ E c e := ⟨fun h => h.r, fun h => ⟨h⟩⟩
theorem wp_bad : Wp (.bad : Rn ε α) Q E ↔ False := ⟨fun h => h.r, fun h => h.elim⟩
theorem wp_pick {n : Nat} {k : Nat → Rn ε α} : Wp (.pick n k) Q E ↔ ∀ i, i < n → Wp (k i) Q E := ⟨fun h i hi => ⟨h.r i hi⟩, fun h => ⟨fun i hi => (h i hi).r⟩⟩
theorem wp_ite {c : Prop} [Decidable c] {a b : Rn ε α} : Wp (if c then a else b) Q E ↔ (c → Wp a Q E) ∧ (¬ c → Wp b Q E) :=
  ⟨fun h => ⟨fun x => ⟨(Rn.wp_ite.mp h.r).1 x⟩, fun x => ⟨(Rn.wp_ite.mp h.r).2 x⟩⟩, fun h => ⟨Rn.wp_ite.mpr ⟨fun x => (h.1 x).r, fun x => (h.2 x).r⟩⟩⟩
theorem wp_imp {w : Rn ε α} {Q' : α → Prop} {E' : Str → ε → Prop} (h : Wp w Q E) (k : ∀ a, Q a → Q' a) (e : ∀ c x, E c x → E' c x) : Wp w Q' E' := ⟨Rn.wp_mono h.r k e⟩
end
/-- what is wanted after a statement -/
def Nx (K : Sl → Prop) (Q : Fl → Prop) : Fl → Prop
  | .nx δ => K δ
  | fl => Q fl
/-- what is wanted after a loop's turn -/
def Tn (I : Sl → Prop) (Q : Fl → Prop) : Fl → Prop
  | .nx δ => I δ
  | .ct δ => I δ
  | .bk δ => Q (.nx δ)
  | .ret d => Q (.ret d)
def Fn.out (Q : D → Prop) : Fl → Prop
  | .ret d => Q d
  | .nx _ => Q (.p .non)
  | _ => False
section
variable {a b : GS} {δ δ' : Sl} {Q : Fl → Prop} {E : Str → Sl → Prop}
theorem seq_ok (h1 : a δ = .ok (.nx δ')) (h2 : Wp (b δ') Q E) : Wp (gSeq a b δ) Q E := ⟨by
  unfold gSeq; rw [h1]; exact h2.r⟩
theorem seq_ret {d : D} (h1 : a δ = .ok (.ret d)) (h2 : Q (.ret d)) : Wp (gSeq a b δ) Q E := ⟨by
  unfold gSeq; rw [h1]; exact h2⟩
theorem seq_wp (R : Sl → Prop) (h1 : Wp (a δ) (Nx R Q) E) (h2 : ∀ δ', R δ' → Wp (b δ') Q E) : Wp (gSeq a b δ) Q E := ⟨by
  unfold gSeq
  refine Rn.wp_bind.mpr (Rn.wp_mono h1.r (fun fl r => ?_) fun _ _ z => z)
  cases fl with
  | nx δ' => exact (h2 δ' r).r
  | bk δ' => exact r
  | ct δ' => exact r
  | ret d => exact r⟩
theorem forL_inv (I : List P → Sl → Prop) {t : Tg} {g : GS} (h : ∀ x xs δ, I (x :: xs) δ → ∃ δ1, t.set (.p x) δ = some δ1 ∧ Wp (g δ1) (Tn (I xs) Q) E) (hq : ∀ δ, I [] δ → Q (.nx δ)) : ∀ (xs : List P) (δ : Sl), I xs δ → Wp (gForL t g xs δ) Q E
  | [], δ, h0 => ⟨hq δ h0⟩
  | x :: xs, δ, h0 => ⟨by
    obtain ⟨δ1, e, w⟩ := h x xs δ h0
    unfold gForL
    rw [e]
    refine Rn.wp_bind.mpr (Rn.wp_mono w.r (fun fl r => ?_) fun _ _ z => z)
    cases fl with
    | nx δ' => exact (forL_inv I h hq xs δ' r).r
    | ct δ' => exact (forL_inv I h hq xs δ' r).r
    | bk δ' => exact r
    | ret d => exact r⟩
theorem forL_cons {t : Tg} {g : GS} {x : P} {xs : List P} {δ1 : Sl} (e : t.set (.p x) δ = some δ1) (w : g δ1 = .ok (.nx δ')) (k : Wp (gForL t g xs δ') Q E) : Wp (gForL t g (x :: xs) δ) Q E := ⟨by
  unfold gForL
  rw [e]
  show ((g δ1).bind _).wp Q E
  rw [w]
  exact k.r⟩
theorem forL_nil {t : Tg} {g : GS} (k : Q (.nx δ)) : Wp (gForL t g [] δ) Q E := ⟨k⟩
theorem for_wp {t : Tg} {gi : GI} {g : GS} {xs : List P} (e : gi δ = .ok xs) (h : Wp (gForL t g xs δ) Q E) : Wp (gFor t gi g δ) Q E := ⟨by
  unfold gFor lift; rw [e]; exact h.r⟩
theorem for_pick {t : Tg} {gi : GI} {g : GS} (R : List P → Prop) (e : Wp (gi δ) R (fun _ _ => False)) (h : ∀ xs, R xs → Wp (gForL t g xs δ) Q E) : Wp (gFor t gi g δ) Q E := ⟨by
  unfold gFor lift
  exact Rn.wp_bind.mpr (Rn.wp_mapErr.mpr (Rn.wp_mono e.r (fun xs r => (h xs r).r) fun _ _ z => z.elim))⟩
theorem if_tt {t : GT} (h : t δ = .ok true) (k : Wp (a δ) Q E) : Wp (gIfS t a b δ) Q E := ⟨by unfold gIfS lift; rw [h]; exact k.r⟩
theorem if_ff {t : GT} (h : t δ = .ok false) (k : Wp (b δ) Q E) : Wp (gIfS t a b δ) Q E := ⟨by unfold gIfS lift; rw [h]; exact k.r⟩
end
theorem fn_wp {n : Nat} {g : GS} {ds : List D} {Q : D → Prop} {E : Str → Unit → Prop} (h : Wp (g (startS n ds)) (Fn.out Q) (fun c _ => E c ())) : Wp (fnD n g ds) Q E := ⟨by
  unfold fnD
  refine Rn.wp_bind.mpr (Rn.wp_mapErr.mpr (Rn.wp_mono h.r (fun fl r => ?_) fun _ _ z => z))
  cases fl <;> exact r⟩
theorem range_5 : rangeP 0 5 = [.int 0, .int 1, .int 2, .int 3, .int 4] := by rfl
theorem range_4 : rangeP 0 4 = [.int 0, .int 1, .int 2, .int 3] := by rfl
theorem range_3 : rangeP 0 3 = [.int 0, .int 1, .int 2] := by rfl
theorem range_2 : rangeP 0 2 = [.int 0, .int 1] := by rfl
end DL
/-! DLs: comprehensions over a name's list. -/
namespace DL
open PySem PySem.Spec PyProof.Rows L2
structure Walk2 (K : PySem.W.Frag) (H : Hp) (J : It) (xs : List P) : Prop where
  ex : ∃ G, Same G H ∧ Runs K G J xs
def tDI2 (c : DC) (g : GI) : TI := fun σ H R => ∃ (B : Hp) (Rg : Rgs c.ex) (δ : Sl), SRel c.K B Rg σ H δ ∧
  (g δ).wp (fun xs => ∀ J H', Same H H' → Walk2 c.K H' J xs → R J H') fun cl _ => ∀ C H', c.mg cl = some (.ref C) → Same H H' → c.W (.ref C) none σ H'
def DI2 (W : WX) (X : Cx) (tg iter : Expr) (g : GI) : Prop := PI X tg iter (tDI2 (dc X W) g)
theorem DI.two {W : WX} {X : Cx} {tg iter : Expr} {g : GI} (h : DI W X tg iter g) : DI2 W X tg iter g := PI.imp h fun σ H R ⟨B, Rg, δ, S0, w⟩ =>
  ⟨B, Rg, δ, S0, Rn.wp_mono w (fun xs q J H' s wk => q J H' s (by obtain ⟨G, g1, _, g3⟩ := wk.ex; exact ⟨G, g1, g3⟩)) fun _ _ q => q⟩
def R.itemsL : R → Option (List P)
  | .own (.p (.tup xs)) => some xs
  | .vw (.p (.tup xs)) => some xs
  | .own (.p (.str z)) => some (signs z)
  | .vw (.p (.str z)) => some (signs z)
  | .own (.lst xs) => some xs
  | .vw (.lst xs) => some xs
  | _ => none
def gSeqL (ga : GE) : GI := fun δ => (ga δ).bind fun r => match r.itemsL with
  | some xs => .ok xs
  | none => .bad
theorem di2_seq {W : WX} {X : Cx} {tg e : Expr} {ga : GE} (ha : DE W X e ga) : DI2 W X tg e (gSeqL ga) := by
  have two : ∀ {H0 H : Hp} {J : It} {xs : List P}, Walk X.K H0 H J xs → Walk2 X.K H J xs := fun wk => by obtain ⟨G, g1, _, g3⟩ := wk.ex; exact ⟨G, g1, g3⟩
  refine PI.imp (pi_seq ha) fun σ H Rk ⟨B, Rg, δ, S0, w⟩ => ?_
  refine ⟨B, Rg, δ, S0, Rn.wp_mono (Rn.wp_bind.mp w) (fun r q v H1 s1 rv => ?_) fun _ _ q => q⟩
  split at q
  · rename_i xs e
    unfold R.itemsL at e
    split at e
    · obtain rfl := Option.some.inj e
      obtain ⟨a, vs, rfl, qa, ra⟩ := rv.getP rfl
      exact .inr (.inl ⟨a, rfl, ⟨vs, qa⟩, q _ H1 s1 (two (H0 := H) (.tup qa ra))⟩)
    · obtain rfl := Option.some.inj e
      obtain ⟨a, vs, rfl, qa, ra⟩ := rv.getP rfl
      exact .inr (.inl ⟨a, rfl, ⟨vs, qa⟩, q _ H1 s1 (two (H0 := H) (.tup qa ra))⟩)
    · rename_i z
      obtain rfl := Option.some.inj e
      obtain rfl : v = .str z := rv.getP rfl
      exact .inr (.inr ⟨z, rfl, q _ H1 s1 (two (H0 := H) (.str z))⟩)
    · rename_i z
      obtain rfl := Option.some.inj e
      obtain rfl : v = .str z := rv.getP rfl
      exact .inr (.inr ⟨z, rfl, q _ H1 s1 (two (H0 := H) (.str z))⟩)
    · obtain rfl := Option.some.inj e
      obtain ⟨fp, ⟨a, vs, rfl, qa, rfl, ra⟩, n, f⟩ := rv
      obtain ⟨G, g1, g2, g3⟩ := runs_list qa ra
      exact .inl ⟨a, rfl, ⟨vs, SqL.of qa⟩, q _ H1 s1 ⟨G, g1, g3⟩⟩
    · obtain rfl := Option.some.inj e
      obtain ⟨fp, ⟨a, vs, rfl, qa, rfl, ra⟩⟩ := rv
      obtain ⟨G, g1, g2, g3⟩ := runs_list qa ra
      exact .inl ⟨a, rfl, ⟨vs, SqL.of qa⟩, q _ H1 s1 ⟨G, g1, g3⟩⟩
    · cases e
  · exact q.elim
section
variable {W : WX} {X : Cx} {e elt tg iter : Expr} {ifs : List Expr} {gi : GI} {gt : GT} {ge : GE} {scope : Scope} {own : List (Str × Nat)} {pos : Pos}
theorem lc_of2 {t : Tg} {vs : List Nat} (hcal : X.calm = true) (ht : ∀ i ∈ t.idx, i ∈ vs) (σ : L2.St) (H : Hp) (Q : VK) (h : tD (dc X W) (gLc t vs gi gt ge) σ H Q) :
    tLc (tDI2 (dc X W) gi) (t.g X.K) (tDT (dc0 X) gt) (tD (dc0 X) ge) vs σ H Q := by
  rw [dc_calm hcal] at h ⊢
  obtain ⟨B, Rg, δ, S0, w⟩ := h
  refine ⟨B, Rg, δ, S0, Rn.wp_mono (Rn.wp_bind.mp w) (fun xs q J H1 s1 wk => ?_) fun _ _ q => q⟩
  intro Dp hD
  obtain ⟨G, hG, hR⟩ := wk.ex
  have S1 := S0.grow s1
  have S2 := S1.wipe vs
  have c1 : cutH H1 Dp = H1 := by
    funext b
    unfold cutH
    split
    · rename_i z; subst z; exact hD.symm
    · rfl
  refine ⟨fun i m H' => m = xs.length - i ∧ i ≤ xs.length ∧ ∃ acc vacc, H' Dp = some (.lst vacc) ∧ RepPs X.K H' acc vacc ∧ Same H1 (cutH H' Dp) ∧ SRel X.K B Rg (L2.wipe σ vs) (cutH H' Dp) (wipeS δ vs) ∧
    ((lcL t gt ge (wipeS δ vs) (xs.drop i) acc).bind fun ys => .ok (.own (.lst ys))).wp (fun r => ∀ v H', Same H H' → RepR X.K H H' r v → Q v H') (fun cl _ => ∀ C H', X.mg cl = some (.ref C) → Same H H' → W (.ref C) none σ H'),
    ⟨xs.length, by simp, Nat.zero_le _, [], [], upd_same, rfl, by rw [cutH_upd, c1]; exact Same.refl _, by rw [cutH_upd, c1]; exact S2, by simpa using q⟩, ?_⟩
  rintro i m H2 ⟨rfl, hi, acc, vacc, eD, ra, sm, S3, w3⟩
  have S4 := S3.grow (cutH_same H2 Dp)
  have s02 : Same H H2 := s1.trans (sm.trans (cutH_same H2 Dp))
  obtain ⟨r1, r2⟩ := hR H2 (hG.trans (sm.trans (cutH_same H2 Dp))) i
  by_cases hlt : i < xs.length
  · have ep := List.getElem?_eq_getElem hlt
    obtain ⟨go, yl⟩ := r1 _ ep
    rw [List.drop_eq_getElem_cons hlt] at w3
    refine .inr ⟨go, fun H' => ∃ acc vacc, H' Dp = some (.lst vacc) ∧ RepPs X.K H' acc vacc ∧ Same H1 (cutH H' Dp) ∧ SRel X.K B Rg (L2.wipe σ vs) (cutH H' Dp) (wipeS δ vs) ∧
      ((lcL t gt ge (wipeS δ vs) (xs.drop (i + 1)) acc).bind fun ys => .ok (.own (.lst ys))).wp (fun r => ∀ v H', Same H H' → RepR X.K H H' r v → Q v H') (fun cl _ => ∀ C H', X.mg cl = some (.ref C) → Same H H' → W (.ref C) none σ H'),
      fun H' q => ⟨xs.length - (i + 1), by omega, rfl, hlt, q⟩, fun x H3 y => ?_⟩
    obtain ⟨s3, rp⟩ := yl x H3 y
    unfold lcL at w3
    split at w3
    · rename_i δ1 e1
      have gw := Tg.ok (K := X.K) (t := t) (d := .p xs[i]) (v := x) (gp := []) (Q := fun σ' H' => H' = H3 ∧ SRel X.K B Rg σ' H3 δ1) S4 s3 ⟨rp, rfl⟩ List.nodup_nil (fun _ z => nomatch z) e1 fun σ' S5 => ⟨rfl, S5⟩
      have gw2 := Tg.g_wipe (vs := vs) ht gw
      refine Tg.g_mono (fun σ2 H2' ⟨ew, eh, S5⟩ => ?_) gw2
      subst eh
      refine ⟨by rw [ew, wipe_wipe], ?_⟩
      refine ⟨B, Rg, δ1, S5, Rn.wp_noErr (Rn.wp_mono (Rn.wp_bind.mp (Rn.wp_bind.mp w3)) (fun k q H4 s4 => ?_) fun _ _ q => q)⟩
      have S6 := S5.grow s4
      have s24 := s3.trans s4
      have eD4 : H4 Dp = some (.lst vacc) := s24 _ _ eD
      have smm : Same H1 (cutH H4 Dp) := sm.trans (cutH_mono s24 Dp)
      dsimp only
      cases k with
      | false =>
        rw [if_neg (by decide)] at q ⊢
        exact ⟨acc, vacc, eD4, RepPs.kt (Same.kt s24) _ _ ra, smm, S3.grow (cutH_mono s24 Dp), Rn.wp_bind.mpr q⟩
      | true =>
        rw [if_pos rfl] at q ⊢
        refine ⟨B, Rg, δ1, S6, Rn.wp_noErr (Rn.wp_mono (Rn.wp_bind.mp q) (fun r q v H5 s5 rv => ?_) fun _ _ q => q)⟩
        have s25 := s24.trans s5
        split at q
        · rename_i y ey
          split at q
          · rename_i hz
            have ry := rv.getP ey
            have ra5 := RepPs.kt (Same.kt s25) _ _ ra
            have kt5 : KT H5 (upd H5 Dp (.lst (vacc ++ [v]))) := KT.upd (s25 _ _ eD) trivial
            refine ⟨vacc, s25 _ _ eD, by rw [ra.len]; exact hz, acc ++ [y], vacc ++ [v], upd_same, RepPs.kt kt5 _ _ (RepPs.append (show RepPs X.K H5 [y] [v] from ⟨v, [], rfl, ry, rfl⟩) ra5), ?_, ?_, Rn.wp_bind.mpr q⟩
            · rw [cutH_upd]; exact sm.trans (cutH_mono s25 Dp)
            · rw [cutH_upd]; exact S3.grow (cutH_mono s25 Dp)
          · exact q.elim
        · exact q.elim
    · exact w3.elim
  · have hn : xs.length ≤ i := by omega
    rw [List.drop_eq_nil_of_le hn] at w3
    refine .inl ⟨r2 hn, w3 (.ref Dp) H2 s02 ⟨[Dp], ⟨Dp, vacc, rfl, eD, rfl, ra⟩, by simp, fun b hb => ?_⟩⟩
    obtain rfl : b = Dp := by simpa using hb
    exact s1.free hD
end
section
variable {W : WX} {X : Cx} {e elt tg iter : Expr} {ifs : List Expr} {gi : GI} {gt : GT} {ge : GE} {scope : Scope} {own : List (Str × Nat)} {pos : Pos}
theorem de_lc2 {t : Tg} (hc : X.calm = true) (hN : X.N.Nodup) (hi : DI2 W X tg iter gi) (ok : BlkOk X.N X.env.scope scope own)
    (hg : ∀ (s : Shared) (H : Hp) (C : Addr) (cl : List (Str × Addr)) (fp : List Addr), PG (X.blk s H scope (compEnvC scope cl C X.env) fp) tg (t.g X.K))
    (ht : ∀ (s : Shared) (H : Hp) (C : Addr) (cl : List (Str × Addr)) (fp : List Addr), DTs W0 (X.blk s H scope (compEnvC scope cl C X.env) fp) ifs gt)
    (he : ∀ (s : Shared) (H : Hp) (C : Addr) (cl : List (Str × Addr)) (fp : List Addr), DE W0 (X.blk s H scope (compEnvC scope cl C X.env) fp) elt ge)
    (hx : ∀ i ∈ t.idx, i ∈ own.map (·.2) := by decide) (hs : ∀ x, foldedSetIterable iter X.env x = pure x := by intro _; rfl) :
    DE W X (.ListComp elt [⟨tg, iter, ifs, 0⟩] scope pos) (gLc t (own.map (·.2)) gi gt ge) :=
  PE.imp (pe_lc (tt := tDT (dc0 X) gt) (te := tD (dc0 X) ge) hc hN hi ok hg ht he hs) (lc_of2 hc hx)
theorem ds_setLc2 {i : Nat} {y : Str} {py spos : Pos} {t : Tg} (hc : X.calm = true) (hN : X.N.Nodup) (hy : X.N[i]? = some y) (hyl : X.env.scope.names.lookup y = some .local)
    (hsw : swapsWith (.ListComp elt [⟨tg, iter, ifs, 0⟩] scope pos) (some (.Name y py)) spos.line X.env = pure true) (hi : DI2 W X tg iter gi) (ok : BlkOk X.N X.env.scope scope own)
    (hg : ∀ (s : Shared) (H : Hp) (C : Addr) (cl : List (Str × Addr)) (fp : List Addr), PG (X.blk s H scope (compEnvC scope cl C X.env) fp) tg (t.g X.K))
    (ht : ∀ (s : Shared) (H : Hp) (C : Addr) (cl : List (Str × Addr)) (fp : List Addr), DTs W0 (X.blk s H scope (compEnvC scope cl C X.env) fp) ifs gt)
    (he : ∀ (s : Shared) (H : Hp) (C : Addr) (cl : List (Str × Addr)) (fp : List Addr), DE W0 (X.blk s H scope (compEnvC scope cl C X.env) fp) elt ge)
    (hx : ∀ i ∈ t.idx, i ∈ own.map (·.2) := by decide) (hs : ∀ x, foldedSetIterable iter X.env x = pure x := by intro _; rfl) :
    DS W X (.Assign [.Name y py] (.ListComp elt [⟨tg, iter, ifs, 0⟩] scope pos) spos) (gSet i (gLc t (own.map (·.2)) gi gt ge)) := by
  refine PS.imp (ps_setLc (tt := tDT (dc0 X) gt) (te := tD (dc0 X) ge) hc hN hy hyl hsw hi ok hg ht he hs) fun D σ H ⟨B, Rg, δ, S0, w⟩ => ?_
  refine lc_of2 hc hx σ H _ ?_
  refine tDS_val S0 w fun r v H1 s1 rv S1 q => ?_
  cases r with
  | own d =>
    obtain ⟨fp, q1, n, f⟩ := rv
    exact q _ _ (S0.set s1 q1 n f)
  | vw d => exact q.elim
end
end DL
/-! DLt: reversed(tuple), x[::-1], tuples of ints by <. -/
namespace DL
open PySem PySem.Spec PyProof.Rows L2
/-- < of ints and of tuples of ints -/
def fLtA : D → D → Rn Unit Bool := fun x y => match x, y with
    | .p (.int i), .p (.int j) => .ok (decide (i < j))
    | .p (.tup xs), .p (.tup ys) => match pInts xs, pInts ys with
      | some ns, some ms => .ok (HT.lexLt ns ms)
      | _, _ => .bad
    | _, _ => .bad
section
variable {K : PySem.W.Frag} {H0 H : Hp}
theorem Walk.rtup {a : Addr} {vs : List V} {xs : List P} (h : SqT K H a vs) (r : RepPs K H xs vs) : Walk K H0 H (RT.ItvT K a vs.length) xs.reverse := by
  refine ⟨tupG H, tupG_same H, fun b hb => .inr (tupG_rd hb), fun H' s i => ?_⟩
  have kt : KT H H' := tupG_kt s
  have ha := kt.sqt h
  have r' := RepPs.kt kt _ _ r
  have hl : vs.length = xs.length := r.len
  refine ⟨fun p ep => ?_, fun hi => ?_⟩
  · have hi : i < xs.length := by
      have := (List.getElem?_eq_some_iff.mp ep).1
      simpa using this
    rw [List.getElem?_reverse hi] at ep
    obtain ⟨w, e2, q⟩ := r'.get ep
    rw [← hl] at e2
    refine ⟨⟨by omega, vs, w, ha, e2⟩, fun x H'' y => ?_⟩
    obtain ⟨rfl, y⟩ := y
    have e := y vs ha
    rw [e] at e2
    obtain rfl := Option.some.inj e2
    exact ⟨Same.refl _, q⟩
  · rw [List.length_reverse] at hi
    show vs.length ≤ i
    omega
theorem og_ltA : OpG K (fun x y H Q => rI0 (fun i j => .bl (decide (i < j))) x y H Q ∨ rLtT K x y H Q) (fB fLtA) := by
  intro H x y v u fx fy Q E rx ry h
  have h' := Rn.wp_bind.mp h
  unfold fLtA at h'
  split at h'
  · rename_i i j
    obtain rfl : v = .int i := rx.1
    obtain rfl : u = .int j := ry.1
    exact .inl ⟨i, j, rfl, rfl, RepP.up h' rfl⟩
  · rename_i xs ys
    split at h'
    · rename_i ns ms e1 e2
      obtain rfl := pInts_ok e1
      obtain rfl := pInts_ok e2
      obtain ⟨a, vs, rfl, q1, r1⟩ := rx.1
      obtain ⟨b, us, rfl, q2, r2⟩ := ry.1
      obtain rfl := r1.int
      obtain rfl := r2.int
      exact .inr ⟨a, b, ns, ms, rfl, rfl, q1, q2, RepP.up h' rfl⟩
    · exact h'.elim
  · exact h'.elim
end
def gRevI (ga : GE) : GI := fun δ => (ga δ).bind fun r => match r.d with
  | .p (.tup xs) => .ok xs.reverse
  | _ => .bad
def gRevL (ga : GE) : GE := fun δ => (ga δ).bind fun r => match r.d with
  | .lst xs => .ok (.own (.lst xs.reverse))
  | _ => .bad
section
variable {W : WX} {X : Cx} {e tg : Expr} {ga : GE} {p pos p1 p2 p3 : Pos}
theorem op_ltA (hu : X.A.units < cLine) : OpR X (compareOp .Lt) (fun x y H Q => rI0 (fun i j => .bl (decide (i < j))) x y H Q ∨ rLtT X.K x y H Q) := op_lt.or (op_ltT hu)
theorem di_rev (hm : X.mg "reversed" = none) (ha : DE W X e ga) (hg : Gl X "reversed" := by rfl) (hs : starEach [e] X.env = (false, eval e X.env) :: starEach [] X.env := by rfl) : DI W X tg (.Call (.Name "reversed" p) [e] [] pos) (gRevI ga) := by
  refine PI.imp (RT.pi_revA hg hm ha hs) fun σ H Rk ⟨B, Rg, δ, S0, w⟩ => ?_
  refine ⟨B, Rg, δ, S0, Rn.wp_mono (Rn.wp_bind.mp w) (fun r q v H1 s1 rv => ?_) fun _ _ q => q⟩
  split at q
  · rename_i xs ed
    obtain ⟨a, vs, rfl, qa, ra⟩ := rv.getP ed
    exact ⟨a, vs, rfl, .inr ⟨qa, q _ H1 s1 (Walk.rtup qa ra)⟩⟩
  · exact q.elim
theorem RepPs.rev {K : PySem.W.Frag} {H : Hp} : ∀ {xs : List P} {vs : List V}, RepPs K H xs vs → RepPs K H xs.reverse vs.reverse
  | [], vs, h => by
    obtain rfl : vs = [] := h
    exact rfl
  | x :: xs, vs, h => by
    obtain ⟨v, us, rfl, q, r⟩ := h
    rw [List.reverse_cons, List.reverse_cons]
    exact RepPs.append (show RepPs K H [x] [v] from ⟨v, [], rfl, q, rfl⟩) (RepPs.rev r)
theorem de_rev {k : Nat} (ha : DE W X e ga) : DE W X (.Subscript e (.Slice none none (some (.UnaryOp .USub (.Constant (.int 1) k p1) p2)) p3) pos) (gRevL ga) := by
  refine PE.imp (pe_revL ha) fun σ H Q ⟨B, Rg, δ, S0, w⟩ => ?_
  refine ⟨B, Rg, δ, S0, Rn.wp_mono (Rn.wp_bind.mp w) (fun r q v H1 s1 rv => ?_) fun _ _ q => q⟩
  split at q
  · rename_i xs ed
    obtain ⟨fp, rd⟩ := rv.look
    rw [ed] at rd
    obtain ⟨a, vs, rfl, qa, _, ra⟩ := rd
    refine ⟨a, vs, rfl, SqL.of qa, fun l nl => ?_⟩
    have s2 : Same H1 (upd H1 l (.lst vs.reverse)) := fun b o eb => by
      rw [upd_ne (fun z => by subst z; rw [nl] at eb; cases eb)]; exact eb
    refine q _ _ (s1.trans s2) ⟨[l], ⟨l, vs.reverse, rfl, upd_same, rfl, RepPs.kt (Same.kt s2) _ _ (RepPs.rev ra)⟩, by simp, fun b hb => ?_⟩
    obtain rfl : b = l := by simpa using hb
    exact s1.free nl
  · exact q.elim
end
end DL
/-! DLu: sorted(ints); draws from large ranges. -/
namespace DL
open PySem PySem.Spec PyProof.Rows L2
def insI (x : Int) : List Int → List Int
  | [] => [x]
  | y :: l => if x ≤ y then x :: y :: l else y :: insI x l
def srtI : List Int → List Int
  | [] => []
  | x :: l => insI x (srtI l)
theorem insI_perm (x : Int) : ∀ l : List Int, (insI x l).Perm (x :: l)
  | [] => .refl _
  | y :: l => by
    unfold insI
    split
    · exact .refl _
    · exact ((insI_perm x l).cons y).trans (.swap x y l)
theorem srtI_perm : ∀ l : List Int, (srtI l).Perm l
  | [] => .refl _
  | x :: l => (insI_perm x (srtI l)).trans ((srtI_perm l).cons x)
theorem insI_sorted (x : Int) : ∀ l : List Int, l.Pairwise (· ≤ ·) → (insI x l).Pairwise (· ≤ ·)
  | [], _ => by simp [insI]
  | y :: l, h => by
    obtain ⟨h1, h2⟩ := List.pairwise_cons.mp h
    unfold insI
    split
    · rename_i hx
      refine List.pairwise_cons.mpr ⟨fun z hz => ?_, h⟩
      rcases List.mem_cons.mp hz with rfl | hz
      · exact hx
      · have := h1 z hz
        omega
    · rename_i hx
      refine List.pairwise_cons.mpr ⟨fun z hz => ?_, insI_sorted x l h2⟩
      rcases List.mem_cons.mp ((insI_perm x l).mem_iff.mp hz) with rfl | hz
      · omega
      · exact h1 z hz
theorem srtI_sorted : ∀ l : List Int, (srtI l).Pairwise (· ≤ ·)
  | [] => .nil
  | x :: l => insI_sorted x _ (srtI_sorted l)
theorem sorted_unique : ∀ {l m : List Int}, l.Perm m → l.Pairwise (· ≤ ·) → m.Pairwise (· ≤ ·) → l = m
  | [], m, p, _, _ => p.nil_eq
  | x :: l, [], p, _, _ => by
    have := p.length_eq
    simp at this
  | x :: l, y :: m, p, h1, h2 => by
    obtain ⟨a1, a2⟩ := List.pairwise_cons.mp h1
    obtain ⟨b1, b2⟩ := List.pairwise_cons.mp h2
    have e : x = y := by
      have hx : x ∈ y :: m := p.mem_iff.mp (by simp)
      have hy : y ∈ x :: l := p.mem_iff.mpr (by simp)
      rcases List.mem_cons.mp hx with e | hx
      · exact e
      · rcases List.mem_cons.mp hy with e | hy
        · exact e.symm
        · have := a1 y hy
          have := b1 x hx
          omega
    subst e
    rw [sorted_unique p.cons_inv a2 b2]
def fSorted : List D → Rn Unit R
  | [.lst xs] => match pInts xs with
    | some ns => .ok (.own (.lst ((srtI ns).map .int)))
    | none => .bad
  | _ => .bad
theorem RepPs.ints {K : PySem.W.Frag} {H : Hp} : ∀ ns : List Int, RepPs K H (ns.map P.int) (ns.map V.int)
  | [] => rfl
  | n :: ns => ⟨.int n, ns.map V.int, rfl, rfl, RepPs.ints ns⟩
theorem cg_sorted {K : PySem.W.Frag} : CallG K (rSortedI K) fSorted := by
  intro H ds vs Q E hl h
  unfold fSorted at h
  split at h
  · rename_i xs
    split at h
    · rename_i ns e
      obtain rfl := pInts_ok e
      obtain ⟨v, fp, rfl, r⟩ := hl.one
      obtain ⟨a, vs, rfl, q, _, r⟩ := r
      obtain rfl := r.int
      refine ⟨a, ns, rfl, SqL.of q, fun ns' p h1 h2 hp => ?_⟩
      obtain rfl : ns' = srtI ns := sorted_unique (h1.trans (srtI_perm ns).symm) h2 (srtI_sorted ns)
      exact up_lst h (RepPs.ints _) hp
    · exact h.elim
  · exact h.elim
section
variable {W : WX} {X : Cx} {e : Expr} {es : List Expr} {gs : GA} {p pos : Pos}
theorem de_sorted (hm : X.mg "sorted" = none) (ha : DA W X (e :: es) gs) (hg : Gl X "sorted" := by rfl) (he : starEach (e :: es) X.env = (false, eval e X.env) :: starEach es X.env := by rfl) (hpl : (backTo pos (starEach es X.env)).any (·.1) = false := by rfl) : DE W X (.Call (.Name "sorted" p) (e :: es) [] pos) (gCall fSorted gs) :=
  de_callB cr_sortedI cg_sorted hm (by decide +kernel) ha hg (he := he) (hpl := hpl)
end
theorem take_big {n : Int} (h0 : 0 < n) (h1 : n < 2 ^ 250) : takeF [.orc, .p (.int n)] = .pick n.toNat fun i => .ok (.p (.int (i : Int))) := by
  unfold takeF
  refine if_pos ⟨h0, ?_⟩
  by_cases hz : n.natAbs = 0
  · rw [hz]; decide
  · have : n.natAbs < 2 ^ 250 := by
      have e : ((2 ^ 250 : Nat) : Int) = (2 : Int) ^ 250 := by rw [Int.natCast_pow]; rfl
      rw [← e] at h1
      generalize (2 ^ 250 : Nat) = T at h1 ⊢
      omega
    have := (Nat.log2_lt hz).mpr this
    omega
end DL
/-! DLv: rules for runs; gcd; try without a name; isinstance of an error by a built-in class. -/
namespace DL
open PySem PySem.Spec PyProof.Rows L2
section
variable {ε ε' α β : Type} {E : Str → ε → Prop}
theorem wp_bind {w : Rn ε α} {f : α → Rn ε β} {Q : β → Prop} : Wp (w.bind f) Q E ↔ Wp w (fun a => Wp (f a) Q E) E :=
  ⟨fun h => ⟨Rn.wp_mono (Rn.wp_bind.mp h.r) (fun _ q => ⟨q⟩) fun _ _ q => q⟩, fun h => ⟨Rn.wp_bind.mpr (Rn.wp_mono h.r (fun _ q => q.r) fun _ _ q => q)⟩⟩
theorem wp_mapErr {w : Rn ε α} {f : ε → ε'} {Q : α → Prop} {E : Str → ε' → Prop} (h : Wp w Q (fun c e => E c (f e))) : Wp (w.mapErr f) Q E := ⟨Rn.wp_mapErr.mpr h.r⟩
end
section
variable {a b : GE} {δ : Sl} {f : D → D → Rn Unit R} {Q : R → Prop} {E : Str → Unit → Prop} {R' : Fl → Prop} {F : Str → Sl → Prop}
theorem w_op2 (h : Wp (a δ) (fun x => Wp (b δ) (fun y => Wp (f x.d y.d) Q E) E) E) : Wp (gOp2 f a b δ) Q E := by
  unfold gOp2
  exact wp_bind.mpr (wp_imp h (fun _ q => wp_bind.mpr q) fun _ _ z => z)
theorem w_op1 {f : D → Rn Unit R} (h : Wp (a δ) (fun x => Wp (f x.d) Q E) E) : Wp (gOp1 f a δ) Q E := wp_bind.mpr h
theorem w_fn {n : Nat} {f : Fn} {gs : GA} {rs : List R} (h1 : gs δ = .ok rs) (h2 : rs.length = n) (h3 : Wp (f (rs.map R.d)) (fun d => Q (.own d)) E) : Wp (gFn n f gs δ) Q E := by
  unfold gFn
  rw [h1]
  show Wp (if rs.length = n then _ else _) Q E
  rw [if_pos h2]
  exact wp_bind.mpr (wp_imp h3 (fun _ q => wp_ok.mpr q) fun _ _ z => z)
theorem w_fnW {n : Nat} {f : Fn} {gs : GA} (h : Wp (gs δ) (fun rs => rs.length = n ∧ Wp (f (rs.map R.d)) (fun d => Q (.own d)) E) E) : Wp (gFn n f gs δ) Q E := by
  unfold gFn
  refine wp_bind.mpr (wp_imp h (fun rs q => ?_) fun _ _ z => z)
  rw [if_pos q.1]
  exact wp_bind.mpr (wp_imp q.2 (fun _ q => wp_ok.mpr q) fun _ _ z => z)
theorem w_call {f : List D → Rn Unit R} {gs : GA} (h : Wp (gs δ) (fun rs => Wp (f (rs.map R.d)) Q E) E) : Wp (gCall f gs δ) Q E := wp_bind.mpr h
theorem w_cons {gs : GA} {T : List R → Prop} (h : Wp (a δ) (fun r => Wp (gs δ) (fun rs => T (r :: rs)) E) E) : Wp (gCons a gs δ) T E :=
  wp_bind.mpr (wp_imp h (fun _ q => wp_bind.mpr (wp_imp q (fun _ q => wp_ok.mpr q) fun _ _ z => z)) fun _ _ z => z)
theorem w_set {i : Nat} (h : Wp (a δ) (fun r => ∃ d, r = .own d ∧ R' (.nx (δ.set i (.own d)))) (fun c _ => F c δ)) : Wp (gSet i a δ) R' F := by
  unfold gSet lift
  refine wp_bind.mpr (wp_mapErr (wp_imp h (fun r q => ?_) fun _ _ z => z))
  obtain ⟨d, rfl, q⟩ := q
  exact wp_ok.mpr q
theorem w_ret (h : Wp (a δ) (fun r => ∃ d, r = .own d ∧ R' (.ret d)) (fun c _ => F c δ)) : Wp (gRet a δ) R' F := by
  unfold gRet lift
  refine wp_bind.mpr (wp_mapErr (wp_imp h (fun r q => ?_) fun _ _ z => z))
  obtain ⟨d, rfl, q⟩ := q
  exact wp_ok.mpr q
theorem w_if {t : GT} {g1 g2 : GS} (h : Wp (t δ) (fun k => Wp (if k = true then g1 δ else g2 δ) R' F) (fun c _ => F c δ)) : Wp (gIfS t g1 g2 δ) R' F := by
  unfold gIfS lift
  exact wp_bind.mpr (wp_mapErr (wp_imp h (fun _ q => q) fun _ _ z => z))
theorem w_tb {T : Bool → Prop} (h : Wp (a δ) (fun r => ∃ k, r.d = .p (.bl k) ∧ T k) E) : Wp (gTB a δ) T E := by
  unfold gTB
  refine wp_bind.mpr (wp_imp h (fun r q => ?_) fun _ _ z => z)
  obtain ⟨k, e, q⟩ := q
  unfold D.bool?
  rw [e]
  exact wp_ok.mpr q
theorem w_tru {T : Bool → Prop} (h : Wp (a δ) (fun r => ∃ k, r.d = .p (.bl k) ∧ T k) E) : Wp (gTru a δ) T E := by
  unfold gTru
  refine wp_bind.mpr (wp_imp h (fun r q => ?_) fun _ _ z => z)
  obtain ⟨k, e, q⟩ := q
  rw [e]
  exact wp_ok.mpr q
theorem w_of {α : Type} {ε : Type} {w : Rn ε α} {v : α} {Q : α → Prop} {E : Str → ε → Prop} (e : w = .ok v) (q : Q v) : Wp w Q E := by
  rw [e]; exact wp_ok.mpr q
theorem eq_ints (i j : Int) : fB (fEqB false) (.p (.int i)) (.p (.int j)) = .ok (.own (.p (.bl (decide (i = j))))) := by
  simp [fB, fEqB, P.scal, P.seq, Rn.bind]
theorem ne_ints (i j : Int) : fB (fEqB true) (.p (.int i)) (.p (.int j)) = .ok (.own (.p (.bl (decide (i ≠ j))))) := by
  simp [fB, fEqB, P.scal, P.seq, Rn.bind]
end
theorem fn_eq {n : Nat} {g : GS} {ds : List D} {d : D} (h : g (startS n ds) = .ok (.ret d)) : fnD n g ds = .ok d := by
  unfold fnD
  rw [h]
  rfl
theorem fn_eqN {n : Nat} {g : GS} {ds : List D} {δ' : Sl} (h : g (startS n ds) = .ok (.nx δ')) : fnD n g ds = .ok (.p .non) := by
  unfold fnD
  rw [h]
  rfl
theorem fn_eqE {n : Nat} {g : GS} {ds : List D} {c : Str} {δ' : Sl} (h : g (startS n ds) = .err c δ') : fnD n g ds = .err c () := by
  unfold fnD
  rw [h]
  rfl
theorem seq_eq {a b : GS} {δ δ' : Sl} {r : Rn Sl Fl} (h1 : a δ = .ok (.nx δ')) (h2 : b δ' = r) : gSeq a b δ = r := by
  unfold gSeq
  rw [h1]
  exact h2
theorem seq_eqr {a b : GS} {δ : Sl} {d : D} (h1 : a δ = .ok (.ret d)) : gSeq a b δ = .ok (.ret d) := by
  unfold gSeq
  rw [h1]
  rfl
theorem seq_eqE {a b : GS} {δ δ' : Sl} {c : Str} (h1 : a δ = .err c δ') : gSeq a b δ = .err c δ' := by
  unfold gSeq
  rw [h1]
  rfl
theorem for_eq {t : Tg} {gi : GI} {g : GS} {δ : Sl} {xs : List P} {r : Rn Sl Fl} (e : gi δ = .ok xs) (h : gForL t g xs δ = r) : gFor t gi g δ = r := by
  unfold gFor lift
  rw [e]
  exact h
theorem if_eqT {t : GT} {a b : GS} {δ : Sl} {r : Rn Sl Fl} (h : t δ = .ok true) (k : a δ = r) : gIfS t a b δ = r := by
  unfold gIfS lift
  rw [h]
  exact k
theorem if_eqF {t : GT} {a b : GS} {δ : Sl} {r : Rn Sl Fl} (h : t δ = .ok false) (k : b δ = r) : gIfS t a b δ = r := by
  unfold gIfS lift
  rw [h]
  exact k
theorem gRange_ok {f : List D → Rn Unit (List P)} {gs : GA} {δ : Sl} {rs : List R} {r : Rn Unit (List P)} (h1 : gs δ = .ok rs) (h2 : f (rs.map R.d) = r) : gRangeI f gs δ = r := by
  unfold gRangeI
  rw [h1]
  exact h2
theorem range1_ok {n : Int} (h0 : -1000000 ≤ n) (h : n ≤ 1000000) : fRange1 [.p (.int n)] = .ok (rangeP 0 n) := by
  have hh : -(2 ^ 62) ≤ n ∧ n < 2 ^ 62 := by omega
  unfold fRange1
  simp only [hh, and_self, if_true]
theorem eq_self {x : P} (n : Bool) (h1 : P.scal x x = false) (h2 : SeqAt.shaped x.py = true) : fEqB n (.p x) (.p x) = .ok (!n) := by
  have c : x.py.canLay0 = true := by
    unfold SeqAt.shaped at h2
    simp only [Bool.and_eq_true] at h2
    exact h2.1
  unfold fEqB
  dsimp only
  rw [if_neg (by rw [h1]; decide), if_pos ⟨h2, h2⟩, show PyData.eqv x.py x.py = true from SeqAt.eqv_refl _ c]
  cases n <;> rfl
theorem eq_selfD {d : D} {x : P} (n : Bool) (e : d = .p x) (h1 : P.scal x x = false) (h2 : SeqAt.shaped x.py = true) : fEqB n d d = .ok (!n) := by
  subst e
  exact eq_self n h1 h2
theorem op2_eq {f : D → D → Rn Unit R} {a b : GE} {δ : Sl} {x y : R} {r : Rn Unit R} (h1 : a δ = .ok x) (h2 : b δ = .ok y) (h3 : f x.d y.d = r) : gOp2 f a b δ = r := by
  unfold gOp2
  rw [h1, Rn.bind_ok, h2]
  exact h3
theorem tb_eq {a : GE} {δ : Sl} {k : Bool} (h : a δ = .ok (.own (.p (.bl k)))) : gTB a δ = .ok k := by
  unfold gTB
  rw [h]
  rfl
theorem fB_eq {f : D → D → Rn Unit Bool} {x y : D} {k : Bool} (h : f x y = .ok k) : fB f x y = .ok (.own (.p (.bl k))) := by
  unfold fB
  rw [h]
  rfl
theorem forL_eq {t : Tg} {g : GS} {x : P} {xs : List P} {δ δ1 δ' : Sl} {r : Rn Sl Fl} (e : t.set (.p x) δ = some δ1) (w : g δ1 = .ok (.nx δ')) (k : gForL t g xs δ' = r) : gForL t g (x :: xs) δ = r := by
  unfold gForL
  rw [e]
  show ((g δ1).bind _) = r
  rw [w]
  exact k
def fuelAt (i k : Nat) : Sl → Nat := fun δ => match δ[i]? with
  | some (S.own (D.p (P.int b))) => b.natAbs + k
  | some (S.bor _ (D.p (P.int b))) => b.natAbs + k
  | _ => 0
/-! ### gcd -/
def fGcd : List D → Rn Unit R
  | [.p (.int a), .p (.int b)] => .ok (.own (.p (.int ((Nat.gcd a.natAbs b.natAbs : Nat) : Int))))
  | _ => .bad
theorem cg_gcd {K : PySem.W.Frag} : CallG K rGcd fGcd := by
  intro H ds vs Q E hl h
  unfold fGcd at h
  split at h
  · obtain ⟨v, u, fp, gp, rfl, r1, r2⟩ := hl.two
    obtain rfl : v = .int _ := r1.1
    obtain rfl : u = .int _ := r2.1
    exact ⟨_, _, rfl, RepP.up h rfl⟩
  · exact h.elim
section
variable {W : WX} {X : Cx} {e : Expr} {es : List Expr} {gs : GA} {p pos p2 : Pos}
theorem de_gcd {x : Str} (hm : X.mg x = some (.builtin "math.gcd")) (ha : DA W X (e :: es) gs) (hg : Gl X x := by rfl) (hdb : (x == ("__debug__" : Str)) = false := by decide) (he : starEach (e :: es) X.env = (false, eval e X.env) :: starEach es X.env := by rfl) (hpl : (backTo pos (starEach es X.env)).any (·.1) = false := by rfl) : DE W X (.Call (.Name x p) (e :: es) [] pos) (gCall fGcd gs) :=
  PE.imp (pe_callBfun cr_gcd hg hm ha hdb he hpl) fun σ H Q h => call_of cg_gcd σ H Q h
end
/-! ### try without a name -/
def outEx0 (δ : Sl) : Sl := δ.map S.noExn
def gTryOW (sub : Str → Option Bool) (gsu : Str → GS) : Rn Sl Fl → Rn Sl Fl
  | .ok fl => .ok fl
  | .err c δ' => match sub c with
    | some true => ((gsu c δ').noErrS).bind fun fl => .ok (fl.map outEx0)
    | some false => .err c δ'
    | none => .bad
  | .bad => .bad
  | .pick n k => .pick n fun j => gTryOW sub gsu (k j)
def gTryO (sub : Str → Option Bool) (g : GS) (gsu : Str → GS) : GS := fun δ => gTryOW sub gsu (g δ)
theorem gTryOW_wp {sub : Str → Option Bool} {gsu : Str → GS} {Q : Fl → Prop} {E : Str → Sl → Prop} : ∀ {r : Rn Sl Fl}, (gTryOW sub gsu r).wp Q E →
    r.wp Q fun c δ' => (sub c = some true ∧ (((gsu c δ').noErrS).bind fun fl => .ok (fl.map outEx0)).wp Q E) ∨ (sub c = some false ∧ E c δ') := by
  intro r
  induction r with
  | ok fl => exact fun h => h
  | err c δ' =>
    intro h
    unfold gTryOW at h
    split at h
    · rename_i e; exact .inl ⟨e, h⟩
    · rename_i e; exact .inr ⟨e, h⟩
    · exact h.elim
  | bad => exact fun h => h
  | pick n k ih => exact fun h j hj => ih j (h j hj)
section
variable {K : PySem.W.Frag} {B H : Hp}
theorem SRel.outEx0 {Rg : Option Nat → Hp} {ex : Option Addr} {σ : L2.St} {δ : Sl} (S0 : SRel K B (ex := ex) Rg σ H δ) : SRel K B (ex := none) Rg σ H (outEx0 δ) := by
  obtain ⟨b, u, fp, q, n, f⟩ := S0
  exact ⟨b, u, fp, q.offEx, n, f⟩
end
section
variable {W : WX} {X : Cx} {body suite : List Stmt} {b₀ : Stmt} {g1 : GS} {pos p np pos' : Pos}
theorem try_ofO {sub : Str → Option Bool} {gsu : Str → GS} {c : Value} {ts : Addr → Value → Option Addr → TS}
    (hts : ts = fun a cls d D σ H => ∃ cl C, X.mg cl = some (.ref C) ∧ cls = .ref C ∧ d = none ∧ tDS ⟨X.K, X.mg, W0, some a⟩ (gsu cl) D σ H) (et : ErrT X.K X.mg c sub) (hc : X.calm = true)
    (D : Ends) (σ : L2.St) (H : Hp) (h : tDS (dc X W) (gTryO sub g1 gsu) D σ H) : tDS ⟨X.K, X.mg, wOnly X.K c ts W D, none⟩ g1 D σ H := by
  rw [dc_calm hc] at h
  obtain ⟨B, Rg, δ, S0, w⟩ := h
  refine ⟨B, Rg, δ, S0, Rn.wp_mono (gTryOW_wp w) (fun _ q => q) fun cl δ' q C σ1 H1 hm S1 => ?_⟩
  rcases q with ⟨e, q⟩ | ⟨e, q⟩
  · refine ⟨true, et cl true C e hm, fun _ a ha => ?_, fun z => Bool.noConfusion z⟩
    subst hts
    refine ⟨cl, C, hm, rfl, rfl, ?_⟩
    obtain ⟨b, u, fp, r, n, f⟩ := S1
    refine ⟨B, Rg, δ', ⟨b, u, fp, r.toEx (a := a), n, f⟩, Rn.wp_noErrS (Rn.wp_mono (Rn.wp_bind.mp q) (fun fl q => ?_) fun _ _ q => q)⟩
    cases fl with
    | nx δ2 => exact fun σ2 H2 S2 => q _ _ S2.outEx0
    | bk δ2 => exact fun σ2 H2 S2 => q _ _ S2.outEx0
    | ct δ2 => exact fun σ2 H2 S2 => q _ _ S2.outEx0
    | ret d => exact q
  · exact ⟨false, et cl false C e hm, fun z => Bool.noConfusion z, fun _ => q C σ1 H1 hm S1⟩
theorem ds_tryOnly {x : Str} {c : Value} {sub : Str → Option Bool} {gsu : Str → GS} (hs : X.stack = X.env :: X.outer) (hf : X.env.frame = some X.env.locals) (hcal : X.calm = true)
    (hc : Names X x c) (et : ErrT X.K X.mg c sub) (tk : Takes X W)
    (hb : ∀ (W' : WX) (pn : List (Addr × Obj)) (xe : Value → Shared → Prop), Takes (X.tr pn xe) W' → PassesOwn (model X.prog X.w) X.A X.env xe → DSs W' (X.tr pn xe) body g1)
    (hsu : ∀ (cl : Str) (C a : Addr) (oe : Obj) (pn : List (Addr × Obj)), X.mg cl = some (.ref C) → Zc (.ref C) none oe → (∃ vs, oe.data = .fields vs) → DSs W0 (X.suite a ((a, oe) :: pn)) (b₀ :: suite) (gsu cl)) :
    DS W X (.Try body [.ExceptHandler (some (.Name x np)) none (b₀ :: suite) pos'] [] [] pos) (gTryO sub g1 gsu) := by
  refine PS.imp (ps_try_only (Wout := W) (tb := fun W' => tDS ⟨X.K, X.mg, W', none⟩ g1) (ts := fun a cls d D σ H => ∃ cl C, X.mg cl = some (.ref C) ∧ cls = .ref C ∧ d = none ∧ tDS ⟨X.K, X.mg, W0, some a⟩ (gsu cl) D σ H)
    hs hf hc tk (fun W' pn xe t1 t2 => ?_) fun a oe cls d pn hz hv => ?_) fun D σ H h => try_ofO rfl et hcal D σ H h
  · have := hb W' pn xe t1 t2
    unfold DSs at this
    rw [dc_calm (X := X.tr pn xe) hcal] at this
    exact this
  · refine ⟨fun pins s σ H D I ⟨cl, C, hm, e1, e2, h⟩ => ?_⟩
    subst e1 e2
    exact (hsu cl C a oe pn hm hz hv).run pins s σ H D I h
theorem ds_tryOC {x : Str} {sub : Str → Option Bool} {gsu : Str → GS} (cc : CatchC X.K X.mg x sub) (hs : X.stack = X.env :: X.outer) (hf : X.env.frame = some X.env.locals) (hcal : X.calm = true) (tk : Takes X W)
    (hb : ∀ (W' : WX) (pn : List (Addr × Obj)) (xe : Value → Shared → Prop), Takes (X.tr pn xe) W' → PassesOwn (model X.prog X.w) X.A X.env xe → DSs W' (X.tr pn xe) body g1)
    (hsu : ∀ (cl : Str) (C a : Addr) (oe : Obj) (pn : List (Addr × Obj)), X.mg cl = some (.ref C) → Zc (.ref C) none oe → (∃ vs, oe.data = .fields vs) → DSs W0 (X.suite a ((a, oe) :: pn)) (b₀ :: suite) (gsu cl))
    (hg : Gl X x := by rfl) (hdb : (x == ("__debug__" : Str)) = false := by decide) :
    DS W X (.Try body [.ExceptHandler (some (.Name x np)) none (b₀ :: suite) pos'] [] [] pos) (gTryO sub g1 gsu) := by
  obtain ⟨C, hC, et⟩ := cc.ex
  exact ds_tryOnly hs hf hcal ⟨hg, hdb, .inl hC⟩ et tk hb hsu
end
/-! ### isinstance of an error by a built-in class -/
structure IsTB (K : PySem.W.Frag) (mg : Str → Option Value) (T : String) (sub : Str → Option Bool) : Prop where
  ex : ∀ c b C, sub c = some b → mg c = some (.ref C) → ExcC K C ∧ PySem.W.kitOne K (.ref C) (.type T) = some b
/-- which classes are kinds of a built-in class -/
inductive SubTB (K : PySem.W.Frag) (mg : Str → Option Value) (T : String) : List (Str × Bool) → Prop
  | nil : SubTB K mg T []
  | cons {x : Str} {D : Addr} {b : Bool} {t : List (Str × Bool)} (C : ClsT K mg x D) (h : PySem.W.subIn K (.ref D) (.type T) = some b) (r : SubTB K mg T t) : SubTB K mg T ((x, b) :: t)
theorem SubTB.get {K : PySem.W.Frag} {mg : Str → Option Value} {T : String} : ∀ {t : List (Str × Bool)} {x : Str} {b : Bool}, SubTB K mg T t → (x, b) ∈ t → ∃ D, ClsT K mg x D ∧ PySem.W.subIn K (.ref D) (.type T) = some b
  | _, _, _, .nil, h => by cases h
  | _, x, b, .cons C h r, hm => by
    rcases List.mem_cons.mp hm with e | e
    · cases e; exact ⟨_, C, h⟩
    · exact SubTB.get r e
theorem isTB_of {K : PySem.W.Frag} {mg : Str → Option Value} {T : String} {t : List (Str × Bool)} (O : ObjT K) (hk : PySem.W.kitMeta T = true)
    (S : SubTB K mg T t) : IsTB K mg T (tabS t) := by
  refine ⟨fun c b C e hm => ?_⟩
  obtain ⟨D', T', h⟩ := S.get (tab_mem e)
  have : D' = C := by have := T'.mg.symm.trans hm; exact Value.ref.inj (Option.some.inj this)
  subst this
  refine ⟨T'.excC O, ?_⟩
  unfold PySem.W.kitOne
  rw [if_neg (by simp)]
  show (if PySem.W.kitMeta T = true then PySem.W.subIn K (.ref D') (.type T) else none) = some b
  rw [if_pos hk]
  exact h
section
variable {W : WX} {X : Cx} {p pos p2 : Pos}
theorem de_isEB {T : String} {x y cl : Str} {C a : Addr} {oe : Obj} {pn : List (Addr × Obj)} {i : Nat} {sub : Str → Option Bool} {py : Pos} (it : IsTB X.K X.mg T sub) (hm2 : X.mg x = none) (hcl : X.mg cl = some (.ref C)) (hz : Zc (.ref C) none oe) (hf : ∃ vs, oe.data = .fields vs)
    (hm : X.mg "isinstance" = none) (hN : X.N[i]? = some y) (hv : Vis X.env.scope y) (hb : bootBuiltins x = some (.type T)) (hn : x ≠ "__name__" := by decide) (hg2 : Gl X x := by rfl) (hg : Gl X "isinstance" := by rfl)
    (hdb : (x == ("__debug__" : Str)) = false := by decide) (hdy : (y == ("__debug__" : Str)) = false := by decide) (hcd : (y == ("__classdict__" : Str)) = false := by decide)
    (he : starEach [.Name y py, .Name x p2] X.env = (false, eval (.Name y py) X.env) :: starEach [.Name x p2] X.env := by rfl) (he2 : starEach [.Name x p2] X.env = (false, eval (.Name x p2) X.env) :: starEach [] X.env := by rfl) (hpl : (backTo pos (starEach [.Name x p2] X.env)).any (·.1) = false := by rfl) :
    DE W0 (X.suite a ((a, oe) :: pn)) (.Call (.Name "isinstance" p) [.Name y py, .Name x p2] [] pos) (gIsE i (sub cl)) := by
  cases eb : sub cl with
  | none => exact ⟨fun pins s σ H Q I ⟨B, Rg, δ, S0, w⟩ => by
      unfold gIsE at w
      split at w
      · rename_i z; cases z
      · exact w.elim⟩
  | some b =>
    obtain ⟨ec, hkit⟩ := it.ex cl b C eb hcl
    refine PE.imp (pe_callB (X := X.suite a ((a, oe) :: pn)) (call_isE ec hz hf) hg hm (by decide +kernel) (pa_cons (pe_var (i := i) hN hv hdy hcd) (pa_cons (pe_bltn (v := .ty T) hg2 hm2 hb rfl hn hdb) pa_nil he2) he) (by decide) (by decide) he hpl) fun σ H Q ⟨B, Rg, δ, S0, w⟩ => ?_
    unfold gIsE at w
    split at w
    · rename_i b' e1 e2
      cases e2
      obtain ⟨b0, u, fp, q, n, f⟩ := S0
      obtain ⟨ov, f1, e3, r, _⟩ := q.get e1
      obtain ⟨_, a', ea, rfl⟩ := r
      obtain rfl : a = a' := Option.some.inj ea
      exact ⟨_, e3, .ty T, .type T, b, rfl, fun u h => h, hkit, w _ H (Same.refl H) (RepR.plain rfl)⟩
    · exact w.elim
end
end DL
/-! DLw: unpacking; common readings: bounds, draws, the Euclid of a law. -/
namespace DL
open PySem PySem.Spec PyProof.Rows L2
section
variable {W : WX} {X : Cx} {e : Expr} {es : List Expr} {ga : GE} {pos p : Pos}
/-- a, b = e: e a tuple or a list -/
def gUnpT (is : List Nat) (ga : GE) : GS := fun δ => (lift (ga δ) δ).bind fun r => match r.d with
  | .lst xs => if xs.length = is.length then .ok (.nx (setAll is (xs.map D.p) δ)) else .bad
  | d => match r with
    | .own _ => match (Tg.tup is).set d δ with
      | some δ' => .ok (.nx δ')
      | none => .bad
    | .vw _ => .bad
theorem ds_unpT {k n : Nat} {is : List Nat} (hc : X.calm = true) (hg : PGs X es (gNms is)) (ha : DE W X e ga) (hl : is.length = n) (hn : (assignEach es X.env).length = n := by rfl) (hst : (assignEach es X.env).findIdx? (·.1) = none := by rfl)
    (hs : swapsWithSole [.Tuple es k p] e pos.line X.env = pure false := by rfl) (hw : swappedStores [.Tuple es k p] e X.env = pure none := by rfl)
    (h1 : (assignEach [.Tuple es k p] X.env).map (·.2) = [assign (.Tuple es k p) X.env] := by rfl) : DS W X (.Assign [.Tuple es k p] e pos) (gUnpT is ga) := by
  subst hl
  have hg2 : PG X (.Tuple es k p) (fun v σ H Q => L2.gTup X.K is.length (gNms is) v σ H Q ∨ L2.gLst X.K is.length (gNms is) v σ H Q) :=
    ⟨fun pins s σ H v u Q I r hw => hw.elim (fun q => (pg_tup hc hg hn hst).run pins s σ H v u Q I r q) fun q => (pg_lst hc hg hn hst).run pins s σ H v u Q I r q⟩
  refine PS.imp (ps_asg ha hg2 hs hw h1) fun D σ H ⟨B, Rg, δ, S0, w⟩ => ?_
  refine tDS_val S0 w fun r v H1 s1 rv S1 q => ?_
  split at q
  · rename_i xs ed
    split at q
    · rename_i hl
      obtain ⟨fp0, rd⟩ := rv.look
      rw [ed] at rd
      obtain ⟨a, vs, rfl, qa, _, ra⟩ := rd
      obtain ⟨b, u, fp, z, qn, qf⟩ := S1
      refine .inr ⟨a, vs, rfl, SqL.of qa, by rw [ra.len, hl], setAll_ok is _ vs [] σ _ fp _ (by simpa using hl) z ra.ds (by simpa using qn) fun σ' fp' z1 z2 z3 => q σ' H1 ⟨b, u, fp', z1, z2, fun a ha => qf a (by simpa using z3 a ha)⟩⟩
    · exact q.elim
  · split at q
    · split at q
      · rename_i δ' e1
        obtain ⟨fp, q1, n, f⟩ := rv
        exact .inl (Tg.ok S0 s1 q1 n f e1 fun σ' S2 => q σ' H1 S2)
      · exact q.elim
    · exact q.elim
end
/-- below 2^k in size -/
structure Z (k : Nat) (x : Int) : Prop where
  h : x.natAbs < 2 ^ k
theorem Z.mono {j k : Nat} {x : Int} (h : Z j x) (hk : j ≤ k) : Z k x := ⟨Nat.lt_of_lt_of_le h.h (Nat.pow_le_pow_right (by decide) hk)⟩
theorem Z.mul {j k : Nat} {x y : Int} (hx : Z j x) (hy : Z k y) : Z (j + k) (x * y) := ⟨by
  rw [Int.natAbs_mul, Nat.pow_add]
  exact Nat.mul_lt_mul'' hx.h hy.h⟩
theorem Z.add {k : Nat} {x y : Int} (hx : Z k x) (hy : Z k y) : Z (k + 1) (x + y) := ⟨by
  have h1 := hx.h
  have h2 := hy.h
  rw [Nat.pow_succ]
  generalize 2 ^ k = T at *
  omega⟩
theorem Z.neg {k : Nat} {x : Int} (hx : Z k x) : Z k (-x) := ⟨by rw [Int.natAbs_neg]; exact hx.h⟩
theorem Z.sub {k : Nat} {x y : Int} (hx : Z k x) (hy : Z k y) : Z (k + 1) (x - y) := by
  rw [Int.sub_eq_add_neg]
  exact hx.add hy.neg
theorem Z.log {k : Nat} {x : Int} (h : Z k x) : x.natAbs.log2 ≤ k := by
  by_cases hz : x.natAbs = 0
  · rw [hz]; exact Nat.zero_le _
  · exact Nat.le_of_lt ((Nat.log2_lt hz).mpr h.h)
theorem Z.cmul {j k : Nat} {x y : Int} (hx : Z j x) (hy : Z k y) (h : j + k < 1000000 := by decide) : CMulW x y := by
  have h1 := hx.log
  have h2 := hy.log
  show x.natAbs.log2 + y.natAbs.log2 < 1000000
  omega
theorem Z.cdiv {k : Nat} {x y : Int} (hy : Z k y) (hp : 0 < y) (h : k < 9000 := by decide) : CDivW x y := ⟨hp, Nat.lt_of_le_of_lt hy.log h⟩
theorem Z.of {k : Nat} {x : Int} (h1 : -(2 ^ k) < x) (h2 : x < 2 ^ k) : Z k x := ⟨by
  have e : ((2 ^ k : Nat) : Int) = (2 : Int) ^ k := by rw [Int.natCast_pow]; rfl
  rw [← e] at h1 h2
  generalize (2 ^ k : Nat) = T at *
  omega⟩
theorem Z.lt {k : Nat} {x : Int} (h : Z k x) : -(2 ^ k) < x ∧ x < 2 ^ k := by
  have e : ((2 ^ k : Nat) : Int) = (2 : Int) ^ k := by rw [Int.natCast_pow]; rfl
  have := h.h
  rw [← e]
  generalize (2 ^ k : Nat) = T at *
  omega
theorem Z.div {k : Nat} {x y : Int} (hx : Z k x) (hy : 0 < y) : Z k (x / y) := ⟨by
  have h := hx.h
  obtain ⟨Y, rfl⟩ : ∃ Y : Nat, y = (Y : Int) := ⟨y.toNat, by omega⟩
  have h1 : (Y : Int) * (x / (Y : Int)) ≤ x := Int.mul_ediv_self_le (by omega)
  have h2 : x < (Y : Int) * (x / (Y : Int)) + (Y : Int) := Int.lt_mul_ediv_self_add (by omega)
  generalize x / (Y : Int) = q at *
  generalize (2 ^ k : Nat) = T at *
  by_cases hq : 0 ≤ q
  · have : q ≤ (Y : Int) * q := by
      have := Int.mul_le_mul_of_nonneg_right (show (1 : Int) ≤ Y by omega) hq
      omega
    omega
  · have : (Y : Int) * q + (Y : Int) ≤ q + 1 := by
      have e : (Y : Int) * q + (Y : Int) = (Y : Int) * (q + 1) := by rw [Int.mul_add, Int.mul_one]
      rw [e]
      have := Int.mul_le_mul_of_nonneg_right (show (1 : Int) ≤ Y by omega) (show 0 ≤ -(q + 1) by omega)
      simp only [Int.mul_neg, Int.one_mul] at this
      omega
    omega⟩
section
variable {δ : Sl} {Q : R → Prop}
/-- a draw of fewer than n -/
theorem draw_eq {n : Int} {gs : GA} (h0 : 0 < n) (h1 : n < 2 ^ 250) (hg : gs δ = .ok [.vw .orc, .own (.p (.int n))]) (h : ∀ i : Int, 0 ≤ i → i < n → Q (.own (.p (.int i)))) : Wp (gFn 2 takeF gs δ) Q (fun _ _ => False) := by
  refine w_fn hg rfl ?_
  show Wp (takeF [.orc, .p (.int n)]) _ _
  rw [take_big h0 h1]
  refine wp_pick.mpr fun i hi => wp_ok.mpr (h _ (by omega) (by omega))
theorem set_fn {i n : Nat} {f : Fn} {gs : GA} {rs : List R} {T : D → Prop} {Q : Fl → Prop} (h1 : gs δ = .ok rs) (h2 : rs.length = n) (h3 : Wp (f (rs.map R.d)) T (fun _ _ => False)) (h4 : ∀ d, T d → Q (.nx (δ.set i (.own d)))) : Wp (gSet i (gFn n f gs) δ) Q (fun _ _ => False) :=
  w_set (w_fn h1 h2 (wp_imp h3 (fun d t => ⟨d, rfl, h4 d t⟩) fun _ _ z => z))
end
theorem cons_eq {a : GE} {gs : GA} {δ : Sl} {r : R} {rs : List R} (h1 : a δ = .ok r) (h2 : gs δ = .ok rs) : gCons a gs δ = .ok (r :: rs) := by
  unfold gCons
  rw [h1, Rn.bind_ok, h2]
  rfl
theorem fn_val {n : Nat} {f : Fn} {gs : GA} {δ : Sl} {rs : List R} {d : D} (h1 : gs δ = .ok rs) (h2 : rs.length = n) (h3 : f (rs.map R.d) = .ok d) : gFn n f gs δ = .ok (.own d) := by
  unfold gFn
  rw [h1, Rn.bind_ok, if_pos h2, h3]
  rfl
theorem set_eq {i : Nat} {a : GE} {δ : Sl} {d : D} (h : a δ = .ok (.own d)) : gSet i a δ = .ok (.nx (δ.set i (.own d))) := by
  unfold gSet lift
  rw [h]
  rfl
theorem ret_eq {a : GE} {δ : Sl} {d : D} (h : a δ = .ok (.own d)) : gRet a δ = .ok (.ret d) := by
  unfold gRet lift
  rw [h]
  rfl
theorem andV_eq {a b : GE} {δ : Sl} {r : Rn Unit R} (h1 : a δ = .ok (.own (.p (.bl true)))) (h2 : b δ = r) : gAndV a b δ = r := by
  unfold gAndV
  rw [h1]
  exact h2
theorem andV_eqF {a b : GE} {δ : Sl} (h1 : a δ = .ok (.own (.p (.bl false)))) : gAndV a b δ = .ok (.own (.p (.bl false))) := by
  unfold gAndV
  rw [h1]
  rfl
theorem orV_eqT {a b : GE} {δ : Sl} (h1 : a δ = .ok (.own (.p (.bl true)))) : gOrV a b δ = .ok (.own (.p (.bl true))) := by
  unfold gOrV
  rw [h1]
  rfl
theorem orV_eqF {a b : GE} {δ : Sl} {r : Rn Unit R} (h1 : a δ = .ok (.own (.p (.bl false)))) (h2 : b δ = r) : gOrV a b δ = r := by
  unfold gOrV
  rw [h1]
  exact h2
theorem or_eqF {a b : GT} {δ : Sl} {r : Rn Unit Bool} (h1 : a δ = .ok false) (h2 : b δ = r) : gOr a b δ = r := by
  unfold gOr
  rw [h1]
  exact h2
theorem or_eqT {a b : GT} {δ : Sl} (h1 : a δ = .ok true) : gOr a b δ = .ok true := by
  unfold gOr
  rw [h1]
  rfl
theorem and_eqT {a b : GT} {δ : Sl} {r : Rn Unit Bool} (h1 : a δ = .ok true) (h2 : b δ = r) : gAnd a b δ = r := by
  unfold gAnd
  rw [h1]
  exact h2
theorem and_eqF {a b : GT} {δ : Sl} (h1 : a δ = .ok false) : gAnd a b δ = .ok false := by
  unfold gAnd
  rw [h1]
  rfl
theorem not_eq {a : GT} {δ : Sl} {k : Bool} (h1 : a δ = .ok k) : gNot a δ = .ok (!k) := by
  unfold gNot
  rw [h1]
  rfl
theorem tru_eq {a : GE} {δ : Sl} {k : Bool} (h : a δ = .ok (.own (.p (.bl k)))) : gTru a δ = .ok k := by
  unfold gTru
  rw [h]
  rfl
theorem if_eq {t : GT} {a b : GE} {δ : Sl} {k : Bool} {r : Rn Unit R} (h : t δ = .ok k) (h2 : (if k = true then a δ else b δ) = r) : gIf t a b δ = r := by
  unfold gIf
  rw [h]
  exact h2
theorem call_eq {f : List D → Rn Unit R} {gs : GA} {δ : Sl} {rs : List R} {r : Rn Unit R} (h1 : gs δ = .ok rs) (h2 : f (rs.map R.d) = r) : gCall f gs δ = r := by
  unfold gCall
  rw [h1]
  exact h2
def signedF : Fn := fnD 2 (gRet (gOp2 iSub (gFn 2 takeF (gCons (gVar 0) (gCons (gOp2 fAdd (gOp2 fMul (gC (.int 2)) (gVar 1)) (gC (.int 1))) gNil))) (gVar 1)))
theorem signed_wp (m : Int) (h0 : 0 ≤ m) (h1 : m < 2 ^ 240) : Wp (signedF [.orc, .p (.int m)]) (fun d => ∃ i : Int, -m ≤ i ∧ i ≤ m ∧ d = .p (.int i)) (fun _ _ => False) := by
  have cm : CMulW 2 m := Z.cmul (j := 2) (k := 240) ⟨by decide⟩ (Z.of (by omega) h1)
  refine fn_wp (w_ret (w_op2 (draw_eq (n := 2 * m + 1) (by omega) (by omega) ?_ fun i h2 h3 => ?_)))
  · have e : gOp2 fMul (gC (.int 2)) (gVar 1) (startS 2 [.orc, .p (.int m)]) = .ok (.own (.p (.int (2 * m)))) := by
      show (if CMulW 2 m then _ else _) = _
      rw [if_pos cm]
    have e2 : gOp2 fAdd (gOp2 fMul (gC (.int 2)) (gVar 1)) (gC (.int 1)) (startS 2 [.orc, .p (.int m)]) = .ok (.own (.p (.int (2 * m + 1)))) := op2_eq e rfl rfl
    unfold gCons
    rw [e2]
    rfl
  · exact w_of (v := .own (.p (.int m))) rfl (w_of (v := .own (.p (.int (i - m)))) rfl ⟨_, rfl, i - m, by omega, by omega, rfl⟩)
/-! ### Euclid -/
def divisorG : GS := gSeq (gSet 0 (gCall fAbs (gCons (gVar 0) gNil)))
  (gSeq (gSet 1 (gCall fAbs (gCons (gVar 1) gNil)))
  (gSeq (fun δ => gWhile (gTB (gOp2 (fB fGt) (gVar 1) (gC (.int 0)))) (gPar 0 1 (gCons (gVar 1) (gCons (gOp2 fMod (gCall fInt1 (gCons (gVar 0) gNil)) (gVar 1)) gNil))) ((fuelAt 1 1) δ) δ)
  (gRetV 0)))
theorem while_tt {gt : GT} {g : GS} {n : Nat} {δ δ' : Sl} {r : Rn Sl Fl} (h : gt δ = .ok true) (w : g δ = .ok (.nx δ')) (k : gWhile gt g n δ' = r) : gWhile gt g (n + 1) δ = r := by
  unfold gWhile lift
  rw [h]
  show ((g δ).bind _) = r
  rw [w]
  exact k
theorem while_ff {gt : GT} {g : GS} {n : Nat} {δ : Sl} (h : gt δ = .ok false) : gWhile gt g (n + 1) δ = .ok (.nx δ) := by
  unfold gWhile lift
  rw [h]
  rfl
theorem euclid : ∀ (n a b : Nat) (ss : Sl), b ≤ n → gWhile (gTB (gOp2 (fB fGt) (gVar 1) (gC (.int 0)))) (gPar 0 1 (gCons (gVar 1) (gCons (gOp2 fMod (gCall fInt1 (gCons (gVar 0) gNil)) (gVar 1)) gNil))) (n + 1) (.own (.p (.int (a : Int))) :: .own (.p (.int (b : Int))) :: ss) =
    .ok (.nx (.own (.p (.int ((Nat.gcd a b : Nat) : Int))) :: .own (.p (.int 0)) :: ss))
  | n, a, 0, ss, _ => by
    rw [Nat.gcd_zero_right]
    exact while_ff rfl
  | n, a, b + 1, ss, h => by
    obtain ⟨m, rfl⟩ : ∃ m, n = m + 1 := ⟨n - 1, by omega⟩
    have e : Nat.gcd a (b + 1) = Nat.gcd (b + 1) (a % (b + 1)) := by
      rw [Nat.gcd_comm a, Nat.gcd_rec (b + 1) a, Nat.gcd_comm]
    have lt := Nat.mod_lt a (show 0 < b + 1 by omega)
    rw [e]
    refine while_tt (δ' := .own (.p (.int ((b + 1 : Nat) : Int))) :: .own (.p (.int ((a % (b + 1) : Nat) : Int))) :: ss) ?_ ?_ (euclid m (b + 1) (a % (b + 1)) ss (by omega))
    · show (fB fGt (.p (.int ((b + 1 : Nat) : Int))) (.p (.int 0))).bind _ = _
      have : fGt (.p (.int ((b + 1 : Nat) : Int))) (.p (.int 0)) = .ok true := by
        show Rn.ok _ = _
        have hh : (0 : Int) < ((b + 1 : Nat) : Int) := by omega
        simp [hh]
      rw [fB_eq this]
      rfl
    · have e2 : gOp2 fMod (gCall fInt1 (gCons (gVar 0) gNil)) (gVar 1) (.own (.p (.int (a : Int))) :: .own (.p (.int ((b + 1 : Nat) : Int))) :: ss) = .ok (.own (.p (.int ((a % (b + 1) : Nat) : Int)))) := by
        refine op2_eq (x := .own (.p (.int (a : Int)))) (y := .own (.p (.int ((b + 1 : Nat) : Int)))) rfl rfl ?_
        show (if 0 < ((b + 1 : Nat) : Int) then _ else _) = _
        rw [if_pos (by omega), Int.natCast_emod]
      have e3 := cons_eq (a := gVar 1) (r := .own (.p (.int ((b + 1 : Nat) : Int)))) rfl (cons_eq e2 (rfl : gNil (.own (.p (.int (a : Int))) :: .own (.p (.int ((b + 1 : Nat) : Int))) :: ss) = .ok []))
      unfold gPar lift
      rw [e3]
      rfl
theorem divisor_eq (a b : Int) : fnD 2 divisorG [.p (.int a), .p (.int b)] = .ok (.p (.int ((Nat.gcd a.natAbs b.natAbs : Nat) : Int))) := by
  have ab : ∀ x : Int, (if x < 0 then -x else x) = ((x.natAbs : Nat) : Int) := fun x => by split <;> omega
  refine fn_eq (seq_eq (δ' := [.own (.p (.int (a.natAbs : Int))), .bor none (.p (.int b))]) ?_ (seq_eq (δ' := [.own (.p (.int (a.natAbs : Int))), .own (.p (.int (b.natAbs : Int)))]) ?_ (seq_eq (euclid b.natAbs a.natAbs b.natAbs [] (Nat.le_refl _)) rfl)))
  · rw [← ab a]; rfl
  · rw [← ab b]; rfl
end DL
/-! DLx: range downwards; another Euclid; shifts. -/
namespace DL
open PySem PySem.Spec PyProof.Rows L2
section
variable {K : PySem.W.Frag} {H0 H : Hp}
theorem Walk.rangeC (lo c : Int) (n : Nat) : Walk K H0 H (Itc lo c n) ((List.range n).map fun (i : Nat) => P.int (lo + (i : Int) * c)) := by
  refine ⟨fun _ => none, (fun _ _ z => by cases z), (fun _ z => absurd rfl z), fun H' _ i => ⟨fun p e => ?_, fun h => (by have h' : n ≤ i := (by simpa using h); exact h')⟩⟩
  simp only [List.getElem?_map, Option.map_eq_some_iff] at e
  obtain ⟨j, ej, rfl⟩ := e
  obtain ⟨hj, ej⟩ := List.getElem?_eq_some_iff.mp ej
  simp at hj ej
  subst ej
  refine ⟨hj, fun x H'' y => ?_⟩
  obtain ⟨rfl, rfl⟩ := y
  exact ⟨Same.refl _, rfl⟩
end
/-- lo, lo - 1, .., hi + 1 -/
def rangeN (lo hi : Int) : List P := (List.range (lo - hi).toNat).map fun (i : Nat) => P.int (lo + (i : Int) * (-1))
def fRange3 : List D → Rn Unit (List P)
  | [.p (.int i), .p (.int j), .p (.int c)] => if c = -1 ∧ -(2 ^ 62) ≤ i ∧ i < 2 ^ 62 ∧ -(2 ^ 62) ≤ j ∧ j < 2 ^ 62 then .ok (rangeN i j) else .bad
  | _ => .bad
section
variable {W : WX} {X : Cx} {a b c e tg : Expr} {gs : GA} {p pos : Pos}
theorem di_range3 (hm : X.mg "range" = none) (ha : DA W X [a, b, c] gs) (hg : Gl X "range" := by rfl) (hs : starEach [a, b, c] X.env = (false, eval a X.env) :: starEach [b, c] X.env := by rfl) (hpl : (backTo pos (starEach [b, c] X.env)).any (·.1) = false := by rfl) : DI W X tg (.Call (.Name "range" p) [a, b, c] [] pos) (gRangeI fRange3 gs) := by
  refine PI.imp (pi_range3 hg hm ha hs hpl) fun σ H Rk ⟨B, Rg, δ, S0, w⟩ => ?_
  refine ⟨B, Rg, δ, S0, Rn.wp_mono (Rn.wp_bind.mp w) (fun rs q vs H1 s1 ra => ?_) fun _ _ q => q⟩
  obtain ⟨fp, r, _⟩ := ra
  have lk := r.look
  generalize rs.map R.d = ds at lk q
  unfold fRange3 at q
  split at q
  · rename_i i j k
    obtain ⟨v, r, rfl, ⟨fp1, q1⟩, u, r', rfl, ⟨gp, q2⟩, w, r'', rfl, ⟨hp, q3⟩, rfl⟩ := lk
    obtain rfl : v = .int i := q1.1
    obtain rfl : u = .int j := q2.1
    obtain rfl : w = .int k := q3.1
    split at q
    · rename_i hz
      obtain ⟨rfl, h1, h2, h3, h4⟩ := hz
      exact ⟨i, j, -1, _, rfl, RgC.neg h1 h2 h3 h4, q _ H1 s1 (Walk.rangeC _ _ _)⟩
    · exact q.elim
  · exact q.elim
end
/-- a slot with an int -/
def IsI (s : S) (a : Int) : Prop := s = .own (.p (.int a)) ∨ s = .bor none (.p (.int a))
theorem euclidN : ∀ (n a b : Nat) (s0 s1 : S) (ss : Sl), IsI s0 (a : Int) → IsI s1 (b : Int) → b ≤ n → ∃ s0' s1', IsI s0' ((Nat.gcd a b : Nat) : Int) ∧
    gWhile (gTB (gOp2 (fB (fEqB true)) (gVar 1) (gC (.int 0)))) (gPar 0 1 (gCons (gVar 1) (gCons (gOp2 fMod (gCall fInt1 (gCons (gVar 0) gNil)) (gVar 1)) gNil))) (n + 1) (s0 :: s1 :: ss) = .ok (.nx (s0' :: s1' :: ss))
  | n, a, 0, s0, s1, ss, h0, h1, _ => by
    rw [Nat.gcd_zero_right]
    refine ⟨s0, s1, h0, while_ff ?_⟩
    rcases h1 with rfl | rfl <;> rfl
  | n, a, b + 1, s0, s1, ss, h0, h1, h => by
    obtain ⟨m, rfl⟩ : ∃ m, n = m + 1 := ⟨n - 1, by omega⟩
    have e : Nat.gcd a (b + 1) = Nat.gcd (b + 1) (a % (b + 1)) := by
      rw [Nat.gcd_comm a, Nat.gcd_rec (b + 1) a, Nat.gcd_comm]
    have lt := Nat.mod_lt a (show 0 < b + 1 by omega)
    rw [e]
    obtain ⟨t0, t1, i0, w⟩ := euclidN m (b + 1) (a % (b + 1)) (.own (.p (.int ((b + 1 : Nat) : Int)))) (.own (.p (.int ((a % (b + 1) : Nat) : Int)))) ss (.inl rfl) (.inl rfl) (by omega)
    refine ⟨t0, t1, i0, while_tt (δ' := .own (.p (.int ((b + 1 : Nat) : Int))) :: .own (.p (.int ((a % (b + 1) : Nat) : Int))) :: ss) ?_ ?_ w⟩
    · have hv : gVar 1 (s0 :: s1 :: ss) = .ok (.own (.p (.int ((b + 1 : Nat) : Int)))) := by rcases h1 with rfl | rfl <;> rfl
      have hk : decide (((b + 1 : Nat) : Int) ≠ 0) = true := decide_eq_true (by omega)
      refine tb_eq (op2_eq hv rfl ?_)
      show fB (fEqB true) (.p (.int ((b + 1 : Nat) : Int))) (.p (.int 0)) = _
      rw [ne_ints, hk]
    · have hv : gVar 1 (s0 :: s1 :: ss) = .ok (.own (.p (.int ((b + 1 : Nat) : Int)))) := by rcases h1 with rfl | rfl <;> rfl
      have hu : gVar 0 (s0 :: s1 :: ss) = .ok (.own (.p (.int (a : Int)))) := by rcases h0 with rfl | rfl <;> rfl
      have e2 : gOp2 fMod (gCall fInt1 (gCons (gVar 0) gNil)) (gVar 1) (s0 :: s1 :: ss) = .ok (.own (.p (.int ((a % (b + 1) : Nat) : Int)))) := by
        refine op2_eq (x := .own (.p (.int (a : Int)))) (call_eq (cons_eq hu (rfl : gNil (s0 :: s1 :: ss) = .ok [])) rfl) hv ?_
        show (if 0 < ((b + 1 : Nat) : Int) then _ else _) = _
        rw [if_pos (by omega), Int.natCast_emod]
      have e3 := cons_eq hv (cons_eq e2 (rfl : gNil (s0 :: s1 :: ss) = .ok []))
      unfold gPar lift
      rw [e3]
      rfl
theorem Z.bits {k : Nat} {x : Int} (h : Z k x) : Builtin.Int.intBits x ≤ k + 1 := by
  have b : Builtin.Int.intBits x ≤ x.natAbs.log2 + 1 := by
    unfold Builtin.Int.intBits
    split <;> omega
  have := h.log
  omega
theorem Z.cshl {k : Nat} {x n : Int} (h : Z k x) (h0 : 0 ≤ n) (hn : (k : Int) + 1 + n ≤ 2 ^ 27) : CShl x n := ⟨h0, by
  have := h.bits
  omega⟩
theorem Z.pow2 {k n : Nat} (h : n < k) : Z k ((2 : Int) ^ n) := ⟨by
  rw [show ((2 : Int) ^ n) = (((2 : Nat) ^ n : Nat) : Int) by rw [Int.natCast_pow]; rfl, Int.natAbs_natCast]
  exact Nat.pow_lt_pow_right (by decide) h⟩
end DL
/-! DLy: texts: split, str, int of a text, f-strings, text times number. -/
namespace DL
open PySem PySem.Spec PyProof.Rows L2
theorem RepPs.strs {K : PySem.W.Frag} {H : Hp} : ∀ ys : List Str, RepPs K H (ys.map P.str) (ys.map V.str)
  | [] => rfl
  | y :: ys => ⟨.str y, ys.map V.str, rfl, rfl, RepPs.strs ys⟩
def fSplit (a : Str) : D → Rn Unit R
  | .p (.str b) => if (b.length == 0) = false ∧ a.length + 2 ≤ sizeLine then .ok (.own (.lst ((Txt.split a b).map P.str))) else .bad
  | _ => .bad
def gSplit (go ge : GE) : GE := fun δ => (go δ).bind fun s => match s.d with
  | .p (.str a) => (ge δ).bind fun r => fSplit a r.d
  | _ => .bad
section
variable {W : WX} {X : Cx} {a b e o tg iter : Expr} {es : List Expr} {ga gb gc go ge : GE} {gs : GA} {pos p p2 : Pos}
theorem de_split {apos : Pos} (ho : DE W X o go) (he : DE W X e ge) (hs : starEach [e] X.env = [(false, eval e X.env)] := by rfl) (hbase : attributeBase o "split" X.env (eval o X.env) = eval o X.env := by rfl) (hline : (apos.endLine == pos.line) = true := by rfl) :
    DE W X (.Call (.Attribute o "split" apos) [e] [] pos) (gSplit go ge) := by
  refine PE.imp (pe_split ho he hs hbase hline) fun σ H Q ⟨B, Rg, δ, S0, w⟩ => ?_
  refine tD_val S0 w fun r1 v1 H1 s1 rv1 S1 w1 => ?_
  split at w1
  · rename_i a ea
    obtain rfl : v1 = .str a := rv1.getP ea
    refine ⟨⟨a, rfl⟩, ?_⟩
    refine tD_val S1 w1 fun r2 v2 H2 s2 rv2 S2 w2 => ?_
    unfold fSplit at w2
    split at w2
    · rename_i b eb
      obtain rfl : v2 = .str b := rv2.getP eb
      split at w2
      · rename_i hz
        refine ⟨a, b, rfl, rfl, hz.1, hz.2, fun p hp => ?_⟩
        exact up_lst w2 (RepPs.strs _) hp
      · exact w2.elim
    · exact w2.elim
  · exact w1.elim
/-- str(x) -/
def fStrc : List D → Rn Unit R
  | [.p (.int i)] => if i.natAbs.log2 < 1920 then .ok (.own (.p (.str (Str.ofString (toString i))))) else .bad
  | [.p (.str a)] => .ok (.own (.p (.str a)))
  | _ => .bad
theorem cg_strc {K : PySem.W.Frag} : CallG K (fun xs H Q => (∃ i, xs = [V.int i] ∧ i.natAbs.log2 < 1920 ∧ Q (.str (Str.ofString (toString i))) H) ∨ ∃ a, xs = [V.str a] ∧ Q (.str a) H) fStrc := by
  intro H ds vs Q E hl h
  unfold fStrc at h
  split at h
  · rename_i i
    obtain ⟨v, fp, rfl, r⟩ := hl.one
    obtain rfl : v = .int i := r.1
    split at h
    · rename_i hz
      exact .inl ⟨i, rfl, hz, RepP.up h rfl⟩
    · exact h.elim
  · rename_i a
    obtain ⟨v, fp, rfl, r⟩ := hl.one
    obtain rfl : v = .str a := r.1
    exact .inr ⟨a, rfl, RepP.up h rfl⟩
  · exact h.elim
theorem call_strc : CallR X (.type "str") (fun xs H Q => (∃ i, xs = [V.int i] ∧ i.natAbs.log2 < 1920 ∧ Q (.str (Str.ofString (toString i))) H) ∨ ∃ a, xs = [V.str a] ∧ Q (.str a) H) := fun pins s σ H xs us Q I r h =>
  h.elim (fun q => call_str_int pins s σ H xs us Q I r q) fun q => SkE.call_str_str pins s σ H xs us Q I r q
theorem de_strc (hm : X.mg "str" = none) (ha : DA W X (e :: es) gs) (hg : Gl X "str" := by rfl) (he : starEach (e :: es) X.env = (false, eval e X.env) :: starEach es X.env := by rfl) (hpl : (backTo pos (starEach es X.env)).any (·.1) = false := by rfl) : DE W X (.Call (.Name "str" p) (e :: es) [] pos) (gCall fStrc gs) :=
  de_callTy call_strc cg_strc hm (by decide +kernel) ha hg (he := he) (hpl := hpl)
/-- int(x) -/
def fIntT : List D → Rn Unit R
  | [.p (.str a)] => match intText? a with
    | some n => if a.length ≤ 640 then .ok (.own (.p (.int n))) else .bad
    | none => .bad
  | ds => fInt1 ds
def rIntT : List V → Hp → VK → Prop := fun xs H Q => ((∃ i, xs = [.int i] ∧ Q (.int i) H) ∨ ∃ k, xs = [.bl k] ∧ Q (.int (if k then 1 else 0)) H) ∨ (∃ a n, xs = [.str a] ∧ PySem.intText? a = some n ∧ a.length ≤ 640 ∧ Q (.int n) H)
theorem cg_intT {K : PySem.W.Frag} : CallG K rIntT fIntT := by
  intro H ds vs Q E hl h
  unfold fIntT at h
  split at h
  · rename_i a
    obtain ⟨v, fp, rfl, r⟩ := hl.one
    obtain rfl : v = .str a := r.1
    split at h
    · rename_i n en
      split at h
      · rename_i hz
        exact .inr ⟨a, n, rfl, en, hz, RepP.up h rfl⟩
      · exact h.elim
    · exact h.elim
  · exact .inl (cg_int H _ vs Q E hl h)
theorem call_intT : CallR X (.type "int") rIntT := fun pins s σ H xs us Q I r h =>
  h.elim (fun q => call_int1 pins s σ H xs us Q I r q) fun q => call_int_str pins s σ H xs us Q I r q
theorem de_intT (hm : X.mg "int" = none) (ha : DA W X (e :: es) gs) (hg : Gl X "int" := by rfl) (he : starEach (e :: es) X.env = (false, eval e X.env) :: starEach es X.env := by rfl) (hpl : (backTo pos (starEach es X.env)).any (·.1) = false := by rfl) : DE W X (.Call (.Name "int" p) (e :: es) [] pos) (gCall fIntT gs) :=
  de_callTy call_intT cg_intT hm (by decide +kernel) ha hg (he := he) (hpl := hpl)
theorem fold_size (a : Array Nat) : ∀ (n : Nat) (acc : Array Nat), ((List.replicate n a).foldl (· ++ ·) acc).size = acc.size + n * a.size
  | 0, acc => by simp
  | n + 1, acc => by
    rw [List.replicate_succ, List.foldl_cons, fold_size a n (acc ++ a), Array.size_append, Nat.add_mul]
    omega
/-- a text times a number -/
def fMulS : D → D → Rn Unit R
  | .p (.str x), .p (.int k) => if 2 ≤ k ∧ k ≤ 1000 ∧ 1 ≤ x.length ∧ x.length ≤ 1000 then .ok (.own (.p (.str ⟨(List.replicate k.toNat x.cps).foldl (· ++ ·) #[]⟩))) else .bad
  | x, y => fMul x y
def rMulS : R2 := fun x y H Q => ∃ z k, x = .str z ∧ y = .int k ∧ (2 ≤ k ∧ k ≤ 1000 ∧ 1 ≤ z.length ∧ z.length ≤ 1000) ∧ Q (.str ⟨(List.replicate k.toNat z.cps).foldl (· ++ ·) #[]⟩) H
theorem op_mulS : OpR X (binaryOp .Mult) rMulS := by
  intro pins s σ H x y v u Q I rx ry h
  obtain ⟨z, k, rfl, rfl, ⟨h1, h2, h3, h4⟩, q⟩ := h
  obtain ⟨t, rfl⟩ := rx
  obtain ⟨t2, rfl⟩ := ry
  have e1 : ¬ k < 1 := by omega
  have e2 : (k == 1 || z.length == 0) = false := by
    rw [Bool.or_eq_false_iff]
    exact ⟨by simp; omega, by simp; omega⟩
  refine PySem.P.mul_str ?_ (fun _ _ => ?_) (fun _ _ => ?_) ?_
  · rw [decide_eq_false (by omega), decide_eq_false (by omega)]; rfl
  · have : (1000 : Int) ≤ (2 ^ 63 - 1) / k := (Int.le_ediv_iff_mul_le (by omega)).mpr (by omega)
    omega
  · have : z.length * k.toNat ≤ 1000 * 1000 := Nat.mul_le_mul h4 (by omega)
    generalize z.length * k.toNat = T at *
    show decide _ = false
    have hs := sizeLine_eq
    exact decide_eq_false (by omega)
  · rw [if_neg e1, e2, if_neg (by decide)]
    have hz : (⟨(List.replicate k.toNat z.cps).foldl (· ++ ·) #[]⟩ : Str).length ≤ sizeLine := by
      have e := fold_size z.cps k.toNat #[]
      have : k.toNat * z.cps.size ≤ 1000 * 1000 := Nat.mul_le_mul (by omega) h4
      have hs := sizeLine_eq
      show ((List.replicate k.toNat z.cps).foldl (· ++ ·) #[]).size ≤ sizeLine
      rw [e]
      generalize k.toNat * z.cps.size = T at *
      simp
      omega
    exact ⟨hz, .str _, H, I.tok _, ⟨_, rfl⟩, q⟩
theorem og_mulS {K : PySem.W.Frag} : OpG K (fun x y H Q => rMulS x y H Q ∨ rRep x y H Q ∨ rI CMulW (fun i j => .int (i * j)) x y H Q) fMulS := by
  intro H x y v u fx fy Q E rx ry h
  unfold fMulS at h
  split at h
  · rename_i z k
    obtain rfl : v = .str z := rx.1
    obtain rfl : u = .int k := ry.1
    split at h
    · rename_i hz
      exact .inl ⟨z, k, rfl, rfl, hz, RepP.up h rfl⟩
    · exact h.elim
  · exact .inr (og_mul H x y v u fx fy Q E rx ry h)
theorem de_mulS (ha : DE W X a ga) (hb : DE W X b gb) : DE W X (.BinOp a .Mult b pos) (gOp2 fMulS ga gb) := de_op2 (op_mulS.or op_mulA) og_mulS ha hb
/-! ### f-strings -/
def gFmt (g : GE) : GE := fun δ => (g δ).bind fun r => match r.d with
  | .p (.str y) => if y.length ≤ sizeLine then .ok (.own (.p (.str y))) else .bad
  | .p (.int i) => if i.natAbs.log2 < 1920 then .ok (.own (.p (.str (Str.ofString (toString i))))) else .bad
  | _ => .bad
theorem de_fmt (he : DE W X e ge) : DE W X (.FormattedValue e (-1) none pos) (gFmt ge) := by
  refine PE.imp (pe_fmt he) fun σ H Q ⟨B, Rg, δ, S0, w⟩ => ?_
  refine ⟨B, Rg, δ, S0, Rn.wp_mono (Rn.wp_bind.mp w) (fun r q v H1 s1 rv => ?_) fun _ _ q => q⟩
  split at q
  · rename_i y ey
    obtain rfl : v = .str y := rv.getP ey
    split at q
    · rename_i hz
      exact .inl ⟨y, rfl, hz, q _ H1 s1 (RepR.plain rfl)⟩
    · exact q.elim
  · rename_i i ei
    obtain rfl : v = .int i := rv.getP ei
    split at q
    · rename_i hz
      exact .inr ⟨i, rfl, hz, q _ H1 s1 (RepR.plain rfl)⟩
    · exact q.elim
  · exact q.elim
inductive DJ (W : WX) (X : Cx) : List Expr → List GE → Prop where
  | nil : DJ W X [] []
  | cons {e : Expr} {g : GE} {es : List Expr} {gs : List GE} (h : DE W X e g) (r : DJ W X es gs) : DJ W X (e :: es) (g :: gs)
theorem DJ.pj {es : List Expr} {gs : List GE} (h : DJ W X es gs) : PJ X es (gs.map (tD (dc X W))) := by
  induction h with
  | nil => exact .nil
  | cons h _ ih => exact .cons h ih
def gJl : List GE → Str → Sl → Rn Unit Str
  | [], acc, _ => .ok acc
  | g :: gs, acc, δ => (g δ).bind fun r => match r.d with
    | .p (.str y) => if (acc ++ y).length ≤ sizeLine then gJl gs (acc ++ y) δ else .bad
    | _ => .bad
def gJs (gs : List GE) : GE := fun δ => (gJl gs Str.empty δ).bind fun s => .ok (.own (.p (.str s)))
theorem js_of {c : DC} {B : Hp} {Rg : Rgs c.ex} {σ : L2.St} {δ : Sl} {H0 : Hp} : ∀ (gs : List GE) (acc : Str) (H : Hp) (Q : Str → Hp → Prop), SRel c.K B Rg σ H δ → Same H0 H →
    (gJl gs acc δ).wp (fun s => ∀ H', Same H0 H' → Q s H') (fun cl _ => ∀ C H', c.mg cl = some (.ref C) → Same H0 H' → c.W (.ref C) none σ H') → tJs (gs.map (tD c)) acc σ H Q
  | [], acc, H, Q, S0, s0, w => w H s0
  | g :: gs, acc, H, Q, S0, s0, w => by
    refine ⟨B, Rg, δ, S0, Rn.wp_mono (Rn.wp_bind.mp w) (fun r q v H1 s1 rv => ?_) fun cl _ q C H' hm s => q C H' hm (s0.trans s)⟩
    split at q
    · rename_i y ey
      obtain rfl : v = .str y := rv.getP ey
      split at q
      · rename_i hz
        exact ⟨y, rfl, hz, js_of gs (acc ++ y) H1 Q (S0.grow s1) (s0.trans s1) q⟩
      · exact q.elim
    · exact q.elim
theorem de_js {v1 v2 : Expr} {rest : List Expr} {gs : List GE} (h : DJ W X (v1 :: v2 :: rest) gs) : DE W X (.JoinedStr (v1 :: v2 :: rest) pos) (gJs gs) := by
  refine PE.imp (pe_joined h.pj) fun σ H Q ⟨B, Rg, δ, S0, w⟩ => ?_
  refine js_of gs Str.empty H _ S0 (Same.refl H) (Rn.wp_mono (Rn.wp_bind.mp w) (fun s q H' s1 => q _ H' s1 (RepR.plain rfl)) fun _ _ q => q)
end
end DL
/-! DLz: ord, index in a text. -/
namespace DL
open PySem PySem.Spec PyProof.Rows L2
section
variable {W : WX} {X : Cx} {a b e o tg iter : Expr} {es : List Expr} {ga gb gc go ge : GE} {gs : GA} {pos p p2 : Pos}
def fOrd : List D → Rn Unit R
  | [.p (.str x)] => if x.length = 1 then .ok (.own (.p (.int (x.cps.getD 0 0 : Nat)))) else .bad
  | _ => .bad
theorem cg_ord {K : PySem.W.Frag} : CallG K (fun xs H Q => ∃ x, xs = [V.str x] ∧ x.length = 1 ∧ Q (.int (x.cps.getD 0 0 : Nat)) H) fOrd := by
  intro H ds vs Q E hl h
  unfold fOrd at h
  split at h
  · rename_i x
    obtain ⟨v, fp, rfl, r⟩ := hl.one
    obtain rfl : v = .str x := r.1
    split at h
    · rename_i hz
      exact ⟨x, rfl, hz, RepP.up h rfl⟩
    · exact h.elim
  · exact h.elim
theorem de_ord (hm : X.mg "ord" = none) (ha : DA W X (e :: es) gs) (hg : Gl X "ord" := by rfl) (he : starEach (e :: es) X.env = (false, eval e X.env) :: starEach es X.env := by rfl) (hpl : (backTo pos (starEach es X.env)).any (·.1) = false := by rfl) : DE W X (.Call (.Name "ord" p) (e :: es) [] pos) (gCall fOrd gs) :=
  de_callB call_ord cg_ord hm (by decide +kernel) ha hg (he := he) (hpl := hpl)
/-- s.index(y, i), found -/
def gIdx (go : GE) (gs : GA) : GE := fun δ => (go δ).bind fun s => match s.d with
  | .p (.str a) => (gs δ).bind fun rs => match rs.map R.d with
    | [.p (.str b), .p (.int i)] => match Txt.indexFrom a b i with
      | some k => .ok (.own (.p (.int (k : Nat))))
      | none => .bad
    | _ => .bad
  | _ => .bad
theorem de_idx {apos : Pos} (hc : X.calm = true) (tk : Takes X W) (ho : DE W X o go) (ha : DA W X (e :: es) gs)
    (hbase : attributeBase o "index" X.env (eval o X.env) = eval o X.env := by rfl)
    (hfew : ((backTo pos (starEach (e :: es) X.env)).all (fun x => !x.1) && (backToKw pos (keywordEach [] X.env)).all (fun x => x.1.isSome)
      && decide ((e :: es).length + ([] : List Keyword).length + (if ([] : List Keyword).isEmpty then 0 else 1) < 30)) = true := by rfl)
    (hline : (apos.endLine == pos.line) = true := by rfl) (hs : starEach (e :: es) X.env = (false, eval e X.env) :: starEach es X.env := by rfl) (hplain : (backTo pos (starEach es X.env)).any (·.1) = false := by rfl) :
    DE W X (.Call (.Attribute o "index" apos) (e :: es) [] pos) (gIdx go gs) := by
  refine PE.imp (pe_bmS PySem.F.plainAttrs_str PySem.F.slot_str_index PySem.F.type_str_index (mt_indexFromX hc tk) ho ha hbase hfew hline hs hplain) fun σ H Q ⟨B, Rg, δ, S0, w⟩ => ?_
  refine tD_val S0 w fun r1 v1 H1 s1 rv1 S1 w1 => ?_
  split at w1
  · rename_i a ea
    obtain rfl : v1 = .str a := rv1.getP ea
    refine ⟨rfl, ?_⟩
    refine ⟨B, Rg, δ, S1, Rn.wp_mono (Rn.wp_bind.mp w1) (fun rs q vs H2 s2 ra => ?_) fun _ _ q C H' hm s => q C H' hm s⟩
    obtain ⟨fp, q1, _⟩ := ra
    have lk := q1.look
    generalize rs.map R.d = ds at lk q
    split at q
    · rename_i b i
      obtain ⟨v, u, fp1, gp, rfl, r1, r2⟩ := lk.two
      obtain rfl : v = .str b := r1.1
      obtain rfl : u = .int i := r2.1
      split at q
      · rename_i k ek
        refine ⟨a, b, i, rfl, rfl, fun k' e' => ?_, fun z => by rw [ek] at z; cases z⟩
        rw [ek] at e'
        obtain rfl := Option.some.inj e'
        exact q _ H2 s2 (RepR.plain rfl)
      · exact q.elim
    · exact q.elim
  · exact w1.elim
end
end DL
set_option maxHeartbeats 4000000
namespace Lw
open PySem PySem.Spec PyProof.Rows L2 DL
def topS (i : Nat) : Stmt := PySem.Challenge.pw_tensorworks_k70_lines_of_the_journal.main.body.getD i (.Pass ⟨0, 0, 0, 0⟩)
abbrev s__law_begin : Stmt := topS 15
abbrev n__law_begin : List Str := ["script", "seed", "cell"]
theorem sc__law_begin : FnScope n__law_begin ["script"] (defScope s__law_begin) := ⟨rfl, rfl, rfl, by decide +kernel, rfl, by decide +kernel, by decide +kernel⟩
abbrev s__law_take : Stmt := topS 16
abbrev n__law_take : List Str := ["d", "many", "small", "digit"]
theorem sc__law_take : FnScope n__law_take ["d", "many"] (defScope s__law_take) := ⟨rfl, rfl, rfl, by decide +kernel, rfl, by decide +kernel, by decide +kernel⟩
abbrev s__law_check : Stmt := topS 19
abbrev n__law_check : List Str := ["text", "total", "k"]
theorem sc__law_check : FnScope n__law_check ["text"] (defScope s__law_check) := ⟨rfl, rfl, rfl, by decide +kernel, rfl, by decide +kernel, by decide +kernel⟩
abbrev s__law_signed : Stmt := topS 17
abbrev n__law_signed : List Str := ["d", "most"]
theorem sc__law_signed : FnScope n__law_signed ["d", "most"] (defScope s__law_signed) := ⟨rfl, rfl, rfl, by decide +kernel, rfl, by decide +kernel, by decide +kernel⟩
abbrev s__law_number : Stmt := topS 20
abbrev n__law_number : List Str := ["d", "n"]
theorem sc__law_number : FnScope n__law_number ["d"] (defScope s__law_number) := ⟨rfl, rfl, rfl, by decide +kernel, rfl, by decide +kernel, by decide +kernel⟩
abbrev s_check_number : Stmt := topS 10
abbrev n_check_number : List Str := ["text", "total", "k"]
theorem sc_check_number : FnScope n_check_number ["text"] (defScope s_check_number) := ⟨rfl, rfl, rfl, by decide +kernel, rfl, by decide +kernel, by decide +kernel⟩
abbrev s_read_integer : Stmt := topS 5
abbrev n_read_integer : List Str := ["word", "most", "digits", "sign"]
theorem sc_read_integer : FnScope n_read_integer ["word", "most"] (defScope s_read_integer) := ⟨rfl, rfl, rfl, by decide +kernel, rfl, by decide +kernel, by decide +kernel⟩
abbrev s_numbers_in : Stmt := topS 12
abbrev n_numbers_in : List Str := ["words", "many", "row", "word", "n"]
theorem sc_numbers_in : FnScope n_numbers_in ["words", "many"] (defScope s_numbers_in) := ⟨rfl, rfl, rfl, by decide +kernel, rfl, by decide +kernel, by decide +kernel⟩
abbrev s_read_natural : Stmt := topS 6
abbrev n_read_natural : List Str := ["word", "most"]
theorem sc_read_natural : FnScope n_read_natural ["word", "most"] (defScope s_read_natural) := ⟨rfl, rfl, rfl, by decide +kernel, rfl, by decide +kernel, by decide +kernel⟩
abbrev s_read_line : Stmt := topS 13
abbrev n_read_line : List Str := ["line", "sizes", "words", "many", "steps", "told", "weights", "at", "size"]
theorem sc_read_line : FnScope n_read_line ["line", "sizes"] (defScope s_read_line) := ⟨rfl, rfl, rfl, by decide +kernel, rfl, by decide +kernel, by decide +kernel⟩
abbrev s__law_told : Stmt := topS 18
abbrev n__law_told : List Str := ["line", "sizes", "actual", "e"]
theorem sc__law_told : FnScope n__law_told ["line", "sizes"] (defScope s__law_told) := ⟨rfl, rfl, rfl, by decide +kernel, rfl, by decide +kernel, by decide +kernel⟩
abbrev s_journal_line : Stmt := topS 11
abbrev n_journal_line : List Str := ["steps", "weights", "words", "row", "text", "n"]
theorem sc_journal_line : FnScope n_journal_line ["steps", "weights"] (defScope s_journal_line) := ⟨rfl, rfl, rfl, by decide +kernel, rfl, by decide +kernel, by decide +kernel⟩
abbrev s_law : Stmt := topS 21
abbrev n_law : List Str := ["script", "d", "most", "sizes", "weights", "steps", "text", "row", "line", "told", "signs", "turn", "place", "sign", "words", "spot", "longer", "shorter", "k", "size", "n"]
theorem sc_law : FnScope n_law ["script"] (defScope s_law) := ⟨rfl, rfl, rfl, by decide +kernel, rfl, by decide +kernel, by decide +kernel⟩
def tc_TensorError : List (Str × Bool) := [("JournalError", true)]
def ti_JournalError : List (Str × Bool) := [("JournalError", true)]
def m__law_begin : Fn := beginF
def m__law_take : Fn := takeF
def g__law_check : GS := (gSeq (gSet 1 (gC (.int 0)))
  (gSeq (gFor (.one 2) (gRangeI fRange1 (gCons (gCall fLen (gCons (gVar 0) gNil)) gNil)) (gSet 1 (gOp2 fMod (gCall fIntT (gCons (gOp2 fAdd (gVar 1) (gOp2 fMul (gOp2 fAdd (gVar 2) (gC (.int 1))) (gCall fOrd (gCons (gOp2 fIx (gVar 0) (gVar 2)) gNil)))) gNil)) (gC (.int 65521)))))
  (gRetV 1)))
def m__law_check : Fn := fnD 3 g__law_check
def g__law_signed : GS := (gRet (gOp2 iSub (gFn 2 m__law_take (gCons (gVar 0) (gCons (gOp2 fAdd (gOp2 fMul (gC (.int 2)) (gVar 1)) (gC (.int 1))) gNil))) (gVar 1)))
def m__law_signed : Fn := fnD 2 g__law_signed
def g__law_number : GS := (gSeq (gSet 1 (gFn 2 m__law_signed (gCons (gVar 0) (gCons (gC (.int 40)) gNil))))
  (gRet (gIf (gTB (gOp2 (fB (fEqB false)) (gFn 2 m__law_take (gCons (gVar 0) (gCons (gC (.int 4)) gNil))) (gC (.int 1)))) (gOp2 fAdd (gOp2 fMul (gVar 1) (gOp2 (fIntC CPow fun i j => i ^ j.toNat) (gC (.int 10)) (gC (.int 38)))) (gFn 2 m__law_signed (gCons (gVar 0) (gCons (gOp2 (fIntC CPow fun i j => i ^ j.toNat) (gC (.int 10)) (gC (.int 38))) gNil)))) (gVar 1))))
def m__law_number : Fn := fnD 2 g__law_number
def g_check_number : GS := (gSeq (gSet 1 (gC (.int 0)))
  (gSeq (gFor (.one 2) (gRangeI fRange1 (gCons (gCall fLen (gCons (gVar 0) gNil)) gNil)) (gSet 1 (gOp2 fAdd (gVar 1) (gOp2 fMul (gOp2 fAdd (gVar 2) (gC (.int 1))) (gCall fOrd (gCons (gOp2 fIx (gVar 0) (gVar 2)) gNil))))))
  (gRet (gOp2 fMod (gVar 1) (gC (.int 65521))))))
def m_check_number : Fn := fnD 3 g_check_number
def g_read_integer : GS := (gSeq (gSet 2 (gVar 0))
  (gSeq (gIfS (gTB (gOp2 (fB (fEqB false)) (gSl (gVar 0) gNoPart (gPart (gC (.int 1)))) (gC (.str "-")))) (gSet 2 (gSl (gVar 0) (gPart (gC (.int 1))) gNoPart)) gNext)
  (gSeq (gIfS (gOr (gTB (gOp2 (fB (fEqB false)) (gVar 2) (gC (.str "")))) (gTB (gOp2 (fB fGt) (gCall fLen (gCons (gVar 2) gNil)) (gVar 1)))) (gRet (gC .non)) gNext)
  (gSeq (gForV (.one 3) 2 (gIfS (gTB (gOp2 (fB (fIn true)) (gVar 3) (gC (.str "0123456789")))) (gRet (gC .non)) gNext))
  (gSeq (gIfS (gAnd (gTB (gOp2 (fB (fEqB false)) (gOp2 fIx (gVar 2) (gC (.int 0))) (gC (.str "0")))) (gOr (gTB (gOp2 (fB fGt) (gCall fLen (gCons (gVar 2) gNil)) (gC (.int 1)))) (gTB (gOp2 (fB fGt) (gCall fLen (gCons (gVar 0) gNil)) (gC (.int 1)))))) (gRet (gC .non)) gNext)
  (gRet (gCall fIntT (gCons (gVar 0) gNil))))))))
def m_read_integer : Fn := fnD 4 g_read_integer
def g_numbers_in : GS := (gSeq (gSet 2 (gLst gNil))
  (gSeq (gFor (.one 3) (gSeqI (gSl (gVar 0) gNoPart (gPart (gVar 1)))) (gSeq (gSet 4 (gFn 2 m_read_integer (gCons (gVar 3) (gCons (gC (.int 70)) gNil))))
  (gSeq (gIfS (gTB (gOp2 (fB (fIsN false)) (gVar 4) (gC .non))) (gRaise "JournalError") gNext)
  (gApp 2 (gVar 4)))))
  (gSeq (gIfS (gTB (gOp2 (fB (fEqB true)) (gCall fLen (gCons (gVar 2) gNil)) (gVar 1))) (gRaise "JournalError") gNext)
  (gRet (gCall fTuple (gCons (gVar 2) gNil))))))
def m_numbers_in : Fn := fnD 5 g_numbers_in
def g_read_natural : GS := (gSeq (gIfS (gTB (gOp2 (fB (fEqB false)) (gSl (gVar 0) gNoPart (gPart (gC (.int 1)))) (gC (.str "-")))) (gRet (gC .non)) gNext)
  (gRet (gFn 2 m_read_integer (gCons (gVar 0) (gCons (gVar 1) gNil)))))
def m_read_natural : Fn := fnD 2 g_read_natural
def g_read_line : GS := (gSeq (gSet 2 (gSplit (gVar 0) (gC (.str " "))))
  (gSeq (gSet 3 (gOp2 fAdd (gOp2 fAdd (gC (.int 2)) (gCall fSum (gCons (gLc (.one 8) [8] (gSeqL (gVar 1)) gYes (gOp2 fAdd (gVar 8) (gC (.int 1)))) gNil))) (gC (.int 2))))
  (gSeq (gIfS (gOr (gTB (gOp2 (fB (fEqB true)) (gCall fLen (gCons (gVar 2) gNil)) (gVar 3))) (gOr (gTB (gOp2 (fB (fEqB true)) (gOp2 fIx (gVar 2) (gC (.int 0))) (gC (.str "step")))) (gTB (gOp2 (fB (fEqB true)) (gOp2 fIx (gVar 2) (gOp1 fNeg (gC (.int 2)))) (gC (.str "check")))))) (gRaise "JournalError") gNext)
  (gSeq (gSet 4 (gFn 2 m_read_natural (gCons (gOp2 fIx (gVar 2) (gC (.int 1))) (gCons (gC (.int 70)) gNil))))
  (gSeq (gSet 5 (gFn 2 m_read_natural (gCons (gOp2 fIx (gVar 2) (gOp1 fNeg (gC (.int 1)))) (gCons (gC (.int 70)) gNil))))
  (gSeq (gIfS (gOr (gTB (gOp2 (fB (fIsN false)) (gVar 4) (gC .non))) (gOr (gTB (gOp2 (fB (fIsN false)) (gVar 5) (gC .non))) (gTB (gOp2 (fB (fEqB true)) (gVar 5) (gFn 1 m_check_number (gCons (gJoin (gC (.str " ")) (gSl (gVar 2) gNoPart (gPart (gOp1 fNeg (gC (.int 2)))))) gNil)))))) (gRaise "JournalError") gNext)
  (gSeq (gSet 6 (gLst gNil))
  (gSeq (gSet 7 (gC (.int 2)))
  (gSeq (gForV (.one 8) 1 (gSeq (gIfS (gTB (gOp2 (fB (fEqB true)) (gOp2 fIx (gVar 2) (gVar 7)) (gC (.str ";")))) (gRaise "JournalError") gNext)
  (gSeq (gApp 6 (gFn 2 m_numbers_in (gCons (gSl (gVar 2) (gPart (gOp2 fAdd (gVar 7) (gC (.int 1)))) (gPart (gOp1 fNeg (gC (.int 2))))) (gCons (gVar 8) gNil))))
  (gSet 7 (gOp2 fAdd (gOp2 fAdd (gVar 7) (gC (.int 1))) (gVar 8))))))
  (gRet (gTup (gCons (gVar 4) (gCons (gCall fTuple (gCons (gVar 6) gNil)) gNil)))))))))))))
def m_read_line : Fn := fnD 9 g_read_line
def g__law_told : GS := (gSeq (gTry (tabS tc_TensorError) 3 (gSet 2 (gFn 2 m_read_line (gCons (gVar 0) (gCons (gVar 1) gNil)))) (fun cl => (gRet (gIf (gTru (gIsE 3 (tabS ti_JournalError cl))) (gC .non) (gC (.str "other"))))))
  (gRet (gIf (gTB (gOp2 (fB (fIsN false)) (gVar 2) (gC .non))) (gC (.str "None was told")) (gVar 2))))
def m__law_told : Fn := fnD 4 g__law_told
def g_journal_line : GS := (gSeq (gSet 2 (gLst (gCons (gC (.str "step")) (gCons (gCall fStrc (gCons (gVar 0) gNil)) gNil))))
  (gSeq (gForV (.one 3) 1 (gSeq (gApp 2 (gC (.str ";")))
  (gSet 2 (gOp2 fAdd (gVar 2) (gLc (.one 5) [5] (gSeqL (gVar 3)) gYes (gCall fStrc (gCons (gVar 5) gNil)))))))
  (gSeq (gSet 4 (gJoin (gC (.str " ")) (gVar 2)))
  (gRet (gJs [(gFmt (gVar 4)), (gC (.str " check ")), (gFmt (gFn 1 m_check_number (gCons (gVar 4) gNil))), (gC (.str "\n"))])))))
def m_journal_line : Fn := fnD 6 g_journal_line
def g_law : GS := (gSeq (gSet 1 (gFn 1 m__law_begin (gCons (gVar 0) gNil)))
  (gSeq (gSet 2 (gOp2 fIx (gTup (gCons (gC (.int 4)) (gCons (gC (.int 4)) (gCons (gC (.int 4)) (gCons (gC (.int 60)) gNil))))) (gFn 2 m__law_take (gCons (gVar 1) (gCons (gC (.int 4)) gNil)))))
  (gSeq (gSet 3 (gCall fTuple (gCons (gLc (.one 18) [18] (gRangeI fRange1 (gCons (gOp2 fAdd (gC (.int 1)) (gFn 2 m__law_take (gCons (gVar 1) (gCons (gOp2 fIx (gTup (gCons (gC (.int 3)) (gCons (gC (.int 8)) gNil))) (gFn 2 m__law_take (gCons (gVar 1) (gCons (gC (.int 2)) gNil)))) gNil)))) gNil)) gYes (gOp2 fAdd (gC (.int 1)) (gFn 2 m__law_take (gCons (gVar 1) (gCons (gVar 2) gNil))))) gNil)))
  (gSeq (gSet 4 (gCall fTuple (gCons (gLc (.one 19) [19] (gSeqL (gVar 3)) gYes (gCall fTuple (gCons (gLc (.one 18) [18] (gRangeI fRange1 (gCons (gVar 19) gNil)) gYes (gFn 1 m__law_number (gCons (gVar 1) gNil))) gNil))) gNil)))
  (gSeq (gSet 5 (gCall fAbs (gCons (gFn 1 m__law_number (gCons (gVar 1) gNil)) gNil)))
  (gSeq (gSet 6 (gOp2 fAdd (gC (.str "step ")) (gCall fStrc (gCons (gVar 5) gNil))))
  (gSeq (gForV (.one 7) 4 (gSet 6 (gOp2 fAdd (gOp2 fAdd (gVar 6) (gC (.str " ; "))) (gJoin (gC (.str " ")) (gLc (.one 20) [20] (gSeqL (gVar 7)) gYes (gCall fStrc (gCons (gVar 20) gNil)))))))
  (gSeq (gSet 8 (gOp2 fAdd (gOp2 fAdd (gVar 6) (gC (.str " check "))) (gCall fStrc (gCons (gFn 1 m__law_check (gCons (gVar 6) gNil)) gNil))))
  (gSeq (gSet 9 (gFn 2 m_journal_line (gCons (gVar 5) (gCons (gVar 4) gNil))))
  (gSeq (gIfS (gOr (gNot (gTru (gIsi "str" (gVar 9)))) (gOr (gTB (gOp2 (fB (fEqB true)) (gVar 9) (gOp2 fAdd (gVar 8) (gC (.str "\n"))))) (gTB (gOp2 (fB (fEqB true)) (gFn 1 m_check_number (gCons (gVar 6) gNil)) (gFn 1 m__law_check (gCons (gVar 6) gNil)))))) (gRet (gC (.bl false))) gNext)
  (gSeq (gIfS (gTB (gOp2 (fB (fEqB true)) (gFn 2 m__law_told (gCons (gVar 8) (gCons (gVar 3) gNil))) (gTup (gCons (gVar 5) (gCons (gVar 4) gNil))))) (gRet (gC (.bl false))) gNext)
  (gSeq (gSet 10 (gC (.str "	'`\\ !#$&()*+,-./0123456789:;<=>?@ABCDEFGHIJKLMNOPQRSTUVWXYZ[]^_abcdefghijklmnopqrstuvwxyz{|}~")))
  (gSeq (gFor (.one 11) (gRangeI fRange1 (gCons (gC (.int 4)) gNil)) (gSeq (gSet 12 (gFn 2 m__law_take (gCons (gVar 1) (gCons (gCall fLen (gCons (gVar 8) gNil)) gNil))))
  (gSeq (gSet 13 (gOp2 fIx (gVar 10) (gFn 2 m__law_take (gCons (gVar 1) (gCons (gCall fLen (gCons (gVar 10) gNil)) gNil)))))
  (gSeq (gIfS (gTB (gOp2 (fB (fEqB false)) (gVar 11) (gC (.int 1)))) (gSet 13 (gOp2 fIx (gC (.str "0123456789")) (gFn 2 m__law_take (gCons (gVar 1) (gCons (gC (.int 10)) gNil))))) gNext)
  (gSeq (gIfS (gTB (gOp2 (fB (fEqB false)) (gVar 11) (gC (.int 2)))) (gSeq (gSet 12 (gIdx (gVar 8) (gCons (gC (.str " ")) (gCons (gCall fMinL (gCons (gVar 12) (gCons (gOp2 iSub (gCall fLen (gCons (gVar 8) gNil)) (gC (.int 12))) gNil))) gNil))))
  (gSet 13 (gOp2 fIx (gTup (gCons (gC (.str "	")) (gCons (gC (.str "_")) (gCons (gC (.str ";")) (gCons (gC (.str "	")) gNil))))) (gFn 2 m__law_take (gCons (gVar 1) (gCons (gC (.int 4)) gNil)))))) gNext)
  (gIfS (gAnd (gTB (gOp2 (fB (fEqB true)) (gOp2 fIx (gVar 8) (gVar 12)) (gVar 13))) (gTB (gOp2 (fB (fIsN true)) (gFn 2 m__law_told (gCons (gOp2 fAdd (gOp2 fAdd (gSl (gVar 8) gNoPart (gPart (gVar 12))) (gVar 13)) (gSl (gVar 8) (gPart (gOp2 fAdd (gVar 12) (gC (.int 1)))) gNoPart)) (gCons (gVar 3) gNil))) (gC .non)))) (gRet (gC (.bl false))) gNext))))))
  (gSeq (gSet 14 (gSplit (gVar 8) (gC (.str " "))))
  (gSeq (gSet 15 (gFn 2 m__law_take (gCons (gVar 1) (gCons (gCall fLen (gCons (gVar 14) gNil)) gNil))))
  (gSeq (gSet 16 (gJoin (gC (.str " ")) (gOp2 fAdd (gSl (gVar 14) gNoPart (gPart (gOp2 fAdd (gVar 15) (gC (.int 1))))) (gSl (gVar 14) (gPart (gVar 15)) gNoPart))))
  (gSeq (gSet 17 (gJoin (gC (.str " ")) (gOp2 fAdd (gSl (gVar 14) gNoPart (gPart (gVar 15))) (gSl (gVar 14) (gPart (gOp2 fAdd (gVar 15) (gC (.int 1)))) gNoPart))))
  (gSeq (gIfS (gOr (gTB (gOp2 (fB (fIsN true)) (gFn 2 m__law_told (gCons (gVar 16) (gCons (gVar 3) gNil))) (gC .non))) (gOr (gTB (gOp2 (fB (fIsN true)) (gFn 2 m__law_told (gCons (gVar 17) (gCons (gVar 3) gNil))) (gC .non))) (gTB (gOp2 (fB (fIsN true)) (gFn 2 m__law_told (gCons (gC (.str "")) (gCons (gVar 3) gNil))) (gC .non))))) (gRet (gC (.bl false))) gNext)
  (gRet (gAndV (gOp2 (fB (fIsN false)) (gFn 2 m__law_told (gCons (gVar 8) (gCons (gOp2 fAdd (gVar 3) (gTup (gCons (gC (.int 1)) gNil))) gNil))) (gC .non)) (gOp2 (fB (fIsN false)) (gFn 2 m__law_told (gCons (gVar 8) (gCons (gOp2 fAdd (gTup (gCons (gOp2 fAdd (gOp2 fIx (gVar 3) (gC (.int 0))) (gC (.int 1))) gNil)) (gSl (gVar 3) (gPart (gC (.int 1))) gNoPart)) gNil))) (gC .non))))))))))))))))))))))
def m_law : Fn := fnD 21 g_law
/-- what the top leaves -/
structure Txt (K : PySem.W.Frag) (mg : Str → Option Value) : Prop where
  b_abs : mg "abs" = none
  b_int : mg "int" = none
  b_isinstance : mg "isinstance" = none
  b_len : mg "len" = none
  b_list : mg "list" = none
  b_min : mg "min" = none
  b_ord : mg "ord" = none
  b_range : mg "range" = none
  b_str : mg "str" = none
  b_sum : mg "sum" = none
  b_tuple : mg "tuple" = none
  d__law_begin : DefT K mg "_law_begin" s__law_begin ["script"]
  d__law_take : DefT K mg "_law_take" s__law_take ["d", "many"]
  d__law_check : DefT K mg "_law_check" s__law_check ["text"]
  d__law_signed : DefT K mg "_law_signed" s__law_signed ["d", "most"]
  d__law_number : DefT K mg "_law_number" s__law_number ["d"]
  d_check_number : DefT K mg "check_number" s_check_number ["text"]
  d_read_integer : DefT K mg "read_integer" s_read_integer ["word", "most"]
  d_numbers_in : DefT K mg "numbers_in" s_numbers_in ["words", "many"]
  d_read_natural : DefT K mg "read_natural" s_read_natural ["word", "most"]
  d_read_line : DefT K mg "read_line" s_read_line ["line", "sizes"]
  d__law_told : DefT K mg "_law_told" s__law_told ["line", "sizes"]
  d_journal_line : DefT K mg "journal_line" s_journal_line ["steps", "weights"]
  d_law : DefT K mg "law" s_law ["script"]
  e_JournalError : ErrC K mg "JournalError"
  c_TensorError : CatchC K mg "TensorError" (tabS tc_TensorError)
  i_JournalError : IsT K mg "JournalError" (tabS ti_JournalError)
  g_CHECK_PRIME : GC K mg "CHECK_PRIME" (.int 65521)
  g_FIGURES : GC K mg "FIGURES" (.str "0123456789")
  g_FIGURE_LIMIT : GC K mg "FIGURE_LIMIT" (.int 70)
section
variable {P : Program} {w : World} {K : PySem.W.Frag} {mg : Str → Option Value} {base : Heap}
theorem ok_takeL {f : Addr} {fd : FuncData} (F : Fun K "_law_take" "_law_take" s__law_take f fd) (mL : mg "len" = none) (mA : mg "abs" = none) (mI : mg "int" = none) : FnOk P w K mg base CX0 1 f fd ["d", "many"] spTakeL := by
  refine F.ok sc__law_take (fun vs H Q E h => ?_) (fun cdv A outer s H vs Q E hr h => ?_)
  · obtain ⟨a, s, i, b, z, many, ns, rfl, _⟩ := h
    rfl
  · obtain ⟨a, s, i, b, z, many, ns, rfl, hA, hS, hm, hml, hi, hb, hz, hz2, q⟩ := h
    refine ⟨_, pss_cons (ps_if (PW.pt (pw_and (pt_cmpR op_eq (pe_ix ix_list (pv 0) pe_int (fun _ _ => rfl)) pe_int (nomark _)) (pw_and1 (pt_cmpR op_lt (pe_ix ix_list (pv 0) pe_int (fun _ _ => rfl))
          (pe_callB call_len_seq (by rfl) mL PySem.boot_len (pa_cons (pe_ix ix_list (pv 0) pe_int (fun _ _ => rfl)) pa_nil)) (nomark _)))))
        (pss_cons (ps_asg (pe_callB call_abs (by rfl) mA (by decide +kernel) (pa_cons (pe_callTy call_int1 (by rfl) mI (by decide +kernel) (pa_cons (pe_ix ix_list (pe_ix ix_list (pv 0) pe_int (fun _ _ => rfl)) (pe_ix ix_list (pv 0) pe_int (fun _ _ => rfl)) (fun _ _ => rfl)) pa_nil)) pa_nil)) (pg_sub (pv 0) pe_int set_list))
        (pss_cons (ps_asg (pe_op op_add (pe_ix ix_list (pv 0) pe_int (fun _ _ => rfl)) pe_int) (pg_sub (pv 0) pe_int set_list))
        (pss_one (ps_if (pt_cmpR op_lt (pe_ix ix_list (pv 0) pe_int (fun _ _ => rfl)) (pe_op op_pow pe_int pe_int) (nomark _))
          (pss_cons (ps_set (i := 2) sc__law_take.nd rfl (.inl rfl) (pe_callTy call_int1 (by rfl) mI (by decide +kernel) (pa_cons (pe_ix ix_list (pv 0) pe_int (fun _ _ => rfl)) pa_nil)))
          (pss_cons (ps_asg pe_int (pg_sub (pv 0) pe_int set_list))
          (pss_one (ps_ret (pe_op op_mod (pv 2) (pv 1)))))) pss_nil)))) pss_nil)
      (pss_cons (ps_if (pt_cmpR op_gt (pe_ix ix_list (pv 0) pe_int (fun _ _ => rfl)) pe_int (nomark _))
        (pss_cons (ps_set (i := 3) sc__law_take.nd rfl (.inl rfl) (pe_op op_mod (pe_callTy call_int1 (by rfl) mI (by decide +kernel) (pa_cons (pe_ix ix_list (pv 0) pe_int (fun _ _ => rfl)) pa_nil)) (pv 1)))
        (pss_cons (ps_asg (pe_op op_fdivW (pe_callTy call_int1 (by rfl) mI (by decide +kernel) (pa_cons (pe_ix ix_list (pv 0) pe_int (fun _ _ => rfl)) pa_nil)) (pv 1)) (pg_sub (pv 0) pe_int set_list))
        (pss_one (ps_ret (pv 3))))) pss_nil)
      (pss_cons (ps_asg (pe_op op_mod (pe_callTy call_int1 (by rfl) mI (by decide +kernel) (pa_cons (pe_op op_add (pe_op op_mul (pe_ix ix_list (pv 0) pe_int (fun _ _ => rfl)) pe_int) pe_int) pa_nil)) pe_int) (pg_sub (pv 0) pe_int set_list))
      (pss_one (ps_ret (pe_op op_mod (pe_callTy call_int1 (by rfl) mI (by decide +kernel) (pa_cons (pe_op op_fdiv (pe_ix ix_list (pv 0) pe_int (fun _ _ => rfl)) pe_int) pa_nil)) (pv 1)))))), ?_⟩
    -- the middle: no digit left, the script's next number
    have tailR : ∀ (σ : L2.St) (i b z : Int) (H : Hp), σ[0]? = some (some (.ref a)) → σ[1]? = some (some (.int many)) → H a = some (.lst [.ref s, .int i, .int b, .int z]) → 0 ≤ i → 0 ≤ b → 0 ≤ z → z < 2147483647 → (b = 0 ∨ 0 < b) → σ.length = 4 →
        (∀ r i' b' z' : Int, 0 ≤ r → r < many → 0 ≤ i' → 0 ≤ b' → 0 ≤ z' → z' < 2147483647 → Q (.int r) (upd H a (.lst [.ref s, .int i', .int b', .int z']))) →
        tSeq (tIfS (tTest (tOp (rI0 fun i j => .bl (decide (j < i))) (tOp (rIxL K) (tVar 0) (tC (.int 2))) (tC (.int 0))))
          (tSeq (tAsg (tOp (rI (fun _ j => 0 < j) fun i j => .int (i % j)) (tCB (fun xs H Q => (∃ i, xs = [.int i] ∧ Q (.int i) H) ∨ ∃ k, xs = [.bl k] ∧ Q (.int (if k then 1 else 0)) H) (tCons (tOp (rIxL K) (tVar 0) (tC (.int 2))) tNil)) (tVar 1)) (gName 3))
          (tSeq (tAsg (tOp (rI CDivW fun i j => .int (i / j)) (tCB (fun xs H Q => (∃ i, xs = [.int i] ∧ Q (.int i) H) ∨ ∃ k, xs = [.bl k] ∧ Q (.int (if k then 1 else 0)) H) (tCons (tOp (rIxL K) (tVar 0) (tC (.int 2))) tNil)) (tVar 1)) (gSub (tVar 0) (tC (.int 2)) rSetL))
            (tRet (tVar 3)))) tNext)
        (tSeq (tAsg (tOp (rI (fun _ j => 0 < j) fun i j => .int (i % j)) (tCB (fun xs H Q => (∃ i, xs = [.int i] ∧ Q (.int i) H) ∨ ∃ k, xs = [.bl k] ∧ Q (.int (if k then 1 else 0)) H) (tCons (tOp (rI0 fun i j => .int (i + j)) (tOp (rI CMul fun i j => .int (i * j)) (tOp (rIxL K) (tVar 0) (tC (.int 3))) (tC (.int 48271))) (tC (.int 11))) tNil)) (tC (.int 2147483647))) (gSub (tVar 0) (tC (.int 3)) rSetL))
          (tRet (tOp (rI (fun _ j => 0 < j) fun i j => .int (i % j)) (tCB (fun xs H Q => (∃ i, xs = [.int i] ∧ Q (.int i) H) ∨ ∃ k, xs = [.bl k] ∧ Q (.int (if k then 1 else 0)) H) (tCons (tOp (rI CDiv fun i j => .int (i / j)) (tOp (rIxL K) (tVar 0) (tC (.int 3))) (tC (.int 3))) tNil)) (tVar 1)))) { nx := fun _ H' => Q .non H', rt := Q } σ H := by
      intro σ i b z H h0 h1 hA hi hb hz hz2 hbb hl q
      refine rd_ix h0 hA rfl ⟨b, 0, rfl, rfl, _, rfl, ?_⟩
      rcases hbb with rfl | hb0
      · rw [if_neg (by decide)]
        refine rd_ix h0 hA rfl ⟨z, 48271, rfl, rfl, .inl ⟨by omega, by omega⟩, z * 48271, 11, rfl, rfl, .inl ⟨_, rfl, _, _, rfl, rfl, (by decide : (0 : Int) < 2147483647), ?_⟩⟩
        refine ⟨_, h0, a, _, 3, 3, rfl, rfl, hA, rfl, ?_⟩
        refine rd_ix h0 upd_same rfl ⟨_, 3, rfl, rfl, ⟨by decide, by decide⟩, .inl ⟨_, rfl, _, h1, _, many, rfl, rfl, hm, ?_⟩⟩
        exact q _ _ _ _ (Int.emod_nonneg _ (by omega)) (Int.emod_lt_of_pos _ hm) hi hb (Int.emod_nonneg _ (by decide)) (Int.emod_lt_of_pos _ (by decide))
      · rw [if_pos (decide_eq_true hb0)]
        refine rd_ix h0 hA rfl (.inl ⟨b, rfl, _, h1, _, many, rfl, rfl, hm, ?_⟩)
        have g0 : (σ.set 3 (some (.int (b % many))))[0]? = some (some (.ref a)) := by rw [List.getElem?_set_ne (by decide)]; exact h0
        have g1 : (σ.set 3 (some (.int (b % many))))[1]? = some (some (.int many)) := by rw [List.getElem?_set_ne (by decide)]; exact h1
        refine rd_ix g0 hA rfl (.inl ⟨b, rfl, _, g1, _, many, rfl, rfl, ⟨hm, hml⟩, ?_⟩)
        refine ⟨_, g0, a, _, 2, 2, rfl, rfl, hA, rfl, _, List.getElem?_set_self (by rw [hl]; decide), ?_⟩
        exact q _ _ _ _ (Int.emod_nonneg _ (by omega)) (Int.emod_lt_of_pos _ hm) hi (Int.ediv_nonneg hb (by omega)) hz hz2
    refine rd_ix rfl hA rfl ⟨rfl, _, rfl, ?_⟩
    by_cases hb0 : b = 0
    · subst hb0
      refine iteTT (decide_eq_true rfl) ?_
      refine rd_ix rfl hA rfl (rd_ix rfl hA rfl ⟨s, _, rfl, .inl (SqL.of hS), i, ((ns.map V.int).length : Int), rfl, rfl, _, rfl, ?_⟩)
      by_cases hlt : i < ((ns.map V.int).length : Int)
      · refine iteTT (decide_eq_true hlt) ?_
        have hlen : i.toNat < ns.length := by rw [List.length_map] at hlt; omega
        obtain ⟨m0, hat⟩ : ∃ m0, atI (ns.map V.int) i = some (.int m0) := by
          have e : ((i.toNat : Nat) : Int) = i := by omega
          have h2 : atI (ns.map V.int) (i.toNat : Int) = some (.int ns[i.toNat]) := atI_nat (by
            rw [List.getElem?_map, List.getElem?_eq_getElem (by simpa using hlen)]
            rfl)
          rw [e] at h2
          exact ⟨_, h2⟩
        -- d[2] = abs(int(d[0][d[1]]))
        refine rd_ix rfl hA rfl (rd_ix rfl hA rfl ⟨s, _, i, _, rfl, rfl, SqL.of hS, hat, .inl ⟨_, rfl, _, rfl, ?_⟩⟩)
        have nn : 0 ≤ (if m0 < 0 then -m0 else m0) := by split <;> omega
        generalize (if m0 < 0 then -m0 else m0) = m at nn ⊢
        refine ⟨_, rfl, a, _, 2, 2, rfl, rfl, hA, rfl, ?_⟩
        -- d[1] = d[1] + 1
        refine rd_ix rfl upd_same rfl ⟨i, 1, rfl, rfl, _, rfl, a, _, 1, 1, rfl, rfl, upd_same, rfl, ?_⟩
        rw [upd_upd]
        refine rd_ix rfl upd_same rfl ⟨10, 18, rfl, rfl, ⟨by decide, by decide, by decide⟩, m, 10 ^ 18, rfl, rfl, _, rfl, ?_⟩
        have fin : ∀ r i' b' z' : Int, 0 ≤ r → r < many → 0 ≤ i' → 0 ≤ b' → 0 ≤ z' → z' < 2147483647 → Q (.int r) (upd (upd H a (.lst [.ref s, .int (i + 1), .int m, .int z])) a (.lst [.ref s, .int i', .int b', .int z'])) := fun r i' b' z' h1 h2 h3 h4 h5 h6 => by rw [upd_upd]; exact q r i' b' z' h1 h2 h3 h4 h5 h6
        by_cases hs : m < 10 ^ 18
        · refine iteTT (decide_eq_true hs) ?_
          refine rd_ix rfl upd_same rfl (.inl ⟨m, rfl, ?_⟩)
          refine ⟨_, rfl, a, _, 2, 2, rfl, rfl, upd_same, rfl, ?_⟩
          refine ⟨_, rfl, _, rfl, m, many, rfl, rfl, hm, ?_⟩
          exact fin _ _ _ _ (Int.emod_nonneg _ (by omega)) (Int.emod_lt_of_pos _ hm) (by omega) (by omega) hz hz2
        · refine iteFF (decide_eq_false hs) ?_
          exact tailR _ _ _ _ _ rfl rfl upd_same (by omega) nn hz hz2 (.inr (by omega)) rfl fin
      · refine iteFF (decide_eq_false hlt) ?_
        exact tailR _ _ _ _ _ rfl rfl hA hi hb hz hz2 (.inl rfl) rfl q
    · refine iteFF (decide_eq_false (fun e : V.int b = V.int 0 => hb0 (V.int.inj e))) ?_
      refine iteFF rfl ?_
      exact tailR _ _ _ _ _ rfl rfl hA hi hb hz hz2 (.inr (by omega)) rfl q
theorem ok_begL {f : Addr} {fd : FuncData} (F : Fun K "_law_begin" "_law_begin" s__law_begin f fd) (mI : mg "int" = none) (mL : mg "list" = none) : FnOk P w K mg base CX0 1 f fd ["script"] (spBegL K) := by
  refine F.ok sc__law_begin (fun vs H Q E h => ?_) (fun cdv A outer s H vs Q E hr h => ?_)
  · obtain ⟨p, ns, rfl, _⟩ := h
    rfl
  · obtain ⟨p, ns, rfl, hn, hS, q⟩ := h
    refine ⟨_, pss_cons (ps_set (i := 1) sc__law_begin.nd rfl (.inl rfl) pe_int)
      (pss_cons (ps_for PassesOwn.never rfl (pi_list (pv 0)) (pg_name (i := 2) sc__law_begin.nd rfl (.inl rfl))
        (pss_one (ps_set (i := 1) sc__law_begin.nd rfl (.inl rfl) (pe_op op_mod (pe_op op_add (pe_op op_add (pe_op op_mul (pv 1) pe_int) (pe_op op_mod (pe_callTy call_int1 (by rfl) mI (by decide +kernel) (pa_cons (pv 2) pa_nil)) pe_int)) pe_int) pe_int))))
      (pss_one (ps_ret (pe_lst (pa_cons (pe_callTy call_list_of (by rfl) mL (by decide +kernel) (pa_cons (pv 0) pa_nil)) (pa_cons pe_int (pa_cons pe_int (pa_cons (pv 1) pa_nil)))))))), ?_⟩
    refine ⟨_, rfl, p, rfl, ⟨_, hS⟩, fun i m σ H3 => ∃ (z : Int) (y2 : Option V), σ = [some (.ref p), some (.int z), y2] ∧ 0 ≤ z ∧ z < 2147483647 ∧ H3 = H ∧ i + m = ns.length, ⟨ns.length, 1, none, rfl, by decide, by decide, rfl, by omega⟩, fun i m σ H3 hW => ?_⟩
    obtain ⟨z, y2, rfl, hz, hz2, rfl, em⟩ := hW
    by_cases hi : i < ns.length
    · have g : (ns.map V.int)[i]? = some (.int ns[i]) := by
        rw [List.getElem?_map, List.getElem?_eq_getElem hi]
        rfl
      refine .inr ⟨⟨_, _, hS, g⟩, fun σ' H' => ∃ (z : Int) (y2 : Option V), σ' = [some (.ref p), some (.int z), y2] ∧ 0 ≤ z ∧ z < 2147483647 ∧ H' = H3, fun σ' H' hN => ?_, fun v H' hy => ?_⟩
      · obtain ⟨z, y2, e1, h1, h2, h3⟩ := hN
        exact ⟨m - 1, by omega, z, y2, e1, h1, h2, h3, by omega⟩
      · obtain ⟨rfl, fv⟩ := hy
        have ev : v = .int ns[i] := Option.some.inj ((fv _ hS).symm.trans g)
        subst ev
        refine ⟨_, rfl, ?_⟩
        refine ⟨z, 69621, rfl, rfl, .inl ⟨by omega, by omega⟩, ?_⟩
        refine ⟨_, rfl, .inl ⟨_, rfl, _, 2147483629, rfl, rfl, (by decide : (0 : Int) < 2147483629), _, _, rfl, rfl, _, 7, rfl, rfl, _, 2147483647, rfl, rfl, (by decide : (0 : Int) < 2147483647), ?_⟩⟩
        exact ⟨_, _, rfl, Int.emod_nonneg _ (by decide), Int.emod_lt_of_pos _ (by decide), rfl⟩
    · refine .inl ⟨⟨_, hS, by rw [List.length_map]; omega⟩, ?_⟩
      refine ⟨_, rfl, p, _, rfl, .inl hS, fun s0 ns0 => ⟨_, rfl, by rw [sizeLine_eq]; show 4 ≤ 16777216; decide, fun a na => ?_⟩⟩
      have nas : a ≠ s0 := fun e => by rw [e, upd_same] at na; cases na
      have na0 : H3 a = none := by rw [upd_ne nas] at na; exact na
      refine q a s0 z _ (fun c o e => ?_) na0 ns0 nas upd_same (by rw [upd_ne nas.symm, upd_same]) hz hz2
      rw [upd_ne (fun z => by subst z; rw [na0] at e; cases e), upd_ne (fun z => by subst z; rw [ns0] at e; cases e)]
      exact e
theorem ok__law_begin (T : Txt K mg) : FD P w K mg base 1 "_law_begin" 1 m__law_begin := fd_of T.d__law_begin fun a fd F => begin_hide (ok_begL F T.b_int T.b_list) rfl
theorem ok__law_take (T : Txt K mg) : FD P w K mg base 1 "_law_take" 2 m__law_take := fd_of T.d__law_take fun a fd F => take_hide (ok_takeL F T.b_len T.b_abs T.b_int) rfl
theorem ok__law_check (T : Txt K mg) : FD P w K mg base 1 "_law_check" 1 m__law_check := fd_of T.d__law_check fun a fd F => fn_ok F sc__law_check fun cdv A outer s H E hr =>
  (dss_cons (ds_set (i := 1) sc__law_check.nd rfl (.inl rfl) de_int)
  (dss_cons (ds_for (t := (.one 2)) (passes_of rfl) rfl (di_range1 T.b_range (da_cons (de_len T.b_len (da_cons (dv 0) da_nil)) da_nil)) (pg_name (i := 2) sc__law_check.nd rfl (.inl rfl)) (dss_one (ds_set (i := 1) sc__law_check.nd rfl (.inl rfl) (de_mod (de_intT T.b_int (da_cons (de_add (dv 1) (de_mul (de_add (dv 2) de_int) (de_ord T.b_ord (da_cons (de_ix (hu_of hr) (dv 0) (dv 2)) da_nil)))) da_nil)) de_int))))
  (dss_one (ds_retV (i := 1) rfl (.inl rfl)))))
theorem ok__law_signed (T : Txt K mg) : FD P w K mg base 2 "_law_signed" 2 m__law_signed := fd_of T.d__law_signed fun a fd F => fn_ok F sc__law_signed fun cdv A outer s H E hr =>
  (dss_one (ds_ret (de_sub (de_call ((ok__law_take T).mono (by decide)) hr (takes_of rfl rfl rfl rfl) (da_cons (dv 0) (da_cons (de_add (de_mul de_int (dv 1)) de_int) da_nil))) (dv 1))))
theorem ok__law_number (T : Txt K mg) : FD P w K mg base 3 "_law_number" 1 m__law_number := fd_of T.d__law_number fun a fd F => fn_ok F sc__law_number fun cdv A outer s H E hr =>
  (dss_cons (ds_set (i := 1) sc__law_number.nd rfl (.inl rfl) (de_call ((ok__law_signed T).mono (by decide)) hr (takes_of rfl rfl rfl rfl) (da_cons (dv 0) (da_cons de_int da_nil))))
  (dss_one (ds_ret (de_if (dt_cmp (op_eqA (hu64 hr)) og_eq (de_call ((ok__law_take T).mono (by decide)) hr (takes_of rfl rfl rfl rfl) (da_cons (dv 0) (da_cons de_int da_nil))) de_int (nomark _)) (de_add (de_mul (dv 1) (de_pow de_int de_int)) (de_call ((ok__law_signed T).mono (by decide)) hr (takes_of rfl rfl rfl rfl) (da_cons (dv 0) (da_cons (de_pow de_int de_int) da_nil)))) (dv 1)))))
theorem ok_check_number (T : Txt K mg) : FD P w K mg base 1 "check_number" 1 m_check_number := fd_of T.d_check_number fun a fd F => fn_ok F sc_check_number fun cdv A outer s H E hr =>
  (dss_cons (ds_set (i := 1) sc_check_number.nd rfl (.inl rfl) de_int)
  (dss_cons (ds_for (t := (.one 2)) (passes_of rfl) rfl (di_range1 T.b_range (da_cons (de_len T.b_len (da_cons (dv 0) da_nil)) da_nil)) (pg_name (i := 2) sc_check_number.nd rfl (.inl rfl)) (dss_one (ds_set (i := 1) sc_check_number.nd rfl (.inl rfl) (de_add (dv 1) (de_mul (de_add (dv 2) de_int) (de_ord T.b_ord (da_cons (de_ix (hu_of hr) (dv 0) (dv 2)) da_nil)))))))
  (dss_one (ds_ret (de_mod (dv 1) (de_glob T.g_CHECK_PRIME))))))
theorem ok_read_integer (T : Txt K mg) : FD P w K mg base 1 "read_integer" 2 m_read_integer := fd_of T.d_read_integer fun a fd F => fn_ok F sc_read_integer fun cdv A outer s H E hr =>
  (dss_cons (ds_set (i := 2) sc_read_integer.nd rfl (.inl rfl) (dv 0))
  (dss_cons (ds_if (dt_cmp (op_eqA (hu64 hr)) og_eq (de_slice (dv 0) do_none (do_some de_int)) de_str (nomark _)) (dss_one (ds_set (i := 2) sc_read_integer.nd rfl (.inl rfl) (de_slice (dv 0) (do_some de_int) do_none))) dss_nil)
  (dss_cons (ds_if (dt_w (dw_or (dt_cmp (op_eqA (hu64 hr)) og_eq (dv 2) de_str (nomark _)) (dw_or1 (dt_cmp op_gt og_intB (de_len T.b_len (da_cons (dv 2) da_nil)) (dv 1) (nomark _))))) (dss_one (ds_ret de_non)) dss_nil)
  (dss_cons (ds_forV (t := (.one 3)) (i := 2) rfl (.inl rfl) (passes_of rfl) rfl (pg_name (i := 3) sc_read_integer.nd rfl (.inl rfl)) (dss_one (ds_if (dt_cmp (op_niA (hu_of hr)) og_ni (dv 3) (de_glob T.g_FIGURES) (by rfl)) (dss_one (ds_ret de_non)) dss_nil)))
  (dss_cons (ds_if (dt_w (dw_and (dt_cmp (op_eqA (hu64 hr)) og_eq (de_ix (hu_of hr) (dv 2) de_int) de_str (nomark _)) (dw_and1 (dt_w (dw_or (dt_cmp op_gt og_intB (de_len T.b_len (da_cons (dv 2) da_nil)) de_int (nomark _)) (dw_or1 (dt_cmp op_gt og_intB (de_len T.b_len (da_cons (dv 0) da_nil)) de_int (nomark _)))))))) (dss_one (ds_ret de_non)) dss_nil)
  (dss_one (ds_ret (de_intT T.b_int (da_cons (dv 0) da_nil)))))))))
theorem ok_numbers_in (T : Txt K mg) : FD P w K mg base 2 "numbers_in" 2 m_numbers_in := fd_of T.d_numbers_in fun a fd F => fn_ok F sc_numbers_in fun cdv A outer s H E hr =>
  (dss_cons (ds_set (i := 2) sc_numbers_in.nd rfl (.inl rfl) (de_lst da_nil))
  (dss_cons (ds_for (t := (.one 3)) (passes_of rfl) rfl (di_seq (de_slice (dv 0) do_none (do_some (dv 1)))) (pg_name (i := 3) sc_numbers_in.nd rfl (.inl rfl)) (dss_cons (ds_set (i := 4) sc_numbers_in.nd rfl (.inl rfl) (de_call ((ok_read_integer T).mono (by decide)) hr (takes_of rfl rfl rfl rfl) (da_cons (dv 3) (da_cons (de_glob T.g_FIGURE_LIMIT) da_nil))))
  (dss_cons (ds_if (dt_cmp op_isN og_isN (dv 4) de_non (nomark _)) (dss_one (ds_raise rfl (takes_of rfl rfl rfl rfl) T.e_JournalError)) dss_nil)
  (dss_one (ds_app (i := 2) rfl (.inl rfl) (dv 4))))))
  (dss_cons (ds_if (dt_cmp (op_neA (hu64 hr)) og_ne (de_len T.b_len (da_cons (dv 2) da_nil)) (dv 1) (nomark _)) (dss_one (ds_raise rfl (takes_of rfl rfl rfl rfl) T.e_JournalError)) dss_nil)
  (dss_one (ds_ret (de_tuple T.b_tuple (da_cons (dv 2) da_nil)))))))
theorem ok_read_natural (T : Txt K mg) : FD P w K mg base 2 "read_natural" 2 m_read_natural := fd_of T.d_read_natural fun a fd F => fn_ok F sc_read_natural fun cdv A outer s H E hr =>
  (dss_cons (ds_if (dt_cmp (op_eqA (hu64 hr)) og_eq (de_slice (dv 0) do_none (do_some de_int)) de_str (nomark _)) (dss_one (ds_ret de_non)) dss_nil)
  (dss_one (ds_ret (de_call ((ok_read_integer T).mono (by decide)) hr (takes_of rfl rfl rfl rfl) (da_cons (dv 0) (da_cons (dv 1) da_nil))))))
theorem ok_read_line (T : Txt K mg) : FD P w K mg base 3 "read_line" 2 m_read_line := fd_of T.d_read_line fun a fd F => fn_ok F sc_read_line fun cdv A outer s H E hr =>
  (dss_cons (ds_set (i := 2) sc_read_line.nd rfl (.inl rfl) (de_split (dv 0) de_str))
  (dss_cons (ds_set (i := 3) sc_read_line.nd rfl (.inl rfl) (de_add (de_add de_int (de_sum rfl T.b_sum (da_cons (de_lc2 (own := [("size", 8)]) rfl sc_read_line.nd (di2_seq (dv 1)) (blkOk_by (N := n_read_line) (sc := defScope s_read_line) (by decide +kernel)) (fun _ _ _ _ _ => (pg_name (i := 8) sc_read_line.nd rfl (.inl rfl))) (fun _ _ _ _ _ => dts_nil) (fun _ _ _ _ _ => (de_add (dv 8) de_int))) da_nil))) de_int))
  (dss_cons (ds_if (dt_w (dw_or (dt_cmp (op_neA (hu64 hr)) og_ne (de_len T.b_len (da_cons (dv 2) da_nil)) (dv 3) (nomark _)) (dw_or (dt_cmp (op_neA (hu64 hr)) og_ne (de_ix (hu_of hr) (dv 2) de_int) de_str (nomark _)) (dw_or1 (dt_cmp (op_neA (hu64 hr)) og_ne (de_ix (hu_of hr) (dv 2) (de_neg de_int)) de_str (nomark _)))))) (dss_one (ds_raise rfl (takes_of rfl rfl rfl rfl) T.e_JournalError)) dss_nil)
  (dss_cons (ds_set (i := 4) sc_read_line.nd rfl (.inl rfl) (de_call ((ok_read_natural T).mono (by decide)) hr (takes_of rfl rfl rfl rfl) (da_cons (de_ix (hu_of hr) (dv 2) de_int) (da_cons (de_glob T.g_FIGURE_LIMIT) da_nil))))
  (dss_cons (ds_set (i := 5) sc_read_line.nd rfl (.inl rfl) (de_call ((ok_read_natural T).mono (by decide)) hr (takes_of rfl rfl rfl rfl) (da_cons (de_ix (hu_of hr) (dv 2) (de_neg de_int)) (da_cons (de_glob T.g_FIGURE_LIMIT) da_nil))))
  (dss_cons (ds_if (dt_w (dw_or (dt_cmp op_isN og_isN (dv 4) de_non (nomark _)) (dw_or (dt_cmp op_isN og_isN (dv 5) de_non (nomark _)) (dw_or1 (dt_cmp (op_neA (hu64 hr)) og_ne (dv 5) (de_call ((ok_check_number T).mono (by decide)) hr (takes_of rfl rfl rfl rfl) (da_cons (de_join de_str (de_slice (dv 2) do_none (do_some (de_neg de_int)))) da_nil)) (nomark _)))))) (dss_one (ds_raise rfl (takes_of rfl rfl rfl rfl) T.e_JournalError)) dss_nil)
  (dss_cons (ds_set (i := 6) sc_read_line.nd rfl (.inl rfl) (de_lst da_nil))
  (dss_cons (ds_set (i := 7) sc_read_line.nd rfl (.inl rfl) de_int)
  (dss_cons (ds_forV (t := (.one 8)) (i := 1) rfl (.inl rfl) (passes_of rfl) rfl (pg_name (i := 8) sc_read_line.nd rfl (.inl rfl)) (dss_cons (ds_if (dt_cmp (op_neA (hu64 hr)) og_ne (de_ix (hu_of hr) (dv 2) (dv 7)) de_str (nomark _)) (dss_one (ds_raise rfl (takes_of rfl rfl rfl rfl) T.e_JournalError)) dss_nil)
  (dss_cons (ds_app (i := 6) rfl (.inl rfl) (de_call ((ok_numbers_in T).mono (by decide)) hr (takes_of rfl rfl rfl rfl) (da_cons (de_slice (dv 2) (do_some (de_add (dv 7) de_int)) (do_some (de_neg de_int))) (da_cons (dv 8) da_nil))))
  (dss_one (ds_set (i := 7) sc_read_line.nd rfl (.inl rfl) (de_add (de_add (dv 7) de_int) (dv 8)))))))
  (dss_one (ds_ret (de_tup (da_cons (dv 4) (da_cons (de_tuple T.b_tuple (da_cons (dv 6) da_nil)) da_nil))))))))))))))
theorem ok__law_told (T : Txt K mg) : FD P w K mg base 4 "_law_told" 2 m__law_told := fd_of T.d__law_told fun a fd F => fn_ok F sc__law_told fun cdv A outer s H E hr =>
  (dss_cons (ds_tryC (i := 3) T.c_TensorError rfl rfl rfl sc__law_told.nd (takes_of rfl rfl rfl rfl) (fun _ _ _ tk hp => (dss_one (ds_set (i := 2) sc__law_told.nd rfl (.inl rfl) (de_call ((ok_read_line T).mono (by decide)) hr tk (da_cons (dv 0) (da_cons (dv 1) da_nil)))))) (fun cl C a oe pn hcl hz hf => (dss_one (ds_ret (de_if (dt_tru (de_isE T.i_JournalError hcl hz hf T.b_isinstance (by rfl) (.inl rfl))) de_non de_str)))))
  (dss_one (ds_ret (de_if (dt_cmp op_isN og_isN (dv 2) de_non (nomark _)) de_str (dv 2)))))
theorem ok_journal_line (T : Txt K mg) : FD P w K mg base 2 "journal_line" 2 m_journal_line := fd_of T.d_journal_line fun a fd F => fn_ok F sc_journal_line fun cdv A outer s H E hr =>
  (dss_cons (ds_set (i := 2) sc_journal_line.nd rfl (.inl rfl) (de_lst (da_cons de_str (da_cons (de_strc T.b_str (da_cons (dv 0) da_nil)) da_nil))))
  (dss_cons (ds_forV (t := (.one 3)) (i := 1) rfl (.inl rfl) (passes_of rfl) rfl (pg_name (i := 3) sc_journal_line.nd rfl (.inl rfl)) (dss_cons (ds_app (i := 2) rfl (.inl rfl) de_str)
  (dss_one (ds_set (i := 2) sc_journal_line.nd rfl (.inl rfl) (de_add (dv 2) (de_lc2 (own := [("n", 5)]) rfl sc_journal_line.nd (di2_seq (dv 3)) (blkOk_by (N := n_journal_line) (sc := defScope s_journal_line) (by decide +kernel)) (fun _ _ _ _ _ => (pg_name (i := 5) sc_journal_line.nd rfl (.inl rfl))) (fun _ _ _ _ _ => dts_nil) (fun _ _ _ _ _ => (de_strc T.b_str (da_cons (dv 5) da_nil)))))))))
  (dss_cons (ds_set (i := 4) sc_journal_line.nd rfl (.inl rfl) (de_join de_str (dv 2)))
  (dss_one (ds_ret (de_js (DJ.cons (de_fmt (dv 4)) (DJ.cons de_str (DJ.cons (de_fmt (de_call ((ok_check_number T).mono (by decide)) hr (takes_of rfl rfl rfl rfl) (da_cons (dv 4) da_nil))) (DJ.cons de_str DJ.nil))))))))))
theorem ok_law (T : Txt K mg) : FD P w K mg base 5 "law" 1 m_law := fd_of T.d_law fun a fd F => fn_ok F sc_law fun cdv A outer s H E hr =>
  (dss_cons (ds_set (i := 1) sc_law.nd rfl (.inr rfl) (de_call ((ok__law_begin T).mono (by decide)) hr (takes_of rfl rfl rfl rfl) (da_cons (dv 0) da_nil)))
  (dss_cons (ds_set (i := 2) sc_law.nd rfl (.inr rfl) (de_ix (hu_of hr) (de_tup (da_cons de_int (da_cons de_int (da_cons de_int (da_cons de_int da_nil))))) (de_call ((ok__law_take T).mono (by decide)) hr (takes_of rfl rfl rfl rfl) (da_cons (dv 1) (da_cons de_int da_nil)))))
  (dss_cons (ds_set (i := 3) sc_law.nd rfl (.inl rfl) (de_tuple T.b_tuple (da_cons (de_lc2 (own := [("k", 18)]) rfl sc_law.nd (DI.two (di_range1 T.b_range (da_cons (de_add de_int (de_call ((ok__law_take T).mono (by decide)) hr (takes_of rfl rfl rfl rfl) (da_cons (dv 1) (da_cons (de_ix (hu_of hr) (de_tup (da_cons de_int (da_cons de_int da_nil))) (de_call ((ok__law_take T).mono (by decide)) hr (takes_of rfl rfl rfl rfl) (da_cons (dv 1) (da_cons de_int da_nil)))) da_nil)))) da_nil))) (blkOk_by (N := n_law) (sc := defScope s_law) (by decide +kernel)) (fun _ _ _ _ _ => (pg_name (i := 18) sc_law.nd rfl (.inl rfl))) (fun _ _ _ _ _ => dts_nil) (fun _ _ _ _ _ => (de_add de_int (de_call ((ok__law_take T).mono (by decide)) hr tk0 (da_cons (dv 1) (da_cons (dv 2) da_nil)))))) da_nil)))
  (dss_cons (ds_set (i := 4) sc_law.nd rfl (.inl rfl) (de_tuple T.b_tuple (da_cons (de_lc2 (own := [("size", 19)]) rfl sc_law.nd (di2_seq (dv 3)) (blkOk_by (N := n_law) (sc := defScope s_law) (by decide +kernel)) (fun _ _ _ _ _ => (pg_name (i := 19) sc_law.nd rfl (.inl rfl))) (fun _ _ _ _ _ => dts_nil) (fun _ _ _ _ _ => (de_tuple T.b_tuple (da_cons (de_lc2 (own := [("k", 18)]) rfl sc_law.nd (DI.two (di_range1 T.b_range (da_cons (dv 19) da_nil))) (blkOk_by (by rfl)) (fun _ _ _ _ _ => (pg_name (i := 18) sc_law.nd rfl (.inl rfl))) (fun _ _ _ _ _ => dts_nil) (fun _ _ _ _ _ => (de_call ((ok__law_number T).mono (by decide)) hr tk0 (da_cons (dv 1) da_nil)))) da_nil)))) da_nil)))
  (dss_cons (ds_set (i := 5) sc_law.nd rfl (.inl rfl) (de_abs T.b_abs (da_cons (de_call ((ok__law_number T).mono (by decide)) hr (takes_of rfl rfl rfl rfl) (da_cons (dv 1) da_nil)) da_nil)))
  (dss_cons (ds_set (i := 6) sc_law.nd rfl (.inl rfl) (de_add de_str (de_strc T.b_str (da_cons (dv 5) da_nil))))
  (dss_cons (ds_forV (t := (.one 7)) (i := 4) rfl (.inl rfl) (passes_of rfl) rfl (pg_name (i := 7) sc_law.nd rfl (.inl rfl)) (dss_one (ds_set (i := 6) sc_law.nd rfl (.inl rfl) (de_add (de_add (dv 6) de_str) (de_join de_str (de_lc2 (own := [("n", 20)]) rfl sc_law.nd (di2_seq (dv 7)) (blkOk_by (N := n_law) (sc := defScope s_law) (by decide +kernel)) (fun _ _ _ _ _ => (pg_name (i := 20) sc_law.nd rfl (.inl rfl))) (fun _ _ _ _ _ => dts_nil) (fun _ _ _ _ _ => (de_strc T.b_str (da_cons (dv 20) da_nil)))))))))
  (dss_cons (ds_set (i := 8) sc_law.nd rfl (.inl rfl) (de_add (de_add (dv 6) de_str) (de_strc T.b_str (da_cons (de_call ((ok__law_check T).mono (by decide)) hr (takes_of rfl rfl rfl rfl) (da_cons (dv 6) da_nil)) da_nil))))
  (dss_cons (ds_set (i := 9) sc_law.nd rfl (.inl rfl) (de_call ((ok_journal_line T).mono (by decide)) hr (takes_of rfl rfl rfl rfl) (da_cons (dv 5) (da_cons (dv 4) da_nil))))
  (dss_cons (ds_if (dt_w (dw_or (dt_not (dt_tru (de_isi T.b_isinstance T.b_str (dv 9) (by decide +kernel) (by decide +kernel)))) (dw_or (dt_cmp (op_neA (hu64 hr)) og_ne (dv 9) (de_add (dv 8) de_str) (nomark _)) (dw_or1 (dt_cmp (op_neA (hu64 hr)) og_ne (de_call ((ok_check_number T).mono (by decide)) hr (takes_of rfl rfl rfl rfl) (da_cons (dv 6) da_nil)) (de_call ((ok__law_check T).mono (by decide)) hr (takes_of rfl rfl rfl rfl) (da_cons (dv 6) da_nil)) (nomark _)))))) (dss_one (ds_ret de_bl)) dss_nil)
  (dss_cons (ds_if (dt_cmp (op_neA (hu64 hr)) og_ne (de_call ((ok__law_told T).mono (by decide)) hr (takes_of rfl rfl rfl rfl) (da_cons (dv 8) (da_cons (dv 3) da_nil))) (de_tup (da_cons (dv 5) (da_cons (dv 4) da_nil))) (nomark _)) (dss_one (ds_ret de_bl)) dss_nil)
  (dss_cons (ds_set (i := 10) sc_law.nd rfl (.inl rfl) de_str)
  (dss_cons (ds_for (t := (.one 11)) (passes_of rfl) rfl (di_range1 T.b_range (da_cons de_int da_nil)) (pg_name (i := 11) sc_law.nd rfl (.inl rfl)) (dss_cons (ds_set (i := 12) sc_law.nd rfl (.inl rfl) (de_call ((ok__law_take T).mono (by decide)) hr (takes_of rfl rfl rfl rfl) (da_cons (dv 1) (da_cons (de_len T.b_len (da_cons (dv 8) da_nil)) da_nil))))
  (dss_cons (ds_set (i := 13) sc_law.nd rfl (.inl rfl) (de_ix (hu_of hr) (dv 10) (de_call ((ok__law_take T).mono (by decide)) hr (takes_of rfl rfl rfl rfl) (da_cons (dv 1) (da_cons (de_len T.b_len (da_cons (dv 10) da_nil)) da_nil)))))
  (dss_cons (ds_if (dt_cmp (op_eqA (hu64 hr)) og_eq (dv 11) de_int (nomark _)) (dss_one (ds_set (i := 13) sc_law.nd rfl (.inl rfl) (de_ix (hu_of hr) de_str (de_call ((ok__law_take T).mono (by decide)) hr (takes_of rfl rfl rfl rfl) (da_cons (dv 1) (da_cons de_int da_nil)))))) dss_nil)
  (dss_cons (ds_if (dt_cmp (op_eqA (hu64 hr)) og_eq (dv 11) de_int (nomark _)) (dss_cons (ds_set (i := 12) sc_law.nd rfl (.inl rfl) (de_idx rfl (takes_of rfl rfl rfl rfl) (dv 8) (da_cons de_str (da_cons (de_min rfl T.b_min (da_cons (dv 12) (da_cons (de_sub (de_len T.b_len (da_cons (dv 8) da_nil)) de_int) da_nil))) da_nil))))
  (dss_one (ds_set (i := 13) sc_law.nd rfl (.inl rfl) (de_ix (hu_of hr) (de_tup (da_cons de_str (da_cons de_str (da_cons de_str (da_cons de_str da_nil))))) (de_call ((ok__law_take T).mono (by decide)) hr (takes_of rfl rfl rfl rfl) (da_cons (dv 1) (da_cons de_int da_nil))))))) dss_nil)
  (dss_one (ds_if (dt_w (dw_and (dt_cmp (op_neA (hu64 hr)) og_ne (de_ix (hu_of hr) (dv 8) (dv 12)) (dv 13) (nomark _)) (dw_and1 (dt_cmp op_notN og_notN (de_call ((ok__law_told T).mono (by decide)) hr (takes_of rfl rfl rfl rfl) (da_cons (de_add (de_add (de_slice (dv 8) do_none (do_some (dv 12))) (dv 13)) (de_slice (dv 8) (do_some (de_add (dv 12) de_int)) do_none)) (da_cons (dv 3) da_nil))) de_non (nomark _))))) (dss_one (ds_ret de_bl)) dss_nil)))))))
  (dss_cons (ds_set (i := 14) sc_law.nd rfl (.inl rfl) (de_split (dv 8) de_str))
  (dss_cons (ds_set (i := 15) sc_law.nd rfl (.inl rfl) (de_call ((ok__law_take T).mono (by decide)) hr (takes_of rfl rfl rfl rfl) (da_cons (dv 1) (da_cons (de_len T.b_len (da_cons (dv 14) da_nil)) da_nil))))
  (dss_cons (ds_set (i := 16) sc_law.nd rfl (.inl rfl) (de_join de_str (de_add (de_slice (dv 14) do_none (do_some (de_add (dv 15) de_int))) (de_slice (dv 14) (do_some (dv 15)) do_none))))
  (dss_cons (ds_set (i := 17) sc_law.nd rfl (.inl rfl) (de_join de_str (de_add (de_slice (dv 14) do_none (do_some (dv 15))) (de_slice (dv 14) (do_some (de_add (dv 15) de_int)) do_none))))
  (dss_cons (ds_if (dt_w (dw_or (dt_cmp op_notN og_notN (de_call ((ok__law_told T).mono (by decide)) hr (takes_of rfl rfl rfl rfl) (da_cons (dv 16) (da_cons (dv 3) da_nil))) de_non (nomark _)) (dw_or (dt_cmp op_notN og_notN (de_call ((ok__law_told T).mono (by decide)) hr (takes_of rfl rfl rfl rfl) (da_cons (dv 17) (da_cons (dv 3) da_nil))) de_non (nomark _)) (dw_or1 (dt_cmp op_notN og_notN (de_call ((ok__law_told T).mono (by decide)) hr (takes_of rfl rfl rfl rfl) (da_cons de_str (da_cons (dv 3) da_nil))) de_non (nomark _)))))) (dss_one (ds_ret de_bl)) dss_nil)
  (dss_one (ds_ret (de_and (de_cmp op_isN og_isN (de_call ((ok__law_told T).mono (by decide)) hr (takes_of rfl rfl rfl rfl) (da_cons (dv 8) (da_cons (de_add (dv 3) (de_tup (da_cons de_int da_nil))) da_nil))) de_non (nomark _)) (de_one (de_cmp op_isN og_isN (de_call ((ok__law_told T).mono (by decide)) hr (takes_of rfl rfl rfl rfl) (da_cons (dv 8) (da_cons (de_add (de_tup (da_cons (de_add (de_ix (hu_of hr) (dv 3) de_int) de_int) da_nil)) (de_slice (dv 3) (do_some de_int) do_none)) da_nil))) de_non (nomark _))))))))))))))))))))))))
end
/-! ### what the top has written -/
theorem all_mk {P : Program} {w : World} {K : PySem.W.Frag} {h : Heap} {mg : Str → Option Value} {fa : Addr} (X : K.In h) (G : h.Ns mainGlobals mg) (hfa : mg "law" = some (.ref fa))
    {f__law_begin f__law_take f__law_check f__law_signed f__law_number f_check_number f_read_integer f_numbers_in f_read_natural f_read_line f__law_told f_journal_line f_law C_JournalError C_TensorError : Addr}
    {od__law_begin an__law_begin : Option Addr} {sl__law_begin : Array (Option Value)} {oc__law_begin kV__law_begin dc__law_begin pm__law_begin cd__law_begin ct__law_begin : Value}
    {od__law_take an__law_take : Option Addr} {sl__law_take : Array (Option Value)} {oc__law_take kV__law_take dc__law_take pm__law_take cd__law_take ct__law_take : Value}
    {od__law_check an__law_check : Option Addr} {sl__law_check : Array (Option Value)} {oc__law_check kV__law_check dc__law_check pm__law_check cd__law_check ct__law_check : Value}
    {od__law_signed an__law_signed : Option Addr} {sl__law_signed : Array (Option Value)} {oc__law_signed kV__law_signed dc__law_signed pm__law_signed cd__law_signed ct__law_signed : Value}
    {od__law_number an__law_number : Option Addr} {sl__law_number : Array (Option Value)} {oc__law_number kV__law_number dc__law_number pm__law_number cd__law_number ct__law_number : Value}
    {od_check_number an_check_number : Option Addr} {sl_check_number : Array (Option Value)} {oc_check_number kV_check_number dc_check_number pm_check_number cd_check_number ct_check_number : Value}
    {od_read_integer an_read_integer : Option Addr} {sl_read_integer : Array (Option Value)} {oc_read_integer kV_read_integer dc_read_integer pm_read_integer cd_read_integer ct_read_integer : Value}
    {od_numbers_in an_numbers_in : Option Addr} {sl_numbers_in : Array (Option Value)} {oc_numbers_in kV_numbers_in dc_numbers_in pm_numbers_in cd_numbers_in ct_numbers_in : Value}
    {od_read_natural an_read_natural : Option Addr} {sl_read_natural : Array (Option Value)} {oc_read_natural kV_read_natural dc_read_natural pm_read_natural cd_read_natural ct_read_natural : Value}
    {od_read_line an_read_line : Option Addr} {sl_read_line : Array (Option Value)} {oc_read_line kV_read_line dc_read_line pm_read_line cd_read_line ct_read_line : Value}
    {od__law_told an__law_told : Option Addr} {sl__law_told : Array (Option Value)} {oc__law_told kV__law_told dc__law_told pm__law_told cd__law_told ct__law_told : Value}
    {od_journal_line an_journal_line : Option Addr} {sl_journal_line : Array (Option Value)} {oc_journal_line kV_journal_line dc_journal_line pm_journal_line cd_journal_line ct_journal_line : Value}
    {od_law an_law : Option Addr} {sl_law : Array (Option Value)} {oc_law kV_law dc_law pm_law cd_law ct_law : Value}
    {t1 : Tok}
    {t2 : Tok}
    {t3 : Tok}
    (a__law_begin : PySem.W.nsIn K mainGlobals "_law_begin" = some (some (.ref f__law_begin)))
    (l__law_begin : K.lookup f__law_begin = some ⟨oc__law_begin, od__law_begin, .func (PySem.W.fnOf "_law_begin" "_law_begin" (defArgs s__law_begin) (defBody s__law_begin) (defScope s__law_begin) .none kV__law_begin dc__law_begin pm__law_begin an__law_begin cd__law_begin ct__law_begin), sl__law_begin⟩)
    (c__law_begin : PySem.W.codeIn K cd__law_begin "_law_begin" = true)
    (k__law_begin : PySem.W.keepIn K (.ref f__law_begin) = true)
    (a__law_take : PySem.W.nsIn K mainGlobals "_law_take" = some (some (.ref f__law_take)))
    (l__law_take : K.lookup f__law_take = some ⟨oc__law_take, od__law_take, .func (PySem.W.fnOf "_law_take" "_law_take" (defArgs s__law_take) (defBody s__law_take) (defScope s__law_take) .none kV__law_take dc__law_take pm__law_take an__law_take cd__law_take ct__law_take), sl__law_take⟩)
    (c__law_take : PySem.W.codeIn K cd__law_take "_law_take" = true)
    (k__law_take : PySem.W.keepIn K (.ref f__law_take) = true)
    (a__law_check : PySem.W.nsIn K mainGlobals "_law_check" = some (some (.ref f__law_check)))
    (l__law_check : K.lookup f__law_check = some ⟨oc__law_check, od__law_check, .func (PySem.W.fnOf "_law_check" "_law_check" (defArgs s__law_check) (defBody s__law_check) (defScope s__law_check) .none kV__law_check dc__law_check pm__law_check an__law_check cd__law_check ct__law_check), sl__law_check⟩)
    (c__law_check : PySem.W.codeIn K cd__law_check "_law_check" = true)
    (k__law_check : PySem.W.keepIn K (.ref f__law_check) = true)
    (a__law_signed : PySem.W.nsIn K mainGlobals "_law_signed" = some (some (.ref f__law_signed)))
    (l__law_signed : K.lookup f__law_signed = some ⟨oc__law_signed, od__law_signed, .func (PySem.W.fnOf "_law_signed" "_law_signed" (defArgs s__law_signed) (defBody s__law_signed) (defScope s__law_signed) .none kV__law_signed dc__law_signed pm__law_signed an__law_signed cd__law_signed ct__law_signed), sl__law_signed⟩)
    (c__law_signed : PySem.W.codeIn K cd__law_signed "_law_signed" = true)
    (k__law_signed : PySem.W.keepIn K (.ref f__law_signed) = true)
    (a__law_number : PySem.W.nsIn K mainGlobals "_law_number" = some (some (.ref f__law_number)))
    (l__law_number : K.lookup f__law_number = some ⟨oc__law_number, od__law_number, .func (PySem.W.fnOf "_law_number" "_law_number" (defArgs s__law_number) (defBody s__law_number) (defScope s__law_number) .none kV__law_number dc__law_number pm__law_number an__law_number cd__law_number ct__law_number), sl__law_number⟩)
    (c__law_number : PySem.W.codeIn K cd__law_number "_law_number" = true)
    (k__law_number : PySem.W.keepIn K (.ref f__law_number) = true)
    (a_check_number : PySem.W.nsIn K mainGlobals "check_number" = some (some (.ref f_check_number)))
    (l_check_number : K.lookup f_check_number = some ⟨oc_check_number, od_check_number, .func (PySem.W.fnOf "check_number" "check_number" (defArgs s_check_number) (defBody s_check_number) (defScope s_check_number) .none kV_check_number dc_check_number pm_check_number an_check_number cd_check_number ct_check_number), sl_check_number⟩)
    (c_check_number : PySem.W.codeIn K cd_check_number "check_number" = true)
    (k_check_number : PySem.W.keepIn K (.ref f_check_number) = true)
    (a_read_integer : PySem.W.nsIn K mainGlobals "read_integer" = some (some (.ref f_read_integer)))
    (l_read_integer : K.lookup f_read_integer = some ⟨oc_read_integer, od_read_integer, .func (PySem.W.fnOf "read_integer" "read_integer" (defArgs s_read_integer) (defBody s_read_integer) (defScope s_read_integer) .none kV_read_integer dc_read_integer pm_read_integer an_read_integer cd_read_integer ct_read_integer), sl_read_integer⟩)
    (c_read_integer : PySem.W.codeIn K cd_read_integer "read_integer" = true)
    (k_read_integer : PySem.W.keepIn K (.ref f_read_integer) = true)
    (a_numbers_in : PySem.W.nsIn K mainGlobals "numbers_in" = some (some (.ref f_numbers_in)))
    (l_numbers_in : K.lookup f_numbers_in = some ⟨oc_numbers_in, od_numbers_in, .func (PySem.W.fnOf "numbers_in" "numbers_in" (defArgs s_numbers_in) (defBody s_numbers_in) (defScope s_numbers_in) .none kV_numbers_in dc_numbers_in pm_numbers_in an_numbers_in cd_numbers_in ct_numbers_in), sl_numbers_in⟩)
    (c_numbers_in : PySem.W.codeIn K cd_numbers_in "numbers_in" = true)
    (k_numbers_in : PySem.W.keepIn K (.ref f_numbers_in) = true)
    (a_read_natural : PySem.W.nsIn K mainGlobals "read_natural" = some (some (.ref f_read_natural)))
    (l_read_natural : K.lookup f_read_natural = some ⟨oc_read_natural, od_read_natural, .func (PySem.W.fnOf "read_natural" "read_natural" (defArgs s_read_natural) (defBody s_read_natural) (defScope s_read_natural) .none kV_read_natural dc_read_natural pm_read_natural an_read_natural cd_read_natural ct_read_natural), sl_read_natural⟩)
    (c_read_natural : PySem.W.codeIn K cd_read_natural "read_natural" = true)
    (k_read_natural : PySem.W.keepIn K (.ref f_read_natural) = true)
    (a_read_line : PySem.W.nsIn K mainGlobals "read_line" = some (some (.ref f_read_line)))
    (l_read_line : K.lookup f_read_line = some ⟨oc_read_line, od_read_line, .func (PySem.W.fnOf "read_line" "read_line" (defArgs s_read_line) (defBody s_read_line) (defScope s_read_line) .none kV_read_line dc_read_line pm_read_line an_read_line cd_read_line ct_read_line), sl_read_line⟩)
    (c_read_line : PySem.W.codeIn K cd_read_line "read_line" = true)
    (k_read_line : PySem.W.keepIn K (.ref f_read_line) = true)
    (a__law_told : PySem.W.nsIn K mainGlobals "_law_told" = some (some (.ref f__law_told)))
    (l__law_told : K.lookup f__law_told = some ⟨oc__law_told, od__law_told, .func (PySem.W.fnOf "_law_told" "_law_told" (defArgs s__law_told) (defBody s__law_told) (defScope s__law_told) .none kV__law_told dc__law_told pm__law_told an__law_told cd__law_told ct__law_told), sl__law_told⟩)
    (c__law_told : PySem.W.codeIn K cd__law_told "_law_told" = true)
    (k__law_told : PySem.W.keepIn K (.ref f__law_told) = true)
    (a_journal_line : PySem.W.nsIn K mainGlobals "journal_line" = some (some (.ref f_journal_line)))
    (l_journal_line : K.lookup f_journal_line = some ⟨oc_journal_line, od_journal_line, .func (PySem.W.fnOf "journal_line" "journal_line" (defArgs s_journal_line) (defBody s_journal_line) (defScope s_journal_line) .none kV_journal_line dc_journal_line pm_journal_line an_journal_line cd_journal_line ct_journal_line), sl_journal_line⟩)
    (c_journal_line : PySem.W.codeIn K cd_journal_line "journal_line" = true)
    (k_journal_line : PySem.W.keepIn K (.ref f_journal_line) = true)
    (a_law : PySem.W.nsIn K mainGlobals "law" = some (some (.ref f_law)))
    (l_law : K.lookup f_law = some ⟨oc_law, od_law, .func (PySem.W.fnOf "law" "law" (defArgs s_law) (defBody s_law) (defScope s_law) .none kV_law dc_law pm_law an_law cd_law ct_law), sl_law⟩)
    (c_law : PySem.W.codeIn K cd_law "law" = true)
    (k_law : PySem.W.keepIn K (.ref f_law) = true)
    (z_abs : PySem.W.nsIn K mainGlobals "abs" = some none)
    (z_int : PySem.W.nsIn K mainGlobals "int" = some none)
    (z_isinstance : PySem.W.nsIn K mainGlobals "isinstance" = some none)
    (z_len : PySem.W.nsIn K mainGlobals "len" = some none)
    (z_list : PySem.W.nsIn K mainGlobals "list" = some none)
    (z_min : PySem.W.nsIn K mainGlobals "min" = some none)
    (z_ord : PySem.W.nsIn K mainGlobals "ord" = some none)
    (z_range : PySem.W.nsIn K mainGlobals "range" = some none)
    (z_str : PySem.W.nsIn K mainGlobals "str" = some none)
    (z_sum : PySem.W.nsIn K mainGlobals "sum" = some none)
    (z_tuple : PySem.W.nsIn K mainGlobals "tuple" = some none)
    (ca_JournalError : PySem.W.nsIn K mainGlobals "JournalError" = some (some (.ref C_JournalError)))
    (ce_JournalError : PySem.W.excIn K C_JournalError [.type "ValueError", .type "Exception", .type "BaseException", .type "object"] "ValueError.__new__" = true)
    (ck_JournalError : PySem.W.keepIn K (.ref C_JournalError) = true)
    (cs_JournalError : PySem.W.subIn K (.ref C_JournalError) (.type "BaseException") = some true)
    (ct_JournalError : PySem.W.typeIn K (.ref C_JournalError) = some (.type "type"))
    (cg_JournalError : PySem.W.findIn K (.ref C_JournalError) "__getattribute__" = some (some (.builtin "BaseException.__getattribute__")))
    (ch_JournalError : PySem.W.findIn K (.ref C_JournalError) "__getattr__" = some none)
    (cd_JournalError : PySem.W.hasDictIn K C_JournalError = true)
    (cc_JournalError : PySem.W.findIn K (.ref C_JournalError) "__class__" = some (some (.builtin "object.__class__")))
    (cm_JournalError : PySem.W.mroIn K C_JournalError (.type "object") = some true)
    (ca_TensorError : PySem.W.nsIn K mainGlobals "TensorError" = some (some (.ref C_TensorError)))
    (ce_TensorError : PySem.W.excIn K C_TensorError [.type "ValueError", .type "Exception", .type "BaseException", .type "object"] "ValueError.__new__" = true)
    (ck_TensorError : PySem.W.keepIn K (.ref C_TensorError) = true)
    (cs_TensorError : PySem.W.subIn K (.ref C_TensorError) (.type "BaseException") = some true)
    (ct_TensorError : PySem.W.typeIn K (.ref C_TensorError) = some (.type "type"))
    (cg_TensorError : PySem.W.findIn K (.ref C_TensorError) "__getattribute__" = some (some (.builtin "BaseException.__getattribute__")))
    (ch_TensorError : PySem.W.findIn K (.ref C_TensorError) "__getattr__" = some none)
    (cd_TensorError : PySem.W.hasDictIn K C_TensorError = true)
    (cc_TensorError : PySem.W.findIn K (.ref C_TensorError) "__class__" = some (some (.builtin "object.__class__")))
    (cm_TensorError : PySem.W.mroIn K C_TensorError (.type "object") = some true)
    (o1 : PySem.W.specialIn K (.builtin "object.__class__") "__get__" = some (some (.builtin "getset_descriptor.__get__")))
    (o2 : PySem.W.takesIn K (.builtin "object.__class__") = some true)
    (sb_JournalError_JournalError : PySem.W.subIn K (.ref C_JournalError) (.ref C_JournalError) = some true)
    (sb_JournalError_TensorError : PySem.W.subIn K (.ref C_JournalError) (.ref C_TensorError) = some true)
    (ga_CHECK_PRIME : PySem.W.nsIn K mainGlobals "CHECK_PRIME" = some (some (.int (65521) t1)))
    (ga_FIGURES : PySem.W.nsIn K mainGlobals "FIGURES" = some (some (.str "0123456789" t2)))
    (ga_FIGURE_LIMIT : PySem.W.nsIn K mainGlobals "FIGURE_LIMIT" = some (some (.int (70) t3))) :
    ∃ fd : FuncData, (∀ (s : Shared) (v : Value), BindsTo s fd ⟨[v], []⟩ [("script", v)]) ∧ ∀ base : Heap, K.In base → base.Ns mainGlobals mg → FnOk P w K mg base (L2.CX P w) 5 fa fd ["script"] (spD K mg 1 m_law) := by
  have e := hfa.symm.trans (PySem.W.mg_of X G a_law)
  cases e
  have T_JournalError : ClsT K mg "JournalError" C_JournalError := ⟨PySem.W.mg_of X G ca_JournalError, ce_JournalError, ck_JournalError, cs_JournalError, ct_JournalError, cg_JournalError, ch_JournalError, cd_JournalError, cc_JournalError, cm_JournalError⟩
  have T_TensorError : ClsT K mg "TensorError" C_TensorError := ⟨PySem.W.mg_of X G ca_TensorError, ce_TensorError, ck_TensorError, cs_TensorError, ct_TensorError, cg_TensorError, ch_TensorError, cd_TensorError, cc_TensorError, cm_TensorError⟩
  have O : ObjT K := ⟨o1, o2⟩
  have F__law_begin := fun_mk (st := s__law_begin) l__law_begin c__law_begin k__law_begin
  have B__law_begin := F__law_begin.binds (ps := ["script"]) fun _ _ _ _ _ _ us hl => match us, hl with | [_], _ => rfl
  have F__law_take := fun_mk (st := s__law_take) l__law_take c__law_take k__law_take
  have B__law_take := F__law_take.binds (ps := ["d", "many"]) fun _ _ _ _ _ _ us hl => match us, hl with | [_, _], _ => rfl
  have F__law_check := fun_mk (st := s__law_check) l__law_check c__law_check k__law_check
  have B__law_check := F__law_check.binds (ps := ["text"]) fun _ _ _ _ _ _ us hl => match us, hl with | [_], _ => rfl
  have F__law_signed := fun_mk (st := s__law_signed) l__law_signed c__law_signed k__law_signed
  have B__law_signed := F__law_signed.binds (ps := ["d", "most"]) fun _ _ _ _ _ _ us hl => match us, hl with | [_, _], _ => rfl
  have F__law_number := fun_mk (st := s__law_number) l__law_number c__law_number k__law_number
  have B__law_number := F__law_number.binds (ps := ["d"]) fun _ _ _ _ _ _ us hl => match us, hl with | [_], _ => rfl
  have F_check_number := fun_mk (st := s_check_number) l_check_number c_check_number k_check_number
  have B_check_number := F_check_number.binds (ps := ["text"]) fun _ _ _ _ _ _ us hl => match us, hl with | [_], _ => rfl
  have F_read_integer := fun_mk (st := s_read_integer) l_read_integer c_read_integer k_read_integer
  have B_read_integer := F_read_integer.binds (ps := ["word", "most"]) fun _ _ _ _ _ _ us hl => match us, hl with | [_, _], _ => rfl
  have F_numbers_in := fun_mk (st := s_numbers_in) l_numbers_in c_numbers_in k_numbers_in
  have B_numbers_in := F_numbers_in.binds (ps := ["words", "many"]) fun _ _ _ _ _ _ us hl => match us, hl with | [_, _], _ => rfl
  have F_read_natural := fun_mk (st := s_read_natural) l_read_natural c_read_natural k_read_natural
  have B_read_natural := F_read_natural.binds (ps := ["word", "most"]) fun _ _ _ _ _ _ us hl => match us, hl with | [_, _], _ => rfl
  have F_read_line := fun_mk (st := s_read_line) l_read_line c_read_line k_read_line
  have B_read_line := F_read_line.binds (ps := ["line", "sizes"]) fun _ _ _ _ _ _ us hl => match us, hl with | [_, _], _ => rfl
  have F__law_told := fun_mk (st := s__law_told) l__law_told c__law_told k__law_told
  have B__law_told := F__law_told.binds (ps := ["line", "sizes"]) fun _ _ _ _ _ _ us hl => match us, hl with | [_, _], _ => rfl
  have F_journal_line := fun_mk (st := s_journal_line) l_journal_line c_journal_line k_journal_line
  have B_journal_line := F_journal_line.binds (ps := ["steps", "weights"]) fun _ _ _ _ _ _ us hl => match us, hl with | [_, _], _ => rfl
  have F_law := fun_mk (st := s_law) l_law c_law k_law
  have B_law := F_law.binds (ps := ["script"]) fun _ _ _ _ _ _ us hl => match us, hl with | [_], _ => rfl
  have T : Txt K mg := { b_abs := PySem.W.mg_none_of X G z_abs, b_int := PySem.W.mg_none_of X G z_int, b_isinstance := PySem.W.mg_none_of X G z_isinstance, b_len := PySem.W.mg_none_of X G z_len, b_list := PySem.W.mg_none_of X G z_list, b_min := PySem.W.mg_none_of X G z_min, b_ord := PySem.W.mg_none_of X G z_ord, b_range := PySem.W.mg_none_of X G z_range, b_str := PySem.W.mg_none_of X G z_str, b_sum := PySem.W.mg_none_of X G z_sum, b_tuple := PySem.W.mg_none_of X G z_tuple, d__law_begin := ⟨_, _, PySem.W.mg_of X G a__law_begin, F__law_begin, B__law_begin⟩, d__law_take := ⟨_, _, PySem.W.mg_of X G a__law_take, F__law_take, B__law_take⟩, d__law_check := ⟨_, _, PySem.W.mg_of X G a__law_check, F__law_check, B__law_check⟩, d__law_signed := ⟨_, _, PySem.W.mg_of X G a__law_signed, F__law_signed, B__law_signed⟩, d__law_number := ⟨_, _, PySem.W.mg_of X G a__law_number, F__law_number, B__law_number⟩, d_check_number := ⟨_, _, PySem.W.mg_of X G a_check_number, F_check_number, B_check_number⟩, d_read_integer := ⟨_, _, PySem.W.mg_of X G a_read_integer, F_read_integer, B_read_integer⟩, d_numbers_in := ⟨_, _, PySem.W.mg_of X G a_numbers_in, F_numbers_in, B_numbers_in⟩, d_read_natural := ⟨_, _, PySem.W.mg_of X G a_read_natural, F_read_natural, B_read_natural⟩, d_read_line := ⟨_, _, PySem.W.mg_of X G a_read_line, F_read_line, B_read_line⟩, d__law_told := ⟨_, _, PySem.W.mg_of X G a__law_told, F__law_told, B__law_told⟩, d_journal_line := ⟨_, _, PySem.W.mg_of X G a_journal_line, F_journal_line, B_journal_line⟩, d_law := ⟨_, _, PySem.W.mg_of X G a_law, F_law, B_law⟩, e_JournalError := T_JournalError.err, c_TensorError := catch_of T_TensorError (.cons T_JournalError sb_JournalError_TensorError .nil), i_JournalError := isT_of T_JournalError O (.cons T_JournalError sb_JournalError_JournalError .nil) (by simp [ti_JournalError]) sb_JournalError_JournalError, g_CHECK_PRIME := gc_of (PySem.W.mg_of X G ga_CHECK_PRIME) .int, g_FIGURES := gc_of (PySem.W.mg_of X G ga_FIGURES) .str, g_FIGURE_LIMIT := gc_of (PySem.W.mg_of X G ga_FIGURE_LIMIT) .int }
  refine ⟨PySem.W.fnOf "law" "law" (defArgs s_law) (defBody s_law) (defScope s_law) .none kV_law dc_law pm_law an_law cd_law ct_law, fun s v => .of_eq rfl, fun base _ _ => ?_⟩
  exact fn_ok F_law sc_law fun cdv A outer s H E hr =>
  (dss_cons (ds_set (i := 1) sc_law.nd rfl (.inr rfl) (de_call ((ok__law_begin T).mono (by decide)) hr (takes_of rfl rfl rfl rfl) (da_cons (dv 0) da_nil)))
  (dss_cons (ds_set (i := 2) sc_law.nd rfl (.inr rfl) (de_ix (hu_of hr) (de_tup (da_cons de_int (da_cons de_int (da_cons de_int (da_cons de_int da_nil))))) (de_call ((ok__law_take T).mono (by decide)) hr (takes_of rfl rfl rfl rfl) (da_cons (dv 1) (da_cons de_int da_nil)))))
  (dss_cons (ds_set (i := 3) sc_law.nd rfl (.inl rfl) (de_tuple T.b_tuple (da_cons (de_lc2 (own := [("k", 18)]) rfl sc_law.nd (DI.two (di_range1 T.b_range (da_cons (de_add de_int (de_call ((ok__law_take T).mono (by decide)) hr (takes_of rfl rfl rfl rfl) (da_cons (dv 1) (da_cons (de_ix (hu_of hr) (de_tup (da_cons de_int (da_cons de_int da_nil))) (de_call ((ok__law_take T).mono (by decide)) hr (takes_of rfl rfl rfl rfl) (da_cons (dv 1) (da_cons de_int da_nil)))) da_nil)))) da_nil))) (blkOk_by (N := n_law) (sc := defScope s_law) (by decide +kernel)) (fun _ _ _ _ _ => (pg_name (i := 18) sc_law.nd rfl (.inl rfl))) (fun _ _ _ _ _ => dts_nil) (fun _ _ _ _ _ => (de_add de_int (de_call ((ok__law_take T).mono (by decide)) hr tk0 (da_cons (dv 1) (da_cons (dv 2) da_nil)))))) da_nil)))
  (dss_cons (ds_set (i := 4) sc_law.nd rfl (.inl rfl) (de_tuple T.b_tuple (da_cons (de_lc2 (own := [("size", 19)]) rfl sc_law.nd (di2_seq (dv 3)) (blkOk_by (N := n_law) (sc := defScope s_law) (by decide +kernel)) (fun _ _ _ _ _ => (pg_name (i := 19) sc_law.nd rfl (.inl rfl))) (fun _ _ _ _ _ => dts_nil) (fun _ _ _ _ _ => (de_tuple T.b_tuple (da_cons (de_lc2 (own := [("k", 18)]) rfl sc_law.nd (DI.two (di_range1 T.b_range (da_cons (dv 19) da_nil))) (blkOk_by (by rfl)) (fun _ _ _ _ _ => (pg_name (i := 18) sc_law.nd rfl (.inl rfl))) (fun _ _ _ _ _ => dts_nil) (fun _ _ _ _ _ => (de_call ((ok__law_number T).mono (by decide)) hr tk0 (da_cons (dv 1) da_nil)))) da_nil)))) da_nil)))
  (dss_cons (ds_set (i := 5) sc_law.nd rfl (.inl rfl) (de_abs T.b_abs (da_cons (de_call ((ok__law_number T).mono (by decide)) hr (takes_of rfl rfl rfl rfl) (da_cons (dv 1) da_nil)) da_nil)))
  (dss_cons (ds_set (i := 6) sc_law.nd rfl (.inl rfl) (de_add de_str (de_strc T.b_str (da_cons (dv 5) da_nil))))
  (dss_cons (ds_forV (t := (.one 7)) (i := 4) rfl (.inl rfl) (passes_of rfl) rfl (pg_name (i := 7) sc_law.nd rfl (.inl rfl)) (dss_one (ds_set (i := 6) sc_law.nd rfl (.inl rfl) (de_add (de_add (dv 6) de_str) (de_join de_str (de_lc2 (own := [("n", 20)]) rfl sc_law.nd (di2_seq (dv 7)) (blkOk_by (N := n_law) (sc := defScope s_law) (by decide +kernel)) (fun _ _ _ _ _ => (pg_name (i := 20) sc_law.nd rfl (.inl rfl))) (fun _ _ _ _ _ => dts_nil) (fun _ _ _ _ _ => (de_strc T.b_str (da_cons (dv 20) da_nil)))))))))
  (dss_cons (ds_set (i := 8) sc_law.nd rfl (.inl rfl) (de_add (de_add (dv 6) de_str) (de_strc T.b_str (da_cons (de_call ((ok__law_check T).mono (by decide)) hr (takes_of rfl rfl rfl rfl) (da_cons (dv 6) da_nil)) da_nil))))
  (dss_cons (ds_set (i := 9) sc_law.nd rfl (.inl rfl) (de_call ((ok_journal_line T).mono (by decide)) hr (takes_of rfl rfl rfl rfl) (da_cons (dv 5) (da_cons (dv 4) da_nil))))
  (dss_cons (ds_if (dt_w (dw_or (dt_not (dt_tru (de_isi T.b_isinstance T.b_str (dv 9) (by decide +kernel) (by decide +kernel)))) (dw_or (dt_cmp (op_neA (hu64 hr)) og_ne (dv 9) (de_add (dv 8) de_str) (nomark _)) (dw_or1 (dt_cmp (op_neA (hu64 hr)) og_ne (de_call ((ok_check_number T).mono (by decide)) hr (takes_of rfl rfl rfl rfl) (da_cons (dv 6) da_nil)) (de_call ((ok__law_check T).mono (by decide)) hr (takes_of rfl rfl rfl rfl) (da_cons (dv 6) da_nil)) (nomark _)))))) (dss_one (ds_ret de_bl)) dss_nil)
  (dss_cons (ds_if (dt_cmp (op_neA (hu64 hr)) og_ne (de_call ((ok__law_told T).mono (by decide)) hr (takes_of rfl rfl rfl rfl) (da_cons (dv 8) (da_cons (dv 3) da_nil))) (de_tup (da_cons (dv 5) (da_cons (dv 4) da_nil))) (nomark _)) (dss_one (ds_ret de_bl)) dss_nil)
  (dss_cons (ds_set (i := 10) sc_law.nd rfl (.inl rfl) de_str)
  (dss_cons (ds_for (t := (.one 11)) (passes_of rfl) rfl (di_range1 T.b_range (da_cons de_int da_nil)) (pg_name (i := 11) sc_law.nd rfl (.inl rfl)) (dss_cons (ds_set (i := 12) sc_law.nd rfl (.inl rfl) (de_call ((ok__law_take T).mono (by decide)) hr (takes_of rfl rfl rfl rfl) (da_cons (dv 1) (da_cons (de_len T.b_len (da_cons (dv 8) da_nil)) da_nil))))
  (dss_cons (ds_set (i := 13) sc_law.nd rfl (.inl rfl) (de_ix (hu_of hr) (dv 10) (de_call ((ok__law_take T).mono (by decide)) hr (takes_of rfl rfl rfl rfl) (da_cons (dv 1) (da_cons (de_len T.b_len (da_cons (dv 10) da_nil)) da_nil)))))
  (dss_cons (ds_if (dt_cmp (op_eqA (hu64 hr)) og_eq (dv 11) de_int (nomark _)) (dss_one (ds_set (i := 13) sc_law.nd rfl (.inl rfl) (de_ix (hu_of hr) de_str (de_call ((ok__law_take T).mono (by decide)) hr (takes_of rfl rfl rfl rfl) (da_cons (dv 1) (da_cons de_int da_nil)))))) dss_nil)
  (dss_cons (ds_if (dt_cmp (op_eqA (hu64 hr)) og_eq (dv 11) de_int (nomark _)) (dss_cons (ds_set (i := 12) sc_law.nd rfl (.inl rfl) (de_idx rfl (takes_of rfl rfl rfl rfl) (dv 8) (da_cons de_str (da_cons (de_min rfl T.b_min (da_cons (dv 12) (da_cons (de_sub (de_len T.b_len (da_cons (dv 8) da_nil)) de_int) da_nil))) da_nil))))
  (dss_one (ds_set (i := 13) sc_law.nd rfl (.inl rfl) (de_ix (hu_of hr) (de_tup (da_cons de_str (da_cons de_str (da_cons de_str (da_cons de_str da_nil))))) (de_call ((ok__law_take T).mono (by decide)) hr (takes_of rfl rfl rfl rfl) (da_cons (dv 1) (da_cons de_int da_nil))))))) dss_nil)
  (dss_one (ds_if (dt_w (dw_and (dt_cmp (op_neA (hu64 hr)) og_ne (de_ix (hu_of hr) (dv 8) (dv 12)) (dv 13) (nomark _)) (dw_and1 (dt_cmp op_notN og_notN (de_call ((ok__law_told T).mono (by decide)) hr (takes_of rfl rfl rfl rfl) (da_cons (de_add (de_add (de_slice (dv 8) do_none (do_some (dv 12))) (dv 13)) (de_slice (dv 8) (do_some (de_add (dv 12) de_int)) do_none)) (da_cons (dv 3) da_nil))) de_non (nomark _))))) (dss_one (ds_ret de_bl)) dss_nil)))))))
  (dss_cons (ds_set (i := 14) sc_law.nd rfl (.inl rfl) (de_split (dv 8) de_str))
  (dss_cons (ds_set (i := 15) sc_law.nd rfl (.inl rfl) (de_call ((ok__law_take T).mono (by decide)) hr (takes_of rfl rfl rfl rfl) (da_cons (dv 1) (da_cons (de_len T.b_len (da_cons (dv 14) da_nil)) da_nil))))
  (dss_cons (ds_set (i := 16) sc_law.nd rfl (.inl rfl) (de_join de_str (de_add (de_slice (dv 14) do_none (do_some (de_add (dv 15) de_int))) (de_slice (dv 14) (do_some (dv 15)) do_none))))
  (dss_cons (ds_set (i := 17) sc_law.nd rfl (.inl rfl) (de_join de_str (de_add (de_slice (dv 14) do_none (do_some (dv 15))) (de_slice (dv 14) (do_some (de_add (dv 15) de_int)) do_none))))
  (dss_cons (ds_if (dt_w (dw_or (dt_cmp op_notN og_notN (de_call ((ok__law_told T).mono (by decide)) hr (takes_of rfl rfl rfl rfl) (da_cons (dv 16) (da_cons (dv 3) da_nil))) de_non (nomark _)) (dw_or (dt_cmp op_notN og_notN (de_call ((ok__law_told T).mono (by decide)) hr (takes_of rfl rfl rfl rfl) (da_cons (dv 17) (da_cons (dv 3) da_nil))) de_non (nomark _)) (dw_or1 (dt_cmp op_notN og_notN (de_call ((ok__law_told T).mono (by decide)) hr (takes_of rfl rfl rfl rfl) (da_cons de_str (da_cons (dv 3) da_nil))) de_non (nomark _)))))) (dss_one (ds_ret de_bl)) dss_nil)
  (dss_one (ds_ret (de_and (de_cmp op_isN og_isN (de_call ((ok__law_told T).mono (by decide)) hr (takes_of rfl rfl rfl rfl) (da_cons (dv 8) (da_cons (de_add (dv 3) (de_tup (da_cons de_int da_nil))) da_nil))) de_non (nomark _)) (de_one (de_cmp op_isN og_isN (de_call ((ok__law_told T).mono (by decide)) hr (takes_of rfl rfl rfl rfl) (da_cons (dv 8) (da_cons (de_add (de_tup (da_cons (de_add (de_ix (hu_of hr) (dv 3) de_int) de_int) da_nil)) (de_slice (dv 3) (do_some de_int) do_none)) da_nil))) de_non (nomark _))))))))))))))))))))))))
end Lw
namespace Lw
open PySem PySem.Spec PyProof.Rows L2 DL
open NumText
theorem sgn : m__law_signed = signedF := rfl
abbrev Tx (l : List Nat) : Str := SX.S l
theorem Tx_len (l : List Nat) : (Tx l).length = l.length := SX.S_len l
theorem Tx_eq {l m : List Nat} : (Tx l = Tx m) ↔ l = m := ⟨fun h => SX.S_inj h, fun h => by rw [h]⟩
theorem big {n : Nat} (h : n ≤ 100000) : n ≤ sizeLine := Nat.le_trans h (by decide)
def dc1 (c : Nat) : Bool := decide (48 ≤ c) && decide (c ≤ 57)
def Dg (l : List Nat) : Bool := l.all dc1
def dg (w : List Nat) : List Nat := if w.take 1 = [45] then w.drop 1 else w
def okD (d : List Nat) : Bool := decide (d ≠ []) && (Dg d && (decide (d = [48]) || decide (d.head? ≠ some 48)))
def okI (w : List Nat) : Bool := okD (dg w) && decide (w ≠ [45, 48])
def intL (w : List Nat) : Int := if w.take 1 = [45] then -((digitsVal (dg w) : Nat) : Int) else ((digitsVal (dg w) : Nat) : Int)
theorem Dg_all {l : List Nat} (h : Dg l = true) : AllDigits l := fun c hc => by
  have := List.all_eq_true.mp h c hc
  unfold dc1 at this
  rw [Bool.and_eq_true, decide_eq_true_eq, decide_eq_true_eq] at this
  exact this
theorem lit_ten : ("0123456789" : Str) = Tx [48, 49, 50, 51, 52, 53, 54, 55, 56, 57] := by decide +kernel
theorem lit_neg : ("-" : Str) = Tx [45] := by decide +kernel
theorem lit_sl : ("/" : Str) = Tx [47] := by decide +kernel
theorem lit_0 : ("0" : Str) = Tx [48] := by decide +kernel
theorem lit_1 : ("1" : Str) = Tx [49] := by decide +kernel
theorem lit_e : ("" : Str) = Tx [] := by decide +kernel
theorem lit_n0 : ("-0" : Str) = Tx [45, 48] := by decide +kernel
theorem mem_ten (c : Nat) : decide (c ∈ [48, 49, 50, 51, 52, 53, 54, 55, 56, 57]) = dc1 c := by
  unfold dc1
  rw [Bool.eq_iff_iff, Bool.and_eq_true, decide_eq_true_eq, decide_eq_true_eq, decide_eq_true_eq]
  simp
  omega
theorem in_ten (n : Bool) (c : Nat) : fIn n (.p (.str ⟨#[c]⟩)) (.p (.str "0123456789")) = .ok (if n then !dc1 c else dc1 c) := by
  rw [lit_ten, ← mem_ten]
  rfl
theorem eq_tx (n : Bool) (l m : List Nat) : fB (fEqB n) (.p (.str (Tx l))) (.p (.str (Tx m))) = .ok (.own (.p (.bl (if n then !decide (l = m) else decide (l = m))))) := by
  have e : decide (Tx l = Tx m) = decide (l = m) := by
    by_cases h : l = m
    · simp [h]
    · have : ¬ Tx l = Tx m := fun z => h (Tx_eq.mp z)
      rw [decide_eq_false this, decide_eq_false h]
  refine fB_eq ?_
  unfold fEqB
  dsimp only
  rw [if_pos (show P.scal (.str (Tx l)) (.str (Tx m)) = true from rfl)]
  show Rn.ok (if n = true then !decide (Tx l = Tx m) else decide (Tx l = Tx m)) = _
  rw [e]
theorem sl_to {ga : GE} {δ : Sl} {l : List Nat} (h : ga δ = .ok (.own (.p (.str (Tx l))))) (hl : l.length ≤ 100000) {i : Int} (hi : 0 ≤ i) {gp : GE} (hp : gp δ = .ok (.own (.p (.int i)))) : gSl ga gNoPart (gPart gp) δ = .ok (.own (.p (.str (Tx (l.take i.toNat))))) := by
  unfold gSl gPart gNoPart
  rw [h, hp]
  show (if (Tx l).length ≤ sizeLine then _ else _) = _
  rw [if_pos (by rw [Tx_len]; exact big hl), C8.cutS_slice, SX.slice_to hi]
theorem sl_from {ga : GE} {δ : Sl} {l : List Nat} (h : ga δ = .ok (.own (.p (.str (Tx l))))) (hl : l.length ≤ 100000) {i : Int} (hi : 0 ≤ i) {gp : GE} (hp : gp δ = .ok (.own (.p (.int i)))) : gSl ga (gPart gp) gNoPart δ = .ok (.own (.p (.str (Tx (l.drop i.toNat))))) := by
  unfold gSl gPart gNoPart
  rw [h, hp]
  show (if (Tx l).length ≤ sizeLine then _ else _) = _
  rw [if_pos (by rw [Tx_len]; exact big hl), C8.cutS_slice, SX.slice_from hi]
theorem len_tx {l : List Nat} (hl : l.length ≤ 100000) : fLen [.p (.str (Tx l))] = .ok (.own (.p (.int (l.length : Int)))) := by
  show (if (Tx l).length ≤ sizeLine then _ else _) = _
  rw [Tx_len, if_pos (big hl)]
theorem ix_tx {c : Nat} {r : List Nat} (hl : (c :: r).length ≤ 100000) : fIx (.p (.str (Tx (c :: r)))) (.p (.int 0)) = .ok (.own (.p (.str (Tx [c])))) := by
  show (if (Tx (c :: r)).length ≤ sizeLine then _ else _) = _
  rw [if_pos (by rw [Tx_len]; exact big hl)]
  have : atI (c :: r) 0 = some c := by
    have hh : (0 : Int) < (r.length : Int) + 1 := by omega
    simp [atI, ixN, hh]
  show (match atI (c :: r) 0 with | some c => _ | none => _) = _
  rw [this]
def bodyR : GS := gIfS (gTB (gOp2 (fB (fIn true)) (gVar 3) (gC (.str "0123456789")))) (gRet (gC .non)) gNext
theorem loopR {a b c : S} : ∀ (l : List Nat) (s3 : S), if Dg l = true then ∃ s3', gForL (.one 3) bodyR (l.map fun c => P.str ⟨#[c]⟩) [a, b, c, s3] = .ok (.nx [a, b, c, s3']) else gForL (.one 3) bodyR (l.map fun c => P.str ⟨#[c]⟩) [a, b, c, s3] = .ok (.ret (.p .non))
  | [], s3 => by
    rw [if_pos (show Dg [] = true from rfl)]
    exact ⟨s3, rfl⟩
  | x :: l, s3 => by
    have ih := loopR (a := a) (b := b) (c := c) l (.own (.p (.str ⟨#[x]⟩)))
    have tb : gTB (gOp2 (fB (fIn true)) (gVar 3) (gC (.str "0123456789"))) [a, b, c, .own (.p (.str ⟨#[x]⟩))] = .ok (!dc1 x) := tb_eq (op2_eq (x := .own (.p (.str ⟨#[x]⟩))) rfl rfl (fB_eq (in_ten true x)))
    by_cases hx : dc1 x = true
    · have e : Dg (x :: l) = Dg l := by simp [Dg, hx]
      rw [e]
      have w : bodyR [a, b, c, .own (.p (.str ⟨#[x]⟩))] = .ok (.nx [a, b, c, .own (.p (.str ⟨#[x]⟩))]) := if_eqF (by rw [tb, hx]; rfl) rfl
      by_cases hl : Dg l = true
      · rw [if_pos hl] at ih ⊢
        obtain ⟨s3', ih⟩ := ih
        exact ⟨s3', forL_eq rfl w ih⟩
      · rw [if_neg hl] at ih ⊢
        exact forL_eq rfl w ih
    · have hx : dc1 x = false := by simpa using hx
      have e : Dg (x :: l) = false := by simp [Dg, hx]
      rw [e, if_neg (by decide)]
      have w : bodyR [a, b, c, .own (.p (.str ⟨#[x]⟩))] = .ok (.ret (.p .non)) := if_eqT (by rw [tb, hx]; rfl) rfl
      have un : gForL (.one 3) bodyR (P.str ⟨#[x]⟩ :: l.map fun c => P.str ⟨#[c]⟩) [a, b, c, s3] = (bodyR [a, b, c, .own (.p (.str ⟨#[x]⟩))]).bind fun
        | .nx δ' => gForL (.one 3) bodyR (l.map fun c => P.str ⟨#[c]⟩) δ'
        | .ct δ' => gForL (.one 3) bodyR (l.map fun c => P.str ⟨#[c]⟩) δ'
        | .bk δ' => .ok (.nx δ')
        | .ret d => .ok (.ret d) := rfl
      rw [List.map_cons, un, w]
      rfl
theorem int_tx {d : List Nat} (h : Dg d = true) (hne : d ≠ []) (hl : d.length ≤ 600) : fIntT [.p (.str (Tx d))] = .ok (.own (.p (.int ((digitsVal d : Nat) : Int)))) := by
  have e : intText? (Tx d) = some ((digitsVal d : Nat) : Int) := intText_digits (x := Tx d) (Dg_all h) hne (by rw [Tx_len]; omega)
  unfold fIntT
  dsimp only
  rw [e]
  dsimp only
  rw [if_pos (by rw [Tx_len]; omega)]
theorem int_txn {d : List Nat} (h : Dg d = true) (hne : d ≠ []) (hl : d.length ≤ 600) : fIntT [.p (.str (Tx (45 :: d)))] = .ok (.own (.p (.int (-((digitsVal d : Nat) : Int))))) := by
  have e : intText? (Tx (45 :: d)) = some (-((digitsVal d : Nat) : Int)) := intText_neg (x := Tx (45 :: d)) rfl (Dg_all h) hne (by rw [Tx_len]; simp; omega)
  unfold fIntT
  dsimp only
  rw [e]
  dsimp only
  rw [if_pos (by rw [Tx_len]; simp; omega)]
theorem dg_len (w : List Nat) : (dg w).length ≤ w.length := by
  unfold dg
  split
  · simp
  · exact Nat.le_refl _
theorem neg_cons {w : List Nat} (h : w.take 1 = [45]) : w = 45 :: w.drop 1 := by
  match w, h with
  | c :: r, h =>
    have : c = 45 := by simpa using h
    simp [this]
theorem int_w {w : List Nat} (h : Dg (dg w) = true) (hne : dg w ≠ []) (hl : w.length ≤ 600) : fIntT [.p (.str (Tx w))] = .ok (.own (.p (.int (intL w)))) := by
  unfold intL
  by_cases hw : w.take 1 = [45]
  · have e := neg_cons hw
    have ed : dg w = w.drop 1 := if_pos hw
    rw [if_pos hw]
    rw [ed] at h hne ⊢
    rw [show Tx w = Tx (45 :: w.drop 1) by rw [← e]]
    exact int_txn h hne (by simp; omega)
  · have ed : dg w = w := if_neg hw
    rw [if_neg hw]
    rw [ed] at h hne ⊢
    exact int_tx h hne hl

theorem okI_parts {w : List Nat} : okI w = (decide (dg w ≠ []) && (Dg (dg w) && !(decide ((dg w).head? = some 48) && (decide (1 < (dg w).length) || decide (1 < w.length))))) := by
  unfold okI okD
  by_cases hw : w.take 1 = [45]
  · have e := neg_cons hw
    have ed : dg w = w.drop 1 := if_pos hw
    rw [ed]
    generalize w.drop 1 = d at *
    subst e
    match d with
    | [] => rfl
    | c :: r =>
      by_cases hc : c = 48
      · subst hc
        match r with
        | [] => rfl
        | x :: r => simp
      · simp [hc]
  · have ed : dg w = w := if_neg hw
    rw [ed]
    match w, hw with
    | [], _ => rfl
    | c :: r, hw =>
      have hc : c ≠ 45 := fun z => hw (by simp [z])
      by_cases h0 : c = 48
      · subst h0
        match r with
        | [] => rfl
        | x :: r => simp
      · simp [hc, h0]
def optI (b : Bool) (i : Int) : P := if b = true then .int i else .non
theorem tk1 {ga : GE} {δ : Sl} {l : List Nat} (h : ga δ = .ok (.own (.p (.str (Tx l))))) (hl : l.length ≤ 100000) : gTB (gOp2 (fB (fEqB false)) (gSl ga gNoPart (gPart (gC (.int 1)))) (gC (.str "-"))) δ = .ok (decide (l.take 1 = [45])) := by
  rw [lit_neg]
  exact tb_eq (op2_eq (sl_to h hl (by decide) rfl) rfl (eq_tx false (l.take 1) [45]))
theorem v_rint {w : List Nat} (hl : w.length ≤ 90000) : m_read_integer [.p (.str (Tx w)), .p (.int 70)] = .ok (.p (optI (okI w && decide ((dg w).length ≤ 70)) (intL w))) := by
  have hd := dg_len w
  have t1 := fun s2 s3 => tk1 (ga := gVar 0) (δ := [.bor none (.p (.str (Tx w))), .bor none (.p (.int 70)), s2, s3]) (l := w) rfl (by omega)
  have st2 : gIfS (gTB (gOp2 (fB (fEqB false)) (gSl (gVar 0) gNoPart (gPart (gC (.int 1)))) (gC (.str "-")))) (gSet 2 (gSl (gVar 0) (gPart (gC (.int 1))) gNoPart)) gNext [.bor none (.p (.str (Tx w))), .bor none (.p (.int 70)), .own (.p (.str (Tx w))), .no] = .ok (.nx [.bor none (.p (.str (Tx w))), .bor none (.p (.int 70)), .own (.p (.str (Tx (dg w)))), .no]) := by
    by_cases hw : w.take 1 = [45]
    · refine if_eqT (by rw [t1, decide_eq_true hw]) ?_
      rw [show dg w = w.drop 1 from if_pos hw]
      exact set_eq (sl_from (ga := gVar 0) (i := 1) rfl (by omega) (by decide) rfl)
    · refine if_eqF (by rw [t1, decide_eq_false hw]) ?_
      rw [show dg w = w from if_neg hw]
      rfl
  rw [okI_parts]
  have dl : (dg w).length ≤ 70 → w.length ≤ 600 := by
    intro h
    unfold dg at h
    split at h
    · simp at h; omega
    · omega
  have ii := fun h1 h2 h3 => int_w (w := w) h1 h2 (dl h3)
  generalize hdd : dg w = d at *
  have le := len_tx (l := d) (by omega)
  have lw := len_tx (l := w) (by omega)
  have e3 : ∀ s3, gTB (gOp2 (fB (fEqB false)) (gVar 2) (gC (.str ""))) [.bor none (.p (.str (Tx w))), .bor none (.p (.int 70)), .own (.p (.str (Tx d))), s3] = .ok (decide (d = [])) := fun s3 => by
    rw [lit_e]
    exact tb_eq (op2_eq (x := .own (.p (.str (Tx d)))) rfl rfl (eq_tx false d []))
  have e4 : ∀ s3, gTB (gOp2 (fB fGt) (gCall fLen (DL.gCons (gVar 2) DL.gNil)) (gVar 1)) [.bor none (.p (.str (Tx w))), .bor none (.p (.int 70)), .own (.p (.str (Tx d))), s3] = .ok (decide (70 < d.length)) := fun s3 => by
    refine tb_eq (op2_eq (call_eq (rs := [.own (.p (.str (Tx d)))]) rfl le) rfl (fB_eq ?_))
    show Rn.ok (decide ((70 : Int) < (d.length : Int))) = _
    congr 1
    by_cases q : 70 < d.length
    · rw [decide_eq_true q, decide_eq_true (by omega)]
    · rw [decide_eq_false q, decide_eq_false (by omega)]
  by_cases hlen : d.length ≤ 70
  rotate_left
  · rw [decide_eq_false hlen, Bool.and_false]
    have e3' : gTB (gOp2 (fB (fEqB false)) (gVar 2) (gC (.str ""))) [.bor none (.p (.str (Tx w))), .bor none (.p (.int 70)), .own (.p (.str (Tx d))), .no] = .ok false := (e3 .no).trans (by rw [decide_eq_false (by intro z; rw [z] at hlen; simp at hlen)])
    exact fn_eq (seq_eq rfl (seq_eq st2 (seq_eqr (if_eqT (or_eqF e3' ((e4 .no).trans (by rw [decide_eq_true (by omega)]))) rfl))))
  rw [decide_eq_true hlen, Bool.and_true]
  replace ii := fun h1 h2 => ii h1 h2 hlen
  replace e4 := fun s3 => (e4 s3).trans (show Rn.ok (decide (70 < d.length)) = .ok false by rw [decide_eq_false (by omega)])
  match d, hdd with
  | [], hdd => exact fn_eq (seq_eq rfl (seq_eq st2 (seq_eqr (if_eqT (or_eqT (e3 _)) rfl))))
  | c :: r, hdd =>
    have st3 := if_eqF (a := gRet (gC .non)) (b := gNext) (or_eqF (e3 .no) (e4 .no)) rfl
    have lp := loopR (a := .bor none (.p (.str (Tx w)))) (b := .bor none (.p (.int 70))) (c := .own (.p (.str (Tx (c :: r))))) (c :: r) .no
    have fv : gForV (.one 3) 2 bodyR [.bor none (.p (.str (Tx w))), .bor none (.p (.int 70)), .own (.p (.str (Tx (c :: r)))), .no] = gForL (.one 3) bodyR ((c :: r).map fun c => P.str ⟨#[c]⟩) [.bor none (.p (.str (Tx w))), .bor none (.p (.int 70)), .own (.p (.str (Tx (c :: r)))), .no] := rfl
    by_cases hg : Dg (c :: r) = true
    · rw [if_pos hg] at lp
      obtain ⟨s3', lp⟩ := lp
      have e5 : gTB (gOp2 (fB (fEqB false)) (gOp2 fIx (gVar 2) (gC (.int 0))) (gC (.str "0"))) [.bor none (.p (.str (Tx w))), .bor none (.p (.int 70)), .own (.p (.str (Tx (c :: r)))), s3'] = .ok (decide (c = 48)) := by
        rw [lit_0]
        refine (tb_eq (op2_eq (op2_eq (x := .own (.p (.str (Tx (c :: r))))) rfl rfl (ix_tx (by omega))) rfl (eq_tx false [c] [48]))).trans ?_
        simp
      have e6 : gTB (gOp2 (fB fGt) (gCall fLen (DL.gCons (gVar 2) DL.gNil)) (gC (.int 1))) [.bor none (.p (.str (Tx w))), .bor none (.p (.int 70)), .own (.p (.str (Tx (c :: r)))), s3'] = .ok (decide (1 < (c :: r).length)) := by
        refine tb_eq (op2_eq (call_eq (rs := [.own (.p (.str (Tx (c :: r))))]) rfl le) rfl (fB_eq ?_))
        show Rn.ok (decide ((1 : Int) < ((c :: r).length : Int))) = _
        congr 1
        by_cases q : 1 < (c :: r).length
        · rw [decide_eq_true q, decide_eq_true (by omega)]
        · rw [decide_eq_false q, decide_eq_false (by omega)]
      have e7 : gTB (gOp2 (fB fGt) (gCall fLen (DL.gCons (gVar 0) DL.gNil)) (gC (.int 1))) [.bor none (.p (.str (Tx w))), .bor none (.p (.int 70)), .own (.p (.str (Tx (c :: r)))), s3'] = .ok (decide (1 < w.length)) := by
        refine tb_eq (op2_eq (call_eq (rs := [.own (.p (.str (Tx w)))]) rfl lw) rfl (fB_eq ?_))
        show Rn.ok (decide ((1 : Int) < (w.length : Int))) = _
        congr 1
        by_cases q : 1 < w.length
        · rw [decide_eq_true q, decide_eq_true (by omega)]
        · rw [decide_eq_false q, decide_eq_false (by omega)]
      have ft : gRet (gCall fIntT (DL.gCons (gVar 0) DL.gNil)) [.bor none (.p (.str (Tx w))), .bor none (.p (.int 70)), .own (.p (.str (Tx (c :: r)))), s3'] = .ok (.ret (.p (.int (intL w)))) := ret_eq (call_eq (rs := [.own (.p (.str (Tx w)))]) rfl (ii hg (by simp)))
      refine fn_eq (seq_eq rfl (seq_eq st2 (seq_eq st3 (seq_eq (fv.trans lp) ?_))))
      by_cases h5 : c = 48
      · by_cases h6 : 1 < (c :: r).length
        · refine (seq_eqr (if_eqT (and_eqT (by rw [e5, decide_eq_true h5]) (or_eqT (by rw [e6, decide_eq_true h6]))) rfl)).trans ?_
          simp only [List.length_cons] at h6
          simp [hg, h5, h6, optI]
        · by_cases h7 : 1 < w.length
          · refine (seq_eqr (if_eqT (and_eqT (by rw [e5, decide_eq_true h5]) (or_eqF (by rw [e6, decide_eq_false h6]) (by rw [e7, decide_eq_true h7]))) rfl)).trans ?_
            simp [hg, h5, h7, optI]
          · refine (seq_eq (if_eqF (and_eqT (by rw [e5, decide_eq_true h5]) (or_eqF (by rw [e6, decide_eq_false h6]) (by rw [e7, decide_eq_false h7]))) rfl) ft).trans ?_
            have tt : (decide (c :: r ≠ []) && (Dg (c :: r) && !(decide ((c :: r).head? = some 48) && (decide (1 < (c :: r).length) || decide (1 < w.length))))) = true := by
              rw [hg, decide_eq_false h6, decide_eq_false h7]
              simp
            rw [tt]
            rfl
      · refine (seq_eq (if_eqF (and_eqF (by rw [e5, decide_eq_false h5])) rfl) ft).trans ?_
        simp [hg, h5, optI]
    · have hg' : Dg (c :: r) = false := by simpa using hg
      rw [if_neg hg] at lp
      refine (fn_eq (seq_eq rfl (seq_eq st2 (seq_eq st3 (seq_eqr (fv.trans lp)))))).trans ?_
      rw [hg']
      simp [optI]
theorem okD_neg {v : List Nat} (h : v.take 1 = [45]) : okD v = false := by
  have e := neg_cons h
  rw [e]
  simp [okD, Dg, dc1]
theorem okI_pos {v : List Nat} (h : ¬ v.take 1 = [45]) : okI v = okD v := by
  have ed : dg v = v := if_neg h
  unfold okI
  rw [ed]
  by_cases h2 : v = [45, 48]
  · exact absurd (by rw [h2]; rfl) h
  · rw [decide_eq_true h2, Bool.and_true]
theorem v_rnat {v : List Nat} (hl : v.length ≤ 90000) : m_read_natural [.p (.str (Tx v)), .p (.int 70)] = .ok (.p (optI (okD v && decide (v.length ≤ 70)) ((digitsVal v : Nat) : Int))) := by
  have t1 := tk1 (ga := gVar 0) (δ := [.bor none (.p (.str (Tx v))), .bor none (.p (.int 70))]) (l := v) rfl (by omega)
  by_cases h : v.take 1 = [45]
  · rw [okD_neg h, Bool.false_and]
    exact fn_eq (seq_eqr (if_eqT (t1.trans (by rw [decide_eq_true h])) rfl))
  · have vr := v_rint hl
    rw [okI_pos h, show dg v = v from if_neg h] at vr
    have e : intL v = ((digitsVal v : Nat) : Int) := by
      unfold intL
      rw [if_neg h, show dg v = v from if_neg h]
    rw [e] at vr
    exact fn_eq (seq_eq (if_eqF (t1.trans (by rw [decide_eq_false h])) rfl) (ret_eq (fn_val (rs := [.own (.p (.str (Tx v))), .own (.p (.int 70))]) rfl rfl vr)))
def strL (p : Int) : List Nat := if p < 0 then 45 :: TL.numL p.natAbs else TL.numL p.natAbs
theorem str_tx (p : Int) : Str.ofString (toString p) = Tx (strL p) := by
  unfold strL
  by_cases h : p < 0
  · rw [if_pos h]
    have e : toString p = "-" ++ toString (0 - p) := PyProof.Rows.toString_neg h
    have en : (0 - p) = ((p.natAbs : Nat) : Int) := by omega
    refine TL.ext_tl ?_
    rw [e, TL.tl_ofString, en]
    have e2 := TL.tl_num p.natAbs
    rw [TL.tl_ofString] at e2
    rw [String.toList_append, List.map_append, e2]
    rfl
  · rw [if_neg h]
    have en : p = ((p.natAbs : Nat) : Int) := by omega
    rw [show toString p = toString ((p.natAbs : Nat) : Int) by rw [← en]]
    exact SX.num_S p.natAbs
theorem Dg_of {l : List Nat} (h : AllDigits l) : Dg l = true := by
  unfold Dg
  refine List.all_eq_true.mpr fun c hc => ?_
  obtain ⟨h1, h2⟩ := h c hc
  unfold dc1
  rw [decide_eq_true h1, decide_eq_true h2]
  rfl
theorem num_head : ∀ n : Nat, 0 < n → (TL.numL n).head? ≠ some 48 := by
  intro n
  induction n using Nat.strongRecOn with
  | _ n ih =>
    intro hn
    by_cases h : n < 10
    · rw [TL.numL_lt h]
      simp
      omega
    · rw [TL.numL_step (by omega)]
      have := ih (n / 10) (by omega) (by omega)
      have ne := TL.numL_ne (n / 10)
      match hx : TL.numL (n / 10) with
      | [] => exact absurd hx ne
      | c :: r =>
        rw [hx] at this
        simpa using this
theorem okD_num (n : Nat) : okD (TL.numL n) = true := by
  unfold okD
  rw [Dg_of (TL.numL_digits n), decide_eq_true (TL.numL_ne n)]
  by_cases h : n = 0
  · subst h
    decide
  · rw [decide_eq_true (num_head n (by omega))]
    simp
theorem num_no (n : Nat) {c : Nat} (h : c < 48 ∨ 57 < c) : c ∉ TL.numL n := TL.numL_free h
theorem num_take (n : Nat) : ¬ (TL.numL n).take 1 = [45] := fun z => by
  have : 45 ∈ TL.numL n := by
    have e := neg_cons z
    rw [e]
    simp
  exact num_no n (.inl (by decide)) this
theorem dg_str (p : Int) : dg (strL p) = TL.numL p.natAbs := by
  unfold strL
  split
  · rfl
  · exact if_neg (num_take _)
theorem okI_str (p : Int) : okI (strL p) = true := by
  unfold okI
  rw [dg_str, okD_num, Bool.true_and]
  refine decide_eq_true fun z => ?_
  unfold strL at z
  split at z
  · rename_i h
    have : TL.numL p.natAbs = TL.numL 0 := by
      rw [(List.cons.inj z).2]
      rfl
    have := TL.numL_inj this
    omega
  · exact num_no p.natAbs (c := 45) (.inl (by decide)) (by rw [z]; simp)
theorem intL_str (p : Int) : intL (strL p) = p := by
  unfold intL
  rw [dg_str, show digitsVal (TL.numL p.natAbs) = p.natAbs from TL.numL_val _]
  unfold strL
  split
  · rw [if_pos (show (45 :: TL.numL p.natAbs).take 1 = [45] from rfl)]
    omega
  · rw [if_neg (num_take _)]
    omega
theorem str_no (p : Int) : 47 ∉ strL p := by
  unfold strL
  split
  · intro z
    rcases List.mem_cons.mp z with z | z
    · omega
    · exact num_no _ (.inl (by decide)) z
  · exact num_no _ (.inl (by decide))

theorem lit_sp : (" " : Str) = Tx [32] := by decide +kernel
def sp : List Nat → List (List Nat)
  | [] => [[]]
  | c :: r => if c = 32 then [] :: sp r else match sp r with
    | p :: ps => (c :: p) :: ps
    | [] => [[c]]
theorem sp_ne : ∀ l, ∃ p ps, sp l = p :: ps
  | [] => ⟨[], [], rfl⟩
  | c :: r => by
    obtain ⟨p, ps, e⟩ := sp_ne r
    unfold sp
    by_cases h : c = 32
    · rw [if_pos h]; exact ⟨_, _, rfl⟩
    · rw [if_neg h, e]; exact ⟨_, _, rfl⟩
theorem pre_sp (c : Nat) (r : List Nat) : TL.pre [32] (c :: r) = decide (c = 32) := by
  unfold TL.pre
  by_cases h : c = 32
  · simp [h]
  · simp [h]
theorem spl_sp : ∀ (l acc : List Nat), TL.spl [32] 0 acc l = match sp l with
    | p :: ps => (acc ++ p) :: ps
    | [] => [acc]
  | [], acc => by rw [TL.spl_nil]; simp [sp]
  | c :: r, acc => by
    obtain ⟨p, ps, e⟩ := sp_ne r
    by_cases h : c = 32
    · rw [TL.spl_hit (by rw [pre_sp, decide_eq_true h])]
      have := spl_sp r []
      rw [e] at this
      show acc :: TL.spl [32] 0 [] r = _
      rw [this]
      unfold sp
      rw [if_pos h, e]
      simp
    · rw [TL.spl_miss (by rw [pre_sp, decide_eq_false h]), spl_sp r (acc ++ [c]), e]
      unfold sp
      rw [if_neg h, e]
      simp
theorem spl_eq (l : List Nat) : TL.spl [32] 0 [] l = sp l := by
  obtain ⟨p, ps, e⟩ := sp_ne l
  rw [spl_sp, e]
  simp
theorem sp_count : ∀ l, (sp l).length = l.count 32 + 1
  | [] => rfl
  | c :: r => by
    obtain ⟨p, ps, e⟩ := sp_ne r
    have ih := sp_count r
    rw [e] at ih
    unfold sp
    by_cases h : c = 32
    · rw [if_pos h, e]
      simp [h] at ih ⊢
      omega
    · rw [if_neg h, e]
      simp [h] at ih ⊢
      omega
theorem sp_app (Y : List Nat) : ∀ X, sp (X ++ 32 :: Y) = sp X ++ sp Y
  | [] => by
    show (if (32 : Nat) = 32 then [] :: sp Y else _) = _
    rw [if_pos rfl]
    rfl
  | c :: r => by
    obtain ⟨p, ps, e⟩ := sp_ne r
    have ih := sp_app Y r
    rw [e] at ih
    show sp (c :: (r ++ 32 :: Y)) = _
    rw [sp, sp]
    by_cases h : c = 32
    · rw [if_pos h, if_pos h, ih, e]
      rfl
    · rw [if_neg h, if_neg h, ih, e]
      rfl
theorem sp_join : ∀ l, TL.joinL [32] (sp l) = l
  | [] => rfl
  | c :: r => by
    obtain ⟨p, ps, e⟩ := sp_ne r
    have ih := sp_join r
    rw [e] at ih
    unfold sp
    by_cases h : c = 32
    · rw [if_pos h, e]
      show [] ++ [32] ++ TL.joinL [32] (p :: ps) = _
      rw [ih, h]
      rfl
    · rw [if_neg h, e]
      show TL.joinL [32] ((c :: p) :: ps) = c :: r
      rw [← ih]
      cases ps <;> rfl
theorem sp_no : ∀ l, ∀ w ∈ sp l, 32 ∉ w
  | [], w, hw => by
    have : w = [] := by simpa [sp] using hw
    simp [this]
  | c :: r, w, hw => by
    obtain ⟨p, ps, e⟩ := sp_ne r
    have ih := sp_no r
    unfold sp at hw
    by_cases h : c = 32
    · rw [if_pos h] at hw
      rcases List.mem_cons.mp hw with rfl | hw
      · simp
      · exact ih w hw
    · rw [if_neg h, e] at hw
      rw [e] at ih
      rcases List.mem_cons.mp hw with rfl | hw
      · have := ih p (by simp)
        intro z
        rcases List.mem_cons.mp z with z | z
        · exact h z.symm
        · exact this z
      · exact ih w (by simp [hw])
theorem sp_len : ∀ l, ∀ w ∈ sp l, w.length ≤ l.length
  | [], w, hw => by
    have : w = [] := by simpa [sp] using hw
    simp [this]
  | c :: r, w, hw => by
    obtain ⟨p, ps, e⟩ := sp_ne r
    have ih := sp_len r
    unfold sp at hw
    by_cases h : c = 32
    · rw [if_pos h] at hw
      rcases List.mem_cons.mp hw with rfl | hw
      · simp
      · have := ih w hw
        simp; omega
    · rw [if_neg h, e] at hw
      rw [e] at ih
      rcases List.mem_cons.mp hw with rfl | hw
      · have := ih p (by simp)
        simp; omega
      · have := ih w (by simp [hw])
        simp; omega
theorem sp_of {ws : List (List Nat)} (hne : ws ≠ []) (h : ∀ w ∈ ws, 32 ∉ w) : sp (TL.joinL [32] ws) = ws := by
  rw [← spl_eq]
  exact TL.spl_join hne h
theorem split_sp {ga : GE} {δ : Sl} {l : List Nat} (h : ga δ = .ok (.own (.p (.str (Tx l))))) (hl : l.length ≤ 90000) : gSplit ga (gC (.str " ")) δ = .ok (.own (.lst ((sp l).map fun w => P.str (Tx w)))) := by
  unfold gSplit
  rw [h, lit_sp]
  show (if ((Tx [32]).length == 0) = false ∧ (Tx l).length + 2 ≤ sizeLine then _ else _) = _
  rw [if_pos ⟨rfl, by rw [Tx_len]; exact big (by omega)⟩]
  have e : Txt.split (Tx l) (Tx [32]) = (TL.spl [32] 0 [] l).map Tx := SX.split_S (by simp) (by decide)
  rw [e, List.map_map, spl_eq]
  rfl
/-! check numbers -/
def ckF : List Nat → Nat → Nat
  | [], _ => 0
  | c :: r, k => (k + 1) * c + ckF r (k + 1)
def idx (k n : Nat) : List P := (List.range' k n).map fun (i : Nat) => P.int (i : Int)
theorem idx_range (n : Nat) : rangeP 0 (n : Int) = idx 0 n := by
  unfold rangeP idx
  rw [Int.sub_zero, Int.toNat_natCast, List.range_eq_range']
  refine List.map_congr_left fun i _ => ?_
  simp
theorem idx_succ (k n : Nat) : idx k (n + 1) = .int (k : Int) :: idx (k + 1) n := by
  unfold idx
  rw [List.range'_succ]
  rfl
theorem ix_txk {l : List Nat} {k c : Nat} (hl : l.length ≤ 100000) (h : l[k]? = some c) : fIx (.p (.str (Tx l))) (.p (.int (k : Int))) = .ok (.own (.p (.str (Tx [c])))) := by
  show (if (Tx l).length ≤ sizeLine then _ else _) = _
  rw [if_pos (by rw [Tx_len]; exact big hl)]
  have hk : k < l.length := (List.getElem?_eq_some_iff.mp h).1
  have : atI l (k : Int) = some c := by
    have hh : (k : Int) < (l.length : Int) := by omega
    have h0 : ¬ (k : Int) < 0 := by omega
    simp [atI, ixN, hh, h0, h]
  show (match atI l (k : Int) with | some c => _ | none => _) = _
  rw [this]
theorem cmul_nat {a b : Nat} (h1 : a < 2 ^ 30) (h2 : b < 2 ^ 30) : CMulW (a : Int) (b : Int) := Z.cmul (j := 30) (k := 30) ⟨by rw [Int.natAbs_natCast]; exact h1⟩ ⟨by rw [Int.natAbs_natCast]; exact h2⟩
def partG : GE := gOp2 fMul (gOp2 fAdd (gVar 2) (gC (.int 1))) (gCall fOrd (DL.gCons (gOp2 fIx (gVar 0) (gVar 2)) DL.gNil))
theorem part_eq {l : List Nat} {k c : Nat} (hl : l.length ≤ 90000) (h : l[k]? = some c) (hc : c < 2000000) {s1 : S} : partG [.bor none (.p (.str (Tx l))), s1, .own (.p (.int (k : Int)))] = .ok (.own (.p (.int (((k + 1) * c : Nat) : Int)))) := by
  have hk : k < l.length := (List.getElem?_eq_some_iff.mp h).1
  have o : gCall fOrd (DL.gCons (gOp2 fIx (gVar 0) (gVar 2)) DL.gNil) [.bor none (.p (.str (Tx l))), s1, .own (.p (.int (k : Int)))] = .ok (.own (.p (.int (c : Int)))) := call_eq (rs := [.own (.p (.str (Tx [c])))]) (cons_eq (op2_eq (x := .own (.p (.str (Tx l)))) rfl rfl (ix_txk (by omega) h)) rfl) rfl
  have a : gOp2 fAdd (gVar 2) (gC (.int 1)) [.bor none (.p (.str (Tx l))), s1, .own (.p (.int (k : Int)))] = .ok (.own (.p (.int (((k + 1 : Nat)) : Int)))) := op2_eq (x := .own (.p (.int (k : Int)))) rfl rfl rfl
  refine op2_eq a o ?_
  show (if CMulW ((k + 1 : Nat) : Int) (c : Int) then _ else _) = _
  rw [if_pos (cmul_nat (by omega) (by omega))]
  rw [Int.natCast_mul]
theorem fmod_ok (a : Nat) : fMod (.p (.int (a : Int))) (.p (.int 65521)) = .ok (.own (.p (.int ((a % 65521 : Nat) : Int)))) := by
  show (if (0 : Int) < 65521 then Rn.ok (R.own (.p (.int ((a : Int) % 65521)))) else (if (65521 : Int) ≠ 0 then Rn.ok (R.own (D.p (P.int (Int.fmod a 65521)))) else Rn.bad)) = _
  rw [if_pos (by decide)]
  rfl
theorem loopC {l : List Nat} (hl : l.length ≤ 90000) (hc : ∀ c ∈ l, c < 2000000) : ∀ (r : List Nat) (k acc : Nat) (s2 : S), l.drop k = r → ∃ s2', gForL (.one 2) (gSet 1 (gOp2 fAdd (gVar 1) partG)) (idx k r.length) [.bor none (.p (.str (Tx l))), .own (.p (.int (acc : Int))), s2] = .ok (.nx [.bor none (.p (.str (Tx l))), .own (.p (.int ((acc + ckF r k : Nat) : Int))), s2'])
  | [], k, acc, s2, _ => ⟨s2, rfl⟩
  | c :: r, k, acc, s2, h => by
    have hk : l[k]? = some c := by
      have : (l.drop k)[0]? = some c := by rw [h]; rfl
      simpa using this
    have hr : l.drop (k + 1) = r := by
      have : (l.drop k).drop 1 = r := by rw [h]; rfl
      simpa using this
    obtain ⟨s2', ih⟩ := loopC hl hc r (k + 1) (acc + (k + 1) * c) (.own (.p (.int (k : Int)))) hr
    refine ⟨s2', ?_⟩
    rw [List.length_cons, idx_succ]
    refine forL_eq rfl (set_eq (d := .p (.int ((acc + (k + 1) * c : Nat) : Int))) (op2_eq (x := .own (.p (.int (acc : Int)))) rfl (part_eq hl hk (hc c (List.mem_of_getElem? hk))) (by
      show Rn.ok _ = _
      rw [Int.natCast_add]))) ?_
    rw [show ckF (c :: r) k = (k + 1) * c + ckF r (k + 1) from rfl, ← Nat.add_assoc]
    exact ih
theorem v_check {l : List Nat} (hl : l.length ≤ 90000) (hc : ∀ c ∈ l, c < 2000000) : m_check_number [.p (.str (Tx l))] = .ok (.p (.int ((ckF l 0 % 65521 : Nat) : Int))) := by
  obtain ⟨s2', lp⟩ := loopC hl hc l 0 0 .no rfl
  rw [Nat.zero_add] at lp
  have rg : gRangeI fRange1 (DL.gCons (gCall fLen (DL.gCons (gVar 0) DL.gNil)) DL.gNil) [.bor none (.p (.str (Tx l))), .own (.p (.int 0)), .no] = .ok (idx 0 l.length) := by
    refine (gRange_ok (rs := [.own (.p (.int (l.length : Int)))]) (cons_eq (call_eq (rs := [.own (.p (.str (Tx l)))]) rfl (len_tx (by omega))) rfl) (range1_ok (by omega) (by omega))).trans ?_
    rw [idx_range]
  refine fn_eq (seq_eq rfl (seq_eq (for_eq rg lp) (ret_eq (op2_eq (x := .own (.p (.int ((ckF l 0 : Nat) : Int)))) rfl rfl ?_))))
  exact fmod_ok _
theorem loopD {l : List Nat} (hl : l.length ≤ 90000) (hc : ∀ c ∈ l, c < 2000000) : ∀ (r : List Nat) (k acc : Nat) (s2 : S), acc < 65521 → l.drop k = r → ∃ s2', gForL (.one 2) (gSet 1 (gOp2 fMod (gCall fIntT (DL.gCons (gOp2 fAdd (gVar 1) partG) DL.gNil)) (gC (.int 65521)))) (idx k r.length) [.bor none (.p (.str (Tx l))), .own (.p (.int (acc : Int))), s2] = .ok (.nx [.bor none (.p (.str (Tx l))), .own (.p (.int (((acc + ckF r k) % 65521 : Nat) : Int))), s2'])
  | [], k, acc, s2, ha, _ => ⟨s2, by
    show Rn.ok _ = Rn.ok _
    rw [show ckF [] k = 0 from rfl, Nat.add_zero, Nat.mod_eq_of_lt ha]⟩
  | c :: r, k, acc, s2, ha, h => by
    have hk : l[k]? = some c := by
      have : (l.drop k)[0]? = some c := by rw [h]; rfl
      simpa using this
    have hr : l.drop (k + 1) = r := by
      have : (l.drop k).drop 1 = r := by rw [h]; rfl
      simpa using this
    obtain ⟨s2', ih⟩ := loopD hl hc r (k + 1) ((acc + (k + 1) * c) % 65521) (.own (.p (.int (k : Int)))) (Nat.mod_lt _ (by decide)) hr
    refine ⟨s2', ?_⟩
    rw [List.length_cons, idx_succ]
    have ad : gOp2 fAdd (gVar 1) partG [.bor none (.p (.str (Tx l))), .own (.p (.int (acc : Int))), .own (.p (.int (k : Int)))] = .ok (.own (.p (.int ((acc + (k + 1) * c : Nat) : Int)))) := op2_eq (x := .own (.p (.int (acc : Int)))) rfl (part_eq hl hk (hc c (List.mem_of_getElem? hk))) (by
      show Rn.ok _ = _
      rw [Int.natCast_add])
    refine forL_eq rfl (set_eq (d := .p (.int (((acc + (k + 1) * c) % 65521 : Nat) : Int))) (op2_eq (call_eq (rs := [.own (.p (.int ((acc + (k + 1) * c : Nat) : Int)))]) (cons_eq ad rfl) rfl) rfl ?_)) ?_
    · exact fmod_ok _
    · rw [show ckF (c :: r) k = (k + 1) * c + ckF r (k + 1) from rfl, ← Nat.add_assoc]
      rw [Nat.mod_add_mod] at ih
      exact ih
theorem v_lcheck {l : List Nat} (hl : l.length ≤ 90000) (hc : ∀ c ∈ l, c < 2000000) : m__law_check [.p (.str (Tx l))] = .ok (.p (.int ((ckF l 0 % 65521 : Nat) : Int))) := by
  obtain ⟨s2', lp⟩ := loopD hl hc l 0 0 .no (by decide) rfl
  rw [Nat.zero_add] at lp
  have rg : gRangeI fRange1 (DL.gCons (gCall fLen (DL.gCons (gVar 0) DL.gNil)) DL.gNil) [.bor none (.p (.str (Tx l))), .own (.p (.int 0)), .no] = .ok (idx 0 l.length) := by
    refine (gRange_ok (rs := [.own (.p (.int (l.length : Int)))]) (cons_eq (call_eq (rs := [.own (.p (.str (Tx l)))]) rfl (len_tx (by omega))) rfl) (range1_ok (by omega) (by omega))).trans ?_
    rw [idx_range]
  exact fn_eq (seq_eq rfl (seq_eq (for_eq rg lp) rfl))

theorem lcL_ok {t : Tg} {gt : GT} {ge : GE} {δ : Sl} (b : P → Bool) (f : P → P) : ∀ (xs acc : List P), (∀ x ∈ xs, ∃ δ1, t.set (.p x) δ = some δ1 ∧ gt δ1 = .ok (b x) ∧ (b x = true → ∃ r, ge δ1 = .ok r ∧ r.d = .p (f x))) → acc.length + xs.length ≤ sizeLine →
    lcL t gt ge δ xs acc = .ok (acc ++ (xs.filter b).map f)
  | [], acc, _, _ => by simp [lcL]
  | x :: xs, acc, h, hz => by
    obtain ⟨δ1, e1, e2, e3⟩ := h x (by simp)
    simp only [List.length_cons] at hz
    unfold lcL
    rw [e1]
    dsimp only
    rw [e2]
    cases hb : b x with
    | false =>
      show lcL t gt ge δ xs acc = _
      rw [lcL_ok b f xs acc (fun y hy => h y (by simp [hy])) (by omega)]
      simp [hb]
    | true =>
      obtain ⟨r, e4, e5⟩ := e3 hb
      simp only [Rn.noErr, Rn.bind, if_true]
      rw [e4]
      simp only [Rn.noErr, Rn.bind]
      rw [e5]
      dsimp only
      rw [if_pos (by omega), lcL_ok b f xs (acc ++ [f x]) (fun y hy => h y (by simp [hy])) (by simp; omega)]
      simp [hb]
def wP (ws : List (List Nat)) : List P := ws.map fun w => P.str (Tx w)
theorem ix_l {xs : List P} {i : Int} {x : P} (h : atI xs i = some x) : fIx (.lst xs) (.p (.int i)) = .ok (.own (.p x)) := by
  show (match atI xs i with | some x => _ | none => _) = _
  rw [h]
theorem at_nat {xs : List P} {k : Nat} {x : P} (h : xs[k]? = some x) : atI xs (k : Int) = some x := by
  have hk : k < xs.length := (List.getElem?_eq_some_iff.mp h).1
  unfold atI ixN
  rw [if_pos (by omega), if_pos (by omega)]
  simpa using h
theorem at_m2 {ps : List P} {a b : P} : atI (ps ++ [a, b]) (-2) = some a := by
  unfold atI ixN
  rw [if_neg (by decide), if_pos (by simp; omega)]
  have e : ((-2 : Int) + ((ps ++ [a, b]).length : Int)).toNat = ps.length := by simp; omega
  rw [e]
  simp
theorem at_m1 {ps : List P} {a b : P} : atI (ps ++ [a, b]) (-1) = some b := by
  unfold atI ixN
  rw [if_neg (by decide), if_pos (by simp; omega)]
  have e : ((-1 : Int) + ((ps ++ [a, b]).length : Int)).toNat = ps.length + 1 := by simp; omega
  rw [e]
  simp
theorem pStrs_w : ∀ ws : List (List Nat), pStrs (wP ws) = some (ws.map Tx)
  | [] => rfl
  | w :: ws => by
    show (pStrs (wP ws)).map (Tx w :: ·) = _
    rw [pStrs_w ws]
    rfl
theorem joinL_len : ∀ ws : List (List Nat), ws ≠ [] → (TL.joinL [32] ws).length + 1 = (ws.map List.length).sum + ws.length
  | [], h => absurd rfl h
  | [p], _ => by simp [TL.joinL]
  | p :: q :: r, _ => by
    have ih := joinL_len (q :: r) (by simp)
    show (p ++ ([32] ++ TL.joinL [32] (q :: r))).length + 1 = _
    simp at ih ⊢
    omega
theorem join_tx {ws : List (List Nat)} (h : (TL.joinL [32] ws).length ≤ 90000) : fJoin (Tx [32]) (.lst (wP ws)) = .ok (.own (.p (.str (Tx (TL.joinL [32] ws))))) := by
  have hz : ((ws.map Tx).map (·.length)).sum + (ws.map Tx).length * (Tx [32]).length ≤ 16777216 := by
    have e : (ws.map Tx).map (·.length) = ws.map List.length := by
      rw [List.map_map]
      exact List.map_congr_left fun w _ => Tx_len w
    rw [e]
    cases ws with
    | nil => decide
    | cons p ps =>
      have := joinL_len (p :: ps) (by simp)
      rw [List.length_map, show (Tx [32]).length = 1 from rfl]
      omega
  show (match pStrs (wP ws) with | some ys => _ | none => _) = _
  rw [pStrs_w]
  show (if _ then _ else _) = _
  rw [if_pos hz, SX.join_S]
theorem cut_m2 {α : Type} (ps : List α) (a b : α) : cutP (ps ++ [a, b]) none (some (-2)) = ps := by
  have e : HT.sIx (ps ++ [a, b]).length (ps ++ [a, b]).length (some (-2)) = ps.length := by
    show (if (-2 : Int) < 0 then ((-2 : Int) + ((ps ++ [a, b]).length : Int)).toNat else min ((-2 : Int)).toNat (ps ++ [a, b]).length) = _
    rw [if_pos (by decide)]
    simp; omega
  unfold cutP
  rw [e]
  show ((ps ++ [a, b]).drop 0).take (ps.length - 0) = ps
  simp
def szP (szs : List Nat) : P := .tup (szs.map fun (n : Nat) => P.int (n : Int))
def many (szs : List Nat) : Nat := 4 + (szs.map (· + 1)).sum
theorem pInts_map : ∀ ns : List Nat, pInts (ns.map fun (n : Nat) => P.int ((n : Int) + 1)) = some (ns.map fun (n : Nat) => (n : Int) + 1)
  | [] => rfl
  | n :: ns => by
    show (pInts (ns.map fun (n : Nat) => P.int ((n : Int) + 1))).map (((n : Int) + 1) :: ·) = _
    rw [pInts_map ns]
    rfl
theorem sum_map : ∀ ns : List Nat, (ns.map fun (n : Nat) => (n : Int) + 1).sum = (((ns.map (· + 1)).sum : Nat) : Int)
  | [] => rfl
  | n :: ns => by
    rw [List.map_cons, List.map_cons, List.sum_cons, List.sum_cons, sum_map ns]
    omega
theorem many_eq {szs : List Nat} (hs : szs.length ≤ 1000) {s0 s2 s3 s4 s5 s6 s7 : S} : gOp2 fAdd (gOp2 fAdd (gC (.int 2)) (gCall fSum (DL.gCons (gLc (.one 8) [8] (gSeqL (gVar 1)) gYes (gOp2 fAdd (gVar 8) (gC (.int 1)))) DL.gNil))) (gC (.int 2)) [s0, .bor none (.p (szP szs)), s2, s3, s4, s5, s6, s7, .no] = .ok (.own (.p (.int (many szs : Int)))) := by
  have lc := lcL_ok (t := .one 8) (gt := gYes) (ge := gOp2 fAdd (gVar 8) (gC (.int 1))) (δ := [s0, .bor none (.p (szP szs)), s2, s3, s4, s5, s6, s7, .no]) (fun _ => true) (fun x => match x with | .int i => .int (i + 1) | x => x) (szs.map fun (n : Nat) => P.int (n : Int)) [] (fun x hx => by
    obtain ⟨n, _, rfl⟩ := List.mem_map.mp hx
    exact ⟨_, rfl, rfl, fun _ => ⟨_, rfl, rfl⟩⟩) (big (by simp; omega))
  rw [List.nil_append, List.filter_eq_self.mpr (fun _ _ => rfl), List.map_map] at lc
  have e : gLc (.one 8) [8] (gSeqL (gVar 1)) gYes (gOp2 fAdd (gVar 8) (gC (.int 1))) [s0, .bor none (.p (szP szs)), s2, s3, s4, s5, s6, s7, .no] = .ok (.own (.lst (szs.map fun (n : Nat) => P.int ((n : Int) + 1)))) := by
    unfold gLc
    show ((lcL (.one 8) gYes (gOp2 fAdd (gVar 8) (gC (.int 1))) [s0, .bor none (.p (szP szs)), s2, s3, s4, s5, s6, s7, .no] (szs.map fun (n : Nat) => P.int (n : Int)) []).bind _) = _
    rw [lc]
    rfl
  have f : gCall fSum (DL.gCons (gLc (.one 8) [8] (gSeqL (gVar 1)) gYes (gOp2 fAdd (gVar 8) (gC (.int 1)))) DL.gNil) [s0, .bor none (.p (szP szs)), s2, s3, s4, s5, s6, s7, .no] = .ok (.own (.p (.int (((szs.map (· + 1)).sum : Nat) : Int)))) := by
    refine call_eq (rs := [.own (.lst (szs.map fun (n : Nat) => P.int ((n : Int) + 1)))]) (cons_eq e rfl) ?_
    show (match pInts (szs.map fun (n : Nat) => P.int ((n : Int) + 1)) with | some ns => _ | none => _) = _
    rw [pInts_map]
    show Rn.ok (R.own (.p (.int (szs.map fun (n : Nat) => (n : Int) + 1).sum))) = _
    rw [sum_map]
  refine op2_eq (op2_eq rfl f rfl) rfl ?_
  show Rn.ok (R.own (.p (.int (2 + (((szs.map (· + 1)).sum : Nat) : Int) + 2)))) = _
  have : 2 + (((szs.map (· + 1)).sum : Nat) : Int) + 2 = (many szs : Int) := by unfold many; omega
  rw [this]
def lstep : List Nat := [115, 116, 101, 112]
def lcheck : List Nat := [99, 104, 101, 99, 107]
theorem lit_step : ("step" : Str) = Tx lstep := by decide +kernel
theorem lit_check : ("check" : Str) = Tx lcheck := by decide +kernel
theorem isN (b : Bool) (i : Int) : fB (fIsN false) (.p (optI b i)) (.p .non) = .ok (.own (.p (.bl (!b)))) := by cases b <;> rfl
def sl2 (l : List Nat) (szs : List Nat) (ws : List P) (s4 s5 : S) : Sl := [.bor none (.p (.str (Tx l))), .bor none (.p (szP szs)), .own (.lst ws), .own (.p (.int (many szs : Int))), s4, s5, .no, .no, .no]
theorem e_st1 {l : List Nat} (szs : List Nat) (hl : l.length ≤ 90000) : gSet 2 (gSplit (gVar 0) (gC (.str " "))) (startS 9 [.p (.str (Tx l)), .p (szP szs)]) = .ok (.nx [.bor none (.p (.str (Tx l))), .bor none (.p (szP szs)), .own (.lst (wP (sp l))), .no, .no, .no, .no, .no, .no]) := set_eq (split_sp (ga := gVar 0) rfl hl)
theorem e_st2 {l : List Nat} {szs : List Nat} {ws : List P} (hs : szs.length ≤ 1000) : gSet 3 (gOp2 fAdd (gOp2 fAdd (gC (.int 2)) (gCall fSum (DL.gCons (gLc (.one 8) [8] (gSeqL (gVar 1)) gYes (gOp2 fAdd (gVar 8) (gC (.int 1)))) DL.gNil))) (gC (.int 2))) [.bor none (.p (.str (Tx l))), .bor none (.p (szP szs)), .own (.lst ws), .no, .no, .no, .no, .no, .no] = .ok (.nx (sl2 l szs ws .no .no)) := set_eq (many_eq hs)
theorem t_len {l : List Nat} {szs : List Nat} {ws : List P} : gTB (gOp2 (fB (fEqB true)) (gCall fLen (DL.gCons (gVar 2) DL.gNil)) (gVar 3)) (sl2 l szs ws .no .no) = .ok (decide (ws.length ≠ many szs)) := by
  refine (tb_eq (op2_eq (call_eq (rs := [.vw (.lst ws)]) rfl rfl) rfl (ne_ints (ws.length : Int) (many szs : Int)))).trans ?_
  congr 1
  by_cases h : ws.length = many szs
  · rw [decide_eq_false (by omega), decide_eq_false (by omega)]
  · rw [decide_eq_true (by omega), decide_eq_true (by omega)]
theorem t_word {l : List Nat} {szs : List Nat} {ws : List P} {w m : List Nat} {i : GE} {j : Int} (hi : i (sl2 l szs ws .no .no) = .ok (.own (.p (.int j)))) (h : atI ws j = some (.str (Tx w))) {s : Str} (hs : s = Tx m) : gTB (gOp2 (fB (fEqB true)) (gOp2 fIx (gVar 2) i) (gC (.str s))) (sl2 l szs ws .no .no) = .ok (decide (w ≠ m)) := by
  subst hs
  refine (tb_eq (op2_eq (op2_eq (x := .vw (.lst ws)) rfl hi (ix_l h)) rfl (eq_tx true w m))).trans ?_
  simp
theorem v_bad1 {l : List Nat} {szs : List Nat} (hl : l.length ≤ 90000) (hs : szs.length ≤ 1000) (h : (sp l).length ≠ many szs) : m_read_line [.p (.str (Tx l)), .p (szP szs)] = .err "JournalError" () := by
  refine fn_eqE (seq_eq (e_st1 szs hl) (seq_eq (e_st2 hs) (seq_eqE (if_eqT (or_eqT (t_len.trans (by rw [decide_eq_true (by unfold wP; rw [List.length_map]; exact h)]))) rfl))))
theorem v_mid {l : List Nat} {szs : List Nat} (hl : l.length ≤ 90000) (hc : ∀ c ∈ l, c < 2000000) (hs : szs.length ≤ 1000) {p0 p1 : List Nat} {ps : List (List Nat)} {c v : List Nat} (e : sp l = (p0 :: p1 :: ps) ++ [c, v]) (hm : (sp l).length = many szs) :
    gIfS (gOr (gTB (gOp2 (fB (fEqB true)) (gCall fLen (DL.gCons (gVar 2) DL.gNil)) (gVar 3))) (gOr (gTB (gOp2 (fB (fEqB true)) (gOp2 fIx (gVar 2) (gC (.int 0))) (gC (.str "step")))) (gTB (gOp2 (fB (fEqB true)) (gOp2 fIx (gVar 2) (gOp1 fNeg (gC (.int 2)))) (gC (.str "check")))))) (gRaise "JournalError") gNext (sl2 l szs (wP (sp l)) .no .no) =
      (if p0 ≠ lstep ∨ c ≠ lcheck then .err "JournalError" (sl2 l szs (wP (sp l)) .no .no) else .ok (.nx (sl2 l szs (wP (sp l)) .no .no))) ∧
    gSet 4 (gFn 2 m_read_natural (DL.gCons (gOp2 fIx (gVar 2) (gC (.int 1))) (DL.gCons (gC (.int 70)) DL.gNil))) (sl2 l szs (wP (sp l)) .no .no) = .ok (.nx (sl2 l szs (wP (sp l)) (.own (.p (optI (okD p1 && decide (p1.length ≤ 70)) ((digitsVal p1 : Nat) : Int)))) .no)) ∧
    (∀ s4, gSet 5 (gFn 2 m_read_natural (DL.gCons (gOp2 fIx (gVar 2) (gOp1 fNeg (gC (.int 1)))) (DL.gCons (gC (.int 70)) DL.gNil))) (sl2 l szs (wP (sp l)) s4 .no) = .ok (.nx (sl2 l szs (wP (sp l)) s4 (.own (.p (optI (okD v && decide (v.length ≤ 70)) ((digitsVal v : Nat) : Int))))))) ∧
    (∀ s4 s5, gFn 1 m_check_number (DL.gCons (gJoin (gC (.str " ")) (gSl (gVar 2) gNoPart (gPart (gOp1 fNeg (gC (.int 2)))))) DL.gNil) (sl2 l szs (wP (sp l)) s4 s5) = .ok (.own (.p (.int ((ckF (TL.joinL [32] (p0 :: p1 :: ps)) 0 % 65521 : Nat) : Int))))) := by
  have hw : ∀ w ∈ (p0 :: p1 :: ps) ++ [c, v], w.length ≤ 90000 := fun w hw => by
    rw [← e] at hw
    have := sp_len l w hw
    omega
  have jl : (TL.joinL [32] (p0 :: p1 :: ps)).length ≤ 90000 ∧ ∀ c ∈ TL.joinL [32] (p0 :: p1 :: ps), c < 2000000 := by
    have j := sp_join l
    rw [e] at j
    have app : ∀ (xs : List (List Nat)) (x : List Nat), TL.joinL [32] (x :: xs ++ [c, v]) = TL.joinL [32] (x :: xs) ++ ([32] ++ TL.joinL [32] [c, v]) := by
      intro xs
      induction xs with
      | nil => intro x; rfl
      | cons y ys ih =>
        intro x
        show x ++ ([32] ++ TL.joinL [32] (y :: ys ++ [c, v])) = x ++ ([32] ++ TL.joinL [32] (y :: ys)) ++ ([32] ++ TL.joinL [32] [c, v])
        rw [ih y]
        simp
    rw [app] at j
    refine ⟨?_, fun k hk => hc k ?_⟩
    · have := congrArg List.length j
      simp at this
      omega
    · rw [← j]
      exact List.mem_append_left _ hk
  have ew : wP (sp l) = (.str (Tx p0) :: .str (Tx p1) :: wP ps) ++ [.str (Tx c), .str (Tx v)] := by rw [e]; simp [wP]
  have a0 : atI (wP (sp l)) ((0 : Nat) : Int) = some (.str (Tx p0)) := at_nat (by rw [ew]; rfl)
  have a1 : atI (wP (sp l)) ((1 : Nat) : Int) = some (.str (Tx p1)) := at_nat (by rw [ew]; rfl)
  have a2 : atI (wP (sp l)) (-2) = some (.str (Tx c)) := by rw [ew]; exact at_m2
  have a3 : atI (wP (sp l)) (-1) = some (.str (Tx v)) := by rw [ew]; exact at_m1
  have tl := t_len (l := l) (szs := szs) (ws := wP (sp l))
  rw [decide_eq_false (by unfold wP; rw [List.length_map]; omega)] at tl
  have t0 := t_word (l := l) (szs := szs) (ws := wP (sp l)) (i := gC (.int 0)) (j := ((0 : Nat) : Int)) rfl a0 lit_step
  have t2 := t_word (l := l) (szs := szs) (ws := wP (sp l)) (i := gOp1 fNeg (gC (.int 2))) (j := -2) rfl a2 lit_check
  refine ⟨?_, ?_, fun s4 => ?_, fun s4 s5 => ?_⟩
  · by_cases h0 : p0 = lstep
    · by_cases h1 : c = lcheck
      · rw [if_neg (by simp [h0, h1])]
        exact if_eqF (or_eqF tl (or_eqF (t0.trans (by rw [decide_eq_false (by simp [h0])])) (t2.trans (by rw [decide_eq_false (by simp [h1])])))) rfl
      · rw [if_pos (.inr h1)]
        exact if_eqT (or_eqF tl (or_eqF (t0.trans (by rw [decide_eq_false (by simp [h0])])) (t2.trans (by rw [decide_eq_true h1])))) rfl
    · rw [if_pos (.inl h0)]
      exact if_eqT (or_eqF tl (or_eqT (t0.trans (by rw [decide_eq_true h0])))) rfl
  · exact set_eq (fn_val (rs := [.own (.p (.str (Tx p1))), .own (.p (.int 70))]) (cons_eq (op2_eq (x := .vw (.lst (wP (sp l)))) rfl rfl (ix_l a1)) rfl) rfl (v_rnat (hw p1 (by simp))))
  · exact set_eq (fn_val (rs := [.own (.p (.str (Tx v))), .own (.p (.int 70))]) (cons_eq (op2_eq (x := .vw (.lst (wP (sp l)))) (y := .own (.p (.int (-1)))) rfl rfl (ix_l a3)) rfl) rfl (v_rnat (hw v (by simp))))
  · refine fn_val (rs := [.own (.p (.str (Tx (TL.joinL [32] (p0 :: p1 :: ps)))))]) (cons_eq ?_ rfl) rfl (v_check jl.1 jl.2)
    have sl : gSl (gVar 2) gNoPart (gPart (gOp1 fNeg (gC (.int 2)))) (sl2 l szs (wP (sp l)) s4 s5) = .ok (.own (.lst (wP (p0 :: p1 :: ps)))) := by
      show Rn.ok (R.own (.lst (cutP (wP (sp l)) none (some (-2))))) = _
      rw [ew, cut_m2]
      rfl
    unfold gJoin
    rw [sl]
    show fJoin " " (.lst (wP (p0 :: p1 :: ps))) = _
    rw [lit_sp]
    exact join_tx jl.1

theorem strL_len {p : Int} (h : Z 160 p) : (strL p).length ≤ 50 := by
  have h1 := h.h
  have h2 : p.natAbs < 10 ^ 49 := by omega
  have := TL.numL_len (n := p.natAbs) (k := 49) (by decide) h2
  unfold strL
  split
  · simp; omega
  · omega
theorem numL_len' {q : Int} (h : Z 160 q) : (TL.numL q.natAbs).length ≤ 49 := by
  have h1 := h.h
  have h2 : q.natAbs < 10 ^ 49 := by omega
  exact TL.numL_len (n := q.natAbs) (k := 49) (by decide) h2
theorem strc_tx {p : Int} (h : Z 160 p) : fStrc [.p (.int p)] = .ok (.own (.p (.str (Tx (strL p))))) := by
  have hl := h.log
  show (if p.natAbs.log2 < 1920 then _ else _) = _
  rw [if_pos (by omega), str_tx]
theorem add_tx {a b : GE} {δ : Sl} {l m : List Nat} (h1 : a δ = .ok (.own (.p (.str (Tx l))))) (h2 : b δ = .ok (.own (.p (.str (Tx m))))) (hl : l.length ≤ 40000) (hm : m.length ≤ 40000) : gOp2 fAdd a b δ = .ok (.own (.p (.str (Tx (l ++ m))))) := by
  refine op2_eq h1 h2 ?_
  show (if (Tx l).length + (Tx m).length ≤ sizeLine then _ else _) = _
  rw [Tx_len, Tx_len, if_pos (big (by omega)), show Tx l ++ Tx m = Tx (l ++ m) from SX.S_cat l m]
def testG : GT := gOr (gTB (gOp2 (fB (fIsN false)) (gVar 4) (gC .non))) (gOr (gTB (gOp2 (fB (fIsN false)) (gVar 5) (gC .non))) (gTB (gOp2 (fB (fEqB true)) (gVar 5) (gFn 1 m_check_number (DL.gCons (gJoin (gC (.str " ")) (gSl (gVar 2) gNoPart (gPart (gOp1 fNeg (gC (.int 2)))))) DL.gNil)))))
theorem v_test {l : List Nat} {szs : List Nat} {ws : List P} {b1 b2 : Bool} {i1 : Int} {n2 K : Nat} (hk : gFn 1 m_check_number (DL.gCons (gJoin (gC (.str " ")) (gSl (gVar 2) gNoPart (gPart (gOp1 fNeg (gC (.int 2)))))) DL.gNil) (sl2 l szs ws (.own (.p (optI b1 i1))) (.own (.p (optI b2 (n2 : Int))))) = .ok (.own (.p (.int (K : Int))))) :
    testG (sl2 l szs ws (.own (.p (optI b1 i1))) (.own (.p (optI b2 (n2 : Int))))) = .ok (!(b1 && (b2 && decide (n2 = K)))) := by
  have t1 : gTB (gOp2 (fB (fIsN false)) (gVar 4) (gC .non)) (sl2 l szs ws (.own (.p (optI b1 i1))) (.own (.p (optI b2 (n2 : Int))))) = .ok (!b1) := tb_eq (op2_eq (x := .own (.p (optI b1 i1))) rfl rfl (isN b1 i1))
  have t2 : gTB (gOp2 (fB (fIsN false)) (gVar 5) (gC .non)) (sl2 l szs ws (.own (.p (optI b1 i1))) (.own (.p (optI b2 (n2 : Int))))) = .ok (!b2) := tb_eq (op2_eq (x := .own (.p (optI b2 (n2 : Int)))) rfl rfl (isN b2 _))
  cases b1 with
  | false => exact or_eqT t1
  | true =>
    cases b2 with
    | false => exact or_eqF t1 (or_eqT t2)
    | true =>
      refine or_eqF t1 (or_eqF t2 ((tb_eq (op2_eq (x := .own (.p (.int (n2 : Int)))) rfl hk (ne_ints (n2 : Int) (K : Int)))).trans ?_))
      by_cases h : n2 = K
      · rw [decide_eq_false (by omega), decide_eq_true h]; rfl
      · rw [decide_eq_true (by omega), decide_eq_false h]; rfl
theorem v_bad2 {l : List Nat} {szs : List Nat} (hl : l.length ≤ 90000) (hc : ∀ c ∈ l, c < 2000000) (hs : szs.length ≤ 1000) {p0 p1 : List Nat} {ps : List (List Nat)} {c v : List Nat} (e : sp l = (p0 :: p1 :: ps) ++ [c, v]) (hm : (sp l).length = many szs)
    (h : c ≠ lcheck ∨ okD v = false ∨ digitsVal v ≠ ckF (TL.joinL [32] (p0 :: p1 :: ps)) 0 % 65521) : m_read_line [.p (.str (Tx l)), .p (szP szs)] = .err "JournalError" () := by
  obtain ⟨m1, m2, m3, m4⟩ := v_mid hl hc hs e hm
  by_cases h1 : p0 ≠ lstep ∨ c ≠ lcheck
  · rw [if_pos h1] at m1
    exact fn_eqE (seq_eq (e_st1 szs hl) (seq_eq (e_st2 hs) (seq_eqE m1)))
  · rw [if_neg h1] at m1
    have vt := v_test (m4 (.own (.p (optI (okD p1 && decide (p1.length ≤ 70)) ((digitsVal p1 : Nat) : Int)))) (.own (.p (optI (okD v && decide (v.length ≤ 70)) ((digitsVal v : Nat) : Int)))))
    have f : (okD v && decide (v.length ≤ 70) && decide (digitsVal v = ckF (TL.joinL [32] (p0 :: p1 :: ps)) 0 % 65521)) = false := by
      rcases h with h | h | h
      · exact absurd (.inr h) h1
      · rw [h]; rfl
      · rw [decide_eq_false h, Bool.and_false]
    rw [f, Bool.and_false] at vt
    exact fn_eqE (seq_eq (e_st1 szs hl) (seq_eq (e_st2 hs) (seq_eq m1 (seq_eq m2 (seq_eq (m3 _) (seq_eqE (if_eqT vt rfl)))))))
theorem told_err {l : List Nat} {szs : List Nat} (v : m_read_line [.p (.str (Tx l)), .p (szP szs)] = .err "JournalError" ()) : m__law_told [.p (.str (Tx l)), .p (szP szs)] = .ok (.p .non) := by
  have t1 : tabS tc_TensorError "JournalError" = some true := by decide +kernel
  have t2 : tabS ti_JournalError "JournalError" = some true := by decide +kernel
  unfold m__law_told fnD g__law_told
  unfold szP at v ⊢
  generalize Tx l = T at *
  simp [startS, DL.gCons, DL.gNil, gC, gVar, gOp1, gOp2, gSet, gFn, gCall, DL.gTup, DL.gLst, gTB, gTru, gIf, gIfS, gOr, gAnd, gNot, gOrV, gAndV, gNotV, gRet, gRetV, gNext, gIsi, gIsE, gExpr, gChain, gRaise, gSeq, gFor, gForL, gSeqI, R.items, gSeqL, R.itemsL, gRevL, gRevI, fLtA, gForV, gSl, gPart, gNoPart, gRangeI, fRange1, fRange2, range_2, range_3, range_4, range_5, gLc, lcL, gYes, wipeS, Rn.noErr, Rn.noErrS, plains, owns, fB, fIntB, fIx, iSub, fInt, fIntC, fMul, fNeg, fIsN, fEqB, fTru, fLen, fTuple, fList, fTru, P.scal, P.seq, D.bool?, R.d, lift, Rn.bind, Rn.mapErr, Rn.bind_ite, Rn.mapErr_ite, tryW_ite, atI, ixN, Tg.set, Fl.map, outEx, S.noExn, m__law_begin, m__law_take, take_ok, D.ty?, tyB, gTry, v, tryW_err, t1, t2]
/-! the good line -/
def rowP (r : List Int) : P := .tup (r.map P.int)
def bodyN : GS := gSeq (gSet 4 (gFn 2 m_read_integer (DL.gCons (gVar 3) (DL.gCons (gC (.int 70)) DL.gNil))))
  (gSeq (gIfS (gTB (gOp2 (fB (fIsN false)) (gVar 4) (gC .non))) (gRaise "JournalError") gNext)
  (gApp 2 (gVar 4)))
theorem app_ok {i : Nat} {ga : GE} {δ : Sl} {xs : List P} {x : P} (h : δ[i]? = some (.own (.lst xs))) (hx : ga δ = .ok (.own (.p x))) (hl : xs.length < 100000) : gApp i ga δ = .ok (.nx (δ.set i (.own (.lst (xs ++ [x]))))) := by
  unfold gApp
  rw [h]
  show (if (D.lst xs).isL = true then _ else _) = _
  rw [if_pos (show (D.lst xs).isL = true from rfl)]
  unfold lift
  rw [hx]
  show (match fApp (.lst xs) (.own (.p x)) with | some d' => _ | none => _) = _
  have : fApp (.lst xs) (.own (.p x)) = some (.lst (xs ++ [x])) := if_pos (Nat.lt_of_lt_of_le hl (by decide))
  rw [this]
theorem rint_str {n : Int} (h : Z 160 n) : m_read_integer [.p (.str (Tx (strL n))), .p (.int 70)] = .ok (.p (.int n)) := by
  have l1 := strL_len h
  have l2 := numL_len' h
  have v := v_rint (w := strL n) (by omega)
  rw [okI_str, dg_str, decide_eq_true (by omega), intL_str] at v
  exact v
theorem loopN {W M : S} : ∀ (ns : List Int) (acc : List P) (s3 s4 : S), (∀ n ∈ ns, Z 160 n) → acc.length + ns.length ≤ 90000 → ∃ s3' s4', gForL (.one 3) bodyN (wP (ns.map strL)) [W, M, .own (.lst acc), s3, s4] = .ok (.nx [W, M, .own (.lst (acc ++ ns.map P.int)), s3', s4'])
  | [], acc, s3, s4, _, _ => ⟨s3, s4, by simp [wP, gForL]⟩
  | n :: ns, acc, s3, s4, hz, hl => by
    simp only [List.length_cons] at hl
    obtain ⟨s3', s4', ih⟩ := loopN (W := W) (M := M) ns (acc ++ [.int n]) (.own (.p (.str (Tx (strL n))))) (.own (.p (.int n))) (fun m hm => hz m (by simp [hm])) (by simp; omega)
    refine ⟨s3', s4', ?_⟩
    have r := rint_str (hz n (by simp))
    refine forL_eq (δ' := [W, M, .own (.lst (acc ++ [.int n])), .own (.p (.str (Tx (strL n)))), .own (.p (.int n))]) rfl (seq_eq (set_eq (fn_val (rs := [.own (.p (.str (Tx (strL n)))), .own (.p (.int 70))]) rfl rfl r)) (seq_eq (if_eqF rfl rfl) (app_ok rfl rfl (by omega)))) ?_
    rw [List.append_assoc] at ih
    exact ih
theorem cut_to {α : Type} (xs ys : List α) : cutP (xs ++ ys) none (some ((xs.length : Nat) : Int)) = xs := by
  have e : HT.sIx (xs ++ ys).length (xs ++ ys).length (some ((xs.length : Nat) : Int)) = xs.length := by
    rw [HT.sIx_nat]
    simp
  unfold cutP
  rw [e]
  show ((xs ++ ys).drop 0).take (xs.length - 0) = xs
  simp
theorem v_numbers {r : List Int} {rest : List (List Nat)} (hz : ∀ n ∈ r, Z 160 n) (hl : r.length ≤ 1000) : m_numbers_in [.lst (wP (r.map strL ++ rest)), .p (.int (r.length : Int))] = .ok (.p (rowP r)) := by
  obtain ⟨s3', s4', lp⟩ := loopN (W := .bor none (.lst (wP (r.map strL ++ rest)))) (M := .bor none (.p (.int (r.length : Int)))) r [] .no .no hz (by simp; omega)
  rw [List.nil_append] at lp
  have it : gSeqI (gSl (gVar 0) gNoPart (gPart (gVar 1))) [.bor none (.lst (wP (r.map strL ++ rest))), .bor none (.p (.int (r.length : Int))), .own (.lst []), .no, .no] = .ok (wP (r.map strL)) := by
    have : gSl (gVar 0) gNoPart (gPart (gVar 1)) [.bor none (.lst (wP (r.map strL ++ rest))), .bor none (.p (.int (r.length : Int))), .own (.lst []), .no, .no] = .ok (.own (.lst (wP (r.map strL)))) := by
      show Rn.ok (R.own (.lst (cutP (wP (r.map strL ++ rest)) none (some (r.length : Int))))) = _
      have e : wP (r.map strL ++ rest) = wP (r.map strL) ++ wP rest := by simp [wP]
      have el : ((r.length : Nat) : Int) = (((wP (r.map strL)).length : Nat) : Int) := by simp [wP]
      rw [e, el, cut_to]
    unfold gSeqI
    rw [this]
    rfl
  refine fn_eq (seq_eq rfl (seq_eq (for_eq it lp) (seq_eq (if_eqF ?_ rfl) rfl)))
  refine (tb_eq (op2_eq (call_eq (rs := [.vw (.lst (r.map P.int))]) rfl rfl) rfl (ne_ints ((r.map P.int).length : Int) (r.length : Int)))).trans ?_
  rw [List.length_map, decide_eq_false (by simp)]
def rwW (rows : List (List Int)) : List (List Nat) := rows.flatMap fun r => [59] :: r.map strL
def bodyW : GS := gSeq (gIfS (gTB (gOp2 (fB (fEqB true)) (gOp2 fIx (gVar 2) (gVar 7)) (gC (.str ";")))) (gRaise "JournalError") gNext)
  (gSeq (gApp 6 (gFn 2 m_numbers_in (DL.gCons (gSl (gVar 2) (gPart (gOp2 fAdd (gVar 7) (gC (.int 1)))) (gPart (gOp1 fNeg (gC (.int 2))))) (DL.gCons (gVar 8) DL.gNil))))
  (gSet 7 (gOp2 fAdd (gOp2 fAdd (gVar 7) (gC (.int 1))) (gVar 8))))
theorem lit_semi : (";" : Str) = Tx [59] := by decide +kernel
theorem cut_mid {α : Type} (pre mid : List α) (x a b : α) : cutP (pre ++ x :: (mid ++ [a, b])) (some (((pre.length + 1 : Nat)) : Int)) (some (-2)) = mid := by
  have n : (pre ++ x :: (mid ++ [a, b])).length = pre.length + 1 + mid.length + 2 := by simp; omega
  have e1 : HT.sIx (pre ++ x :: (mid ++ [a, b])).length (pre ++ x :: (mid ++ [a, b])).length (some (-2)) = pre.length + 1 + mid.length := by
    show (if (-2 : Int) < 0 then ((-2 : Int) + ((pre ++ x :: (mid ++ [a, b])).length : Int)).toNat else min ((-2 : Int)).toNat (pre ++ x :: (mid ++ [a, b])).length) = _
    rw [if_pos (by decide), n]
    omega
  have e2 : HT.sIx (pre ++ x :: (mid ++ [a, b])).length 0 (some (((pre.length + 1 : Nat)) : Int)) = pre.length + 1 := by
    rw [HT.sIx_nat, n]
    omega
  unfold cutP
  rw [e1, e2]
  have d : (pre ++ x :: (mid ++ [a, b])).drop (pre.length + 1) = mid ++ [a, b] := by
    rw [List.drop_append]
    simp
  rw [d]
  have : pre.length + 1 + mid.length - (pre.length + 1) = mid.length := by omega
  rw [this]
  simp
theorem loopW {L Z0 m s4 s5 : S} {c v : List Nat} {all : List (List Nat)} : ∀ (rs : List (List Int)) (pre : List (List Nat)) (acc : List P) (s8 : S), all = pre ++ (rwW rs ++ [c, v]) → (∀ r ∈ rs, r.length ≤ 1000 ∧ ∀ n ∈ r, Z 160 n) → acc.length + rs.length ≤ 1000 →
    ∃ s7' s8', gForL (.one 8) bodyW (rs.map fun (r : List Int) => P.int (r.length : Int)) [L, Z0, .own (.lst (wP all)), m, s4, s5, .own (.lst acc), .own (.p (.int (pre.length : Int))), s8] = .ok (.nx [L, Z0, .own (.lst (wP all)), m, s4, s5, .own (.lst (acc ++ rs.map rowP)), s7', s8'])
  | [], pre, acc, s8, _, _, _ => ⟨_, s8, by simp [gForL]; rfl⟩
  | r :: rs, pre, acc, s8, e, hr, hl => by
    simp only [List.length_cons] at hl
    have e' : all = (pre ++ [59] :: r.map strL) ++ (rwW rs ++ [c, v]) := by rw [e]; simp [rwW]
    have pl : (pre ++ [59] :: r.map strL).length = pre.length + 1 + r.length := by simp; omega
    obtain ⟨s7', s8', ih⟩ := loopW (L := L) (Z0 := Z0) (m := m) (s4 := s4) (s5 := s5) rs (pre ++ [59] :: r.map strL) (acc ++ [rowP r]) (.own (.p (.int (r.length : Int)))) e' (fun x hx => hr x (by simp [hx])) (by simp; omega)
    refine ⟨s7', s8', ?_⟩
    obtain ⟨h1, h2⟩ := hr r (by simp)
    have vn := v_numbers (rest := rwW rs) h2 h1
    have ew : wP all = wP pre ++ .str (Tx [59]) :: (wP (r.map strL ++ rwW rs) ++ [.str (Tx c), .str (Tx v)]) := by rw [e]; simp [wP, rwW]
    have a0 : atI (wP all) (pre.length : Int) = some (.str (Tx [59])) := at_nat (by
      rw [ew]
      have : (wP pre).length = pre.length := by simp [wP]
      rw [← this]
      simp)
    have st1 : gIfS (gTB (gOp2 (fB (fEqB true)) (gOp2 fIx (gVar 2) (gVar 7)) (gC (.str ";")))) (gRaise "JournalError") gNext [L, Z0, .own (.lst (wP all)), m, s4, s5, .own (.lst acc), .own (.p (.int (pre.length : Int))), .own (.p (.int (r.length : Int)))] = .ok (.nx [L, Z0, .own (.lst (wP all)), m, s4, s5, .own (.lst acc), .own (.p (.int (pre.length : Int))), .own (.p (.int (r.length : Int)))]) := by
      rw [lit_semi]
      exact if_eqF (tb_eq (op2_eq (op2_eq (x := .vw (.lst (wP all))) rfl rfl (ix_l a0)) rfl ((eq_tx true [59] [59]).trans (by simp)))) rfl
    have sl : gSl (gVar 2) (gPart (gOp2 fAdd (gVar 7) (gC (.int 1)))) (gPart (gOp1 fNeg (gC (.int 2)))) [L, Z0, .own (.lst (wP all)), m, s4, s5, .own (.lst acc), .own (.p (.int (pre.length : Int))), .own (.p (.int (r.length : Int)))] = .ok (.own (.lst (wP (r.map strL ++ rwW rs)))) := by
      show Rn.ok (R.own (.lst (cutP (wP all) (some ((pre.length : Int) + 1)) (some (-2))))) = _
      have : ((pre.length : Int) + 1) = ((((wP pre).length + 1 : Nat)) : Int) := by simp [wP]
      rw [ew, this, cut_mid]
    refine forL_eq (δ' := [L, Z0, .own (.lst (wP all)), m, s4, s5, .own (.lst (acc ++ [rowP r])), .own (.p (.int (((pre.length + 1 + r.length : Nat)) : Int))), .own (.p (.int (r.length : Int)))]) rfl (seq_eq st1 (seq_eq (app_ok (xs := acc) (x := rowP r) rfl (fn_val (rs := [.own (.lst (wP (r.map strL ++ rwW rs))), .own (.p (.int (r.length : Int)))]) (cons_eq sl rfl) rfl vn) (by omega)) (set_eq (op2_eq (op2_eq (x := .own (.p (.int (pre.length : Int)))) rfl rfl rfl) rfl rfl)))) ?_
    rw [pl, List.append_assoc] at ih
    exact ih

def W0s (s : Nat) (rows : List (List Int)) : List (List Nat) := lstep :: TL.numL s :: rwW rows
def textOf (s : Nat) (rows : List (List Int)) : List Nat := TL.joinL [32] (W0s s rows)
structure Rws (rows : List (List Int)) : Prop where
  n : rows.length ≤ 8
  r : ∀ r ∈ rows, 1 ≤ r.length ∧ r.length ≤ 60 ∧ ∀ n ∈ r, Z 160 n
def szO (rows : List (List Int)) : List Nat := rows.map List.length
theorem rwW_len : ∀ rows : List (List Int), (rwW rows).length = ((szO rows).map (· + 1)).sum
  | [] => rfl
  | r :: rows => by
    have ih := rwW_len rows
    show (([59] :: r.map strL) ++ rwW rows).length = _
    rw [List.length_append, ih]
    simp [szO]
theorem many_W (s : Nat) (rows : List (List Int)) (c v : List Nat) : (W0s s rows ++ [c, v]).length = many (szO rows) := by
  unfold many
  rw [← rwW_len]
  simp [W0s]
  omega
theorem v_good {l : List Nat} {s N : Nat} {rows : List (List Int)} (hl : l.length ≤ 90000) (hc : ∀ c ∈ l, c < 2000000) (R : Rws rows) (zs : Z 160 (s : Int)) (e : sp l = W0s s rows ++ [lcheck, TL.numL N]) (hN : N = ckF (textOf s rows) 0 % 65521) :
    m_read_line [.p (.str (Tx l)), .p (szP (szO rows))] = .ok (.p (.tup [.int (s : Int), .tup (rows.map rowP)])) := by
  have hm : (sp l).length = many (szO rows) := by rw [e]; exact many_W s rows _ _
  have hs : (szO rows).length ≤ 1000 := by
    have := R.n
    simp [szO]; omega
  obtain ⟨m1, m2, m3, m4⟩ := v_mid hl hc hs (p0 := lstep) (p1 := TL.numL s) (ps := rwW rows) (c := lcheck) (v := TL.numL N) e hm
  rw [if_neg (by simp)] at m1
  have ls : (TL.numL s).length ≤ 70 := by
    have := numL_len' zs
    rw [Int.natAbs_natCast] at this
    omega
  have zN : Z 160 (N : Int) := Z.of (by omega) (by omega)
  have lN : (TL.numL N).length ≤ 70 := by
    have := numL_len' zN
    rw [Int.natAbs_natCast] at this
    omega
  have vs : digitsVal (TL.numL s) = s := TL.numL_val s
  have vN : digitsVal (TL.numL N) = N := TL.numL_val N
  rw [okD_num, decide_eq_true ls, vs] at m2
  have m3' := m3 (.own (.p (optI (true && true) (s : Int))))
  rw [okD_num, decide_eq_true lN, vN] at m3'
  have vt := v_test (m4 (.own (.p (optI (true && true) (s : Int)))) (.own (.p (optI (true && true) (N : Int)))))
  rw [decide_eq_true (show N = ckF (TL.joinL [32] (lstep :: TL.numL s :: rwW rows)) 0 % 65521 from hN)] at vt
  obtain ⟨s7', s8', lp⟩ := loopW (L := .bor none (.p (.str (Tx l)))) (Z0 := .bor none (.p (szP (szO rows)))) (m := .own (.p (.int (many (szO rows) : Int)))) (s4 := .own (.p (.int (s : Int)))) (s5 := .own (.p (.int (N : Int)))) (c := lcheck) (v := TL.numL N) (all := sp l) rows [lstep, TL.numL s] [] .no (by rw [e]; rfl) (fun r hr => ⟨by have := (R.r r hr).2.1; omega, (R.r r hr).2.2⟩) (by have := R.n; simp; omega)
  rw [List.nil_append] at lp
  have fv : gForV (.one 8) 1 bodyW [.bor none (.p (.str (Tx l))), .bor none (.p (szP (szO rows))), .own (.lst (wP (sp l))), .own (.p (.int (many (szO rows) : Int))), .own (.p (.int (s : Int))), .own (.p (.int (N : Int))), .own (.lst []), .own (.p (.int 2)), .no] = gForL (.one 8) bodyW (rows.map fun (r : List Int) => P.int (r.length : Int)) [.bor none (.p (.str (Tx l))), .bor none (.p (szP (szO rows))), .own (.lst (wP (sp l))), .own (.p (.int (many (szO rows) : Int))), .own (.p (.int (s : Int))), .own (.p (.int (N : Int))), .own (.lst []), .own (.p (.int 2)), .no] := by
    have : szP (szO rows) = .tup (rows.map fun (r : List Int) => P.int (r.length : Int)) := by
      unfold szP szO
      rw [List.map_map]
      rfl
    rw [this]
    rfl
  exact fn_eq (seq_eq (e_st1 _ hl) (seq_eq (e_st2 hs) (seq_eq m1 (seq_eq m2 (seq_eq m3' (seq_eq (if_eqF vt rfl) (seq_eq rfl (seq_eq rfl (seq_eq (fv.trans lp) rfl)))))))))
theorem told_ok {l : List Nat} {szs : List Nat} {xs : List P} (v : m_read_line [.p (.str (Tx l)), .p (szP szs)] = .ok (.p (.tup xs))) : m__law_told [.p (.str (Tx l)), .p (szP szs)] = .ok (.p (.tup xs)) := by
  unfold m__law_told fnD g__law_told
  unfold szP at v ⊢
  generalize Tx l = T at *
  simp [startS, DL.gCons, DL.gNil, gC, gVar, gOp1, gOp2, gSet, gFn, gCall, DL.gTup, DL.gLst, gTB, gTru, gIf, gIfS, gOr, gAnd, gNot, gOrV, gAndV, gNotV, gRet, gRetV, gNext, gIsi, gIsE, gExpr, gChain, gRaise, gSeq, gFor, gForL, gSeqI, R.items, gSeqL, R.itemsL, gRevL, gRevI, fLtA, gForV, gSl, gPart, gNoPart, gRangeI, fRange1, fRange2, range_2, range_3, range_4, range_5, gLc, lcL, gYes, wipeS, Rn.noErr, Rn.noErrS, plains, owns, fB, fIntB, fIx, iSub, fInt, fIntC, fMul, fNeg, fIsN, fEqB, fTru, fLen, fTuple, fList, fTru, P.scal, P.seq, D.bool?, R.d, lift, Rn.bind, Rn.mapErr, Rn.bind_ite, Rn.mapErr_ite, tryW_ite, atI, ixN, Tg.set, Fl.map, outEx, S.noExn, m__law_begin, m__law_take, take_ok, D.ty?, tyB, gTry, v, tryW_ok]
/-! texts -/
theorem joinL_app : ∀ (xs ys : List (List Nat)), xs ≠ [] → ys ≠ [] → TL.joinL [32] (xs ++ ys) = TL.joinL [32] xs ++ 32 :: TL.joinL [32] ys
  | [], _, h, _ => absurd rfl h
  | [x], y :: ys, _, _ => rfl
  | x :: z :: xs, ys, _, h => by
    have ih := joinL_app (z :: xs) ys (by simp) h
    show x ++ ([32] ++ TL.joinL [32] (z :: xs ++ ys)) = x ++ ([32] ++ TL.joinL [32] (z :: xs)) ++ 32 :: TL.joinL [32] ys
    rw [ih]
    simp
theorem joinL_mem : ∀ (ws : List (List Nat)) (c : Nat), c ∈ TL.joinL [32] ws → c = 32 ∨ ∃ w ∈ ws, c ∈ w
  | [], c, h => by simp [TL.joinL] at h
  | [p], c, h => .inr ⟨p, by simp, h⟩
  | p :: q :: r, c, h => by
    have h' : c ∈ p ++ ([32] ++ TL.joinL [32] (q :: r)) := h
    rcases List.mem_append.mp h' with z | z
    · exact .inr ⟨p, by simp, z⟩
    · rcases List.mem_append.mp z with z | z
      · exact .inl (by simpa using z)
      · rcases joinL_mem (q :: r) c z with z | ⟨w, hw, z⟩
        · exact .inl z
        · exact .inr ⟨w, by simp [hw], z⟩
theorem strL_mem {p : Int} {c : Nat} (h : c ∈ strL p) : c = 45 ∨ (48 ≤ c ∧ c ≤ 57) := by
  unfold strL at h
  split at h
  · rcases List.mem_cons.mp h with z | z
    · exact .inl z
    · exact .inr (TL.numL_digits _ c z)
  · exact .inr (TL.numL_digits _ c h)
theorem W0s_mem {s : Nat} {rows : List (List Int)} {w : List Nat} (h : w ∈ W0s s rows) : ∀ c ∈ w, 33 ≤ c ∧ c < 128 := by
  intro c hc
  unfold W0s at h
  rcases List.mem_cons.mp h with rfl | h
  · revert c; decide
  · rcases List.mem_cons.mp h with rfl | h
    · have := TL.numL_digits _ c hc
      omega
    · unfold rwW at h
      obtain ⟨r, _, h⟩ := List.mem_flatMap.mp h
      rcases List.mem_cons.mp h with rfl | h
      · have : c = 59 := by simpa using hc
        omega
      · obtain ⟨n, _, rfl⟩ := List.mem_map.mp h
        have := strL_mem hc
        omega
theorem text_small {s : Nat} {rows : List (List Int)} : ∀ c ∈ textOf s rows, c < 128 := fun c hc => by
  rcases joinL_mem _ c hc with h | ⟨w, hw, h⟩
  · omega
  · exact (W0s_mem hw c h).2
theorem sp_text (s : Nat) (rows : List (List Int)) : sp (textOf s rows) = W0s s rows := sp_of (by simp [W0s]) fun w hw z => by
  have := W0s_mem hw 32 z
  omega
theorem row_len {r : List Int} (h1 : 1 ≤ r.length) (h2 : r.length ≤ 60) (hz : ∀ n ∈ r, Z 160 n) : (TL.joinL [32] (r.map strL)).length ≤ 3100 := by
  have e := joinL_len (r.map strL) (by
    intro z
    rw [List.map_eq_nil_iff.mp z] at h1
    simp at h1)
  have b : ∀ r : List Int, (∀ n ∈ r, Z 160 n) → ((r.map strL).map List.length).sum ≤ 50 * r.length := by
    intro r
    induction r with
    | nil => intro _; simp
    | cons n r ih =>
      intro hz
      have := strL_len (hz n (by simp))
      have := ih fun m hm => hz m (by simp [hm])
      simp only [List.map_cons, List.sum_cons, List.length_cons]
      omega
  have := b r hz
  rw [List.length_map] at e
  omega
theorem text_app (s : Nat) (rows : List (List Int)) (r : List Int) (h1 : 1 ≤ r.length) : textOf s (rows ++ [r]) = textOf s rows ++ [32, 59, 32] ++ TL.joinL [32] (r.map strL) := by
  unfold textOf
  have e : W0s s (rows ++ [r]) = W0s s rows ++ ([59] :: r.map strL) := by simp [W0s, rwW]
  have ne : r.map strL ≠ [] := by
    intro z
    rw [List.map_eq_nil_iff.mp z] at h1
    simp at h1
  have e2 : TL.joinL [32] ([59] :: r.map strL) = 59 :: 32 :: TL.joinL [32] (r.map strL) := joinL_app [[59]] (r.map strL) (by simp) ne
  rw [e, joinL_app _ _ (by simp [W0s]) (by simp), e2]
  simp
theorem row_sum : ∀ r : List Int, (∀ n ∈ r, Z 160 n) → ((r.map strL).map List.length).sum ≤ 50 * r.length
  | [], _ => by simp
  | n :: r, hz => by
    have := strL_len (hz n (by simp))
    have := row_sum r fun m hm => hz m (by simp [hm])
    simp only [List.map_cons, List.sum_cons, List.length_cons]
    omega
theorem rw_sum : ∀ rows : List (List Int), (∀ r ∈ rows, 1 ≤ r.length ∧ r.length ≤ 60 ∧ ∀ n ∈ r, Z 160 n) → ((rwW rows).map List.length).sum + (rwW rows).length ≤ 3200 * rows.length
  | [], _ => by simp [rwW]
  | r :: rows, h => by
    have ih := rw_sum rows fun x hx => h x (by simp [hx])
    obtain ⟨h1, h2, h3⟩ := h r (by simp)
    have b := row_sum r h3
    have e : rwW (r :: rows) = [59] :: (r.map strL ++ rwW rows) := by simp [rwW]
    rw [e]
    simp only [List.map_cons, List.map_append, List.sum_cons, List.sum_append, List.length_cons, List.length_append, List.length_map, List.length_nil]
    omega
theorem text_len {s : Nat} (zs : Z 160 (s : Int)) (rows : List (List Int)) (h : ∀ r ∈ rows, 1 ≤ r.length ∧ r.length ≤ 60 ∧ ∀ n ∈ r, Z 160 n) : (textOf s rows).length ≤ 100 + 3200 * rows.length := by
  have e := joinL_len (W0s s rows) (by simp [W0s])
  have b := rw_sum rows h
  have n := numL_len' zs
  rw [Int.natAbs_natCast] at n
  unfold textOf
  unfold W0s at e ⊢
  simp only [List.map_cons, List.sum_cons, List.length_cons] at e
  have : lstep.length = 4 := rfl
  omega

theorem prime_p (a : Nat) (h0 : 0 < a) (h1 : a < 65521) : Nat.Coprime a 65521 := by
  have small : ∀ d : Nat, d < 256 → 2 ≤ d → 65521 % d ≠ 0 := by decide +kernel
  have nd : ∀ d : Nat, 2 ≤ d → d < 65521 → ¬ d ∣ 65521 := by
    intro d h2 h3 hd
    obtain ⟨e, he⟩ := hd
    by_cases q : d < 256
    · exact small d q h2 (by rw [he]; exact Nat.mul_mod_right d e)
    · have e2 : 2 ≤ e := by
        match e, he with
        | 0, he => omega
        | 1, he => omega
        | e + 2, _ => omega
      have e3 : e < 256 := by
        refine Nat.lt_of_not_le fun z => ?_
        have := Nat.mul_le_mul (show 256 ≤ d by omega) z
        omega
      exact small e e3 e2 (by rw [he]; exact Nat.mul_mod_left d e)
  show Nat.gcd a 65521 = 1
  have g1 := Nat.gcd_dvd_right a 65521
  have g2 := Nat.gcd_le_left 65521 h0
  have g3 := Nat.gcd_pos_of_pos_left 65521 h0
  refine Nat.le_antisymm ?_ g3
  refine Nat.le_of_not_lt fun z => ?_
  exact nd _ z (by omega) g1
theorem diff_p {a o c R : Nat} (h0 : 0 < a) (h1 : a < 65521) (ho : o < 60000) (hc : c < 60000) (e : (a * o + R) % 65521 = (a * c + R) % 65521) : o = c := by
  have key : ∀ x y : Nat, x ≤ y → x < 60000 → y < 60000 → (a * x + R) % 65521 = (a * y + R) % 65521 → x = y := by
    intro x y hxy hx hy e
    obtain ⟨d, rfl⟩ : ∃ d, y = x + d := ⟨y - x, by omega⟩
    rw [Nat.mul_add] at e
    have dv : 65521 ∣ a * d := by
      have e' : (a * x + R) % 65521 = ((a * x + R) + a * d) % 65521 := by rw [e]; congr 1; omega
      have h3 := Nat.sub_mod_eq_zero_of_mod_eq e'.symm
      rw [Nat.add_sub_cancel_left] at h3
      exact Nat.dvd_of_mod_eq_zero h3
    have := (prime_p a h0 h1).symm.dvd_of_dvd_mul_left dv
    have : d = 0 := by
      rcases Nat.eq_zero_or_pos d with z | z
      · exact z
      · have := Nat.le_of_dvd z this
        omega
    omega
  rcases Nat.le_total o c with h | h
  · exact key o c h ho hc e
  · exact (key c o h hc ho e.symm).symm
theorem ck_app : ∀ (X Y : List Nat) (k : Nat), ckF (X ++ Y) k = ckF X k + ckF Y (k + X.length)
  | [], Y, k => by simp [ckF]
  | x :: X, Y, k => by
    show (k + 1) * x + ckF (X ++ Y) (k + 1) = _
    rw [ck_app X Y (k + 1), show ckF (x :: X) k = (k + 1) * x + ckF X (k + 1) from rfl, List.length_cons]
    have : k + 1 + X.length = k + (X.length + 1) := by omega
    rw [this]
    omega
theorem ck_diff {X Y : List Nat} {o c : Nat} (hl : X.length < 60000) (ho : o < 60000) (hc : c < 60000) (hne : o ≠ c) : ckF (X ++ o :: Y) 0 % 65521 ≠ ckF (X ++ c :: Y) 0 % 65521 := by
  intro e
  rw [ck_app, ck_app, show ckF (o :: Y) (0 + X.length) = (0 + X.length + 1) * o + ckF Y (0 + X.length + 1) from rfl, show ckF (c :: Y) (0 + X.length) = (0 + X.length + 1) * c + ckF Y (0 + X.length + 1) from rfl] at e
  refine hne (diff_p (a := 0 + X.length + 1) (R := ckF X 0 + ckF Y (0 + X.length + 1)) (by omega) (by omega) ho hc ?_)
  generalize (0 + X.length + 1) * o = A at *
  generalize (0 + X.length + 1) * c = B at *
  generalize ckF X 0 = C at *
  generalize ckF Y (0 + X.length + 1) = E at *
  have e1 : A + (C + E) = C + (A + E) := by omega
  have e2 : B + (C + E) = C + (B + E) := by omega
  rw [e1, e2]
  exact e
theorem fold_inj : ∀ (v w : List Nat) (a b : Nat), v.length = w.length → AllDigits v → AllDigits w → v.foldl (fun acc c => acc * 10 + (c - 48)) a = w.foldl (fun acc c => acc * 10 + (c - 48)) b → a = b ∧ v = w
  | [], [], a, b, _, _, _, e => ⟨e, rfl⟩
  | [], y :: w, a, b, h, _, _, _ => by simp at h
  | x :: v, [], a, b, h, _, _, _ => by simp at h
  | x :: v, y :: w, a, b, h, hv, hw, e => by
    obtain ⟨e1, e2⟩ := fold_inj v w (a * 10 + (x - 48)) (b * 10 + (y - 48)) (by simpa using h) hv.tail hw.tail e
    have h1 := hv.head
    have h2 := hw.head
    refine ⟨by omega, ?_⟩
    have : x = y := by omega
    rw [this, e2]
theorem split_at {P Q X Y : List Nat} {s o : Nat} (h : X ++ o :: Y = P ++ s :: Q) (hne : o ≠ s) : (∃ Y', P = X ++ o :: Y' ∧ Y = Y' ++ s :: Q) ∨ (∃ X', X = P ++ s :: X' ∧ Q = X' ++ o :: Y) := by
  rcases List.append_eq_append_iff.mp h with ⟨a, h1, h2⟩ | ⟨a, h1, h2⟩
  · match a, h1, h2 with
    | [], h1, h2 =>
      exact absurd (List.cons.inj h2).1 hne
    | x :: a, h1, h2 =>
      obtain ⟨ex, h3⟩ := List.cons.inj h2
      subst ex
      exact .inl ⟨a, h1, h3⟩
  · match a, h1, h2 with
    | [], h1, h2 =>
      exact absurd (List.cons.inj h2).1.symm hne
    | x :: a, h1, h2 =>
      obtain ⟨ex, h3⟩ := List.cons.inj h2
      subst ex
      exact .inr ⟨a, h1, h3⟩
theorem sp_one {w : List Nat} (h : 32 ∉ w) : sp w = [w] := by
  have := sp_of (ws := [w]) (by simp) (by simpa using h)
  exact this
structure Ln (A : List Nat) (szs : List Nat) : Prop where
  len : A.length ≤ 40000
  sm : ∀ c ∈ A, c < 50000
  cnt : (sp A).length + 2 = many szs
  lo : 5 ≤ A.length
def lnOf (A : List Nat) : List Nat := A ++ 32 :: (lcheck ++ 32 :: TL.numL (ckF A 0 % 65521))
theorem num_small (n : Nat) : ∀ c ∈ TL.numL n, c < 50000 := fun c hc => by
  have := TL.numL_digits n c hc
  omega
theorem check_small : ∀ c ∈ lcheck, c < 50000 := by decide
theorem lnOf_small {A : List Nat} (h : ∀ c ∈ A, c < 50000) : ∀ c ∈ lnOf A, c < 50000 := by
  intro c hc
  unfold lnOf at hc
  rcases List.mem_append.mp hc with z | z
  · exact h c z
  · rcases List.mem_cons.mp z with z | z
    · omega
    · rcases List.mem_append.mp z with z | z
      · exact check_small c z
      · rcases List.mem_cons.mp z with z | z
        · omega
        · exact num_small _ c z
theorem numN_len (A : List Nat) : (TL.numL (ckF A 0 % 65521)).length ≤ 5 := TL.numL_len (k := 5) (by decide) (by have := Nat.mod_lt (ckF A 0) (show 0 < 65521 by decide); omega)
theorem numN_no (n : Nat) : 32 ∉ TL.numL n := num_no n (.inl (by decide))
theorem two_of {A : List Nat} {szs : List Nat} (h : (sp A).length + 2 = many szs) : ∃ p0 p1 ps, sp A = p0 :: p1 :: ps := by
  unfold many at h
  match sp A, h with
  | [], h => simp at h; omega
  | [p], h => simp at h; omega
  | p0 :: p1 :: ps, _ => exact ⟨p0, p1, ps, rfl⟩
theorem spoil {A : List Nat} {szs : List Nat} (L : Ln A szs) (hs : szs.length ≤ 1000) {X Y : List Nat} {o c : Nat} (e : lnOf A = X ++ o :: Y) (hne : o ≠ c) (hc : c < 50000) : m_read_line [.p (.str (Tx (X ++ c :: Y))), .p (szP szs)] = .err "JournalError" () := by
  have hN := numN_len A
  have hlen : (lnOf A).length ≤ 40100 := by
    have := L.len
    unfold lnOf
    simp [lcheck]
    omega
  have hl : (X ++ c :: Y).length ≤ 90000 := by
    have := congrArg List.length e
    simp at this ⊢
    omega
  have sm := lnOf_small L.sm
  have hsm : ∀ k ∈ X ++ c :: Y, k < 2000000 := by
    intro k hk
    rcases List.mem_append.mp hk with z | z
    · have := sm k (by rw [e]; exact List.mem_append_left _ z)
      omega
    · rcases List.mem_cons.mp z with z | z
      · omega
      · have := sm k (by rw [e]; simp [z])
        omega
  have ho : o < 50000 := sm o (by rw [e]; simp)
  have spl : sp (lnOf A) = sp A ++ [lcheck, TL.numL (ckF A 0 % 65521)] := by
    unfold lnOf
    rw [sp_app, sp_app, sp_one (w := lcheck) (by decide), sp_one (numN_no _)]
    rfl
  have cl : (lnOf A).count 32 + 1 = many szs := by
    rw [← sp_count, spl, ← L.cnt]
    simp
  rw [e] at cl
  by_cases hsp : o = 32 ∨ c = 32
  · refine v_bad1 hl hs ?_
    rw [sp_count]
    rcases hsp with h | h
    · have hc : c ≠ 32 := fun z => hne (by rw [h, z])
      simp [h, hc] at cl ⊢
      omega
    · have ho : o ≠ 32 := fun z => hne (by rw [h, z])
      simp [h, ho] at cl ⊢
      omega
  have o32 : o ≠ 32 := fun z => hsp (.inl z)
  have c32 : c ≠ 32 := fun z => hsp (.inr z)
  rcases split_at (P := A) (s := 32) (e.symm.trans rfl) o32 with ⟨Y', h1, h2⟩ | ⟨X', h1, h2⟩
  · -- in the text
    have e' : X ++ c :: Y = (X ++ c :: Y') ++ 32 :: (lcheck ++ 32 :: TL.numL (ckF A 0 % 65521)) := by rw [h2]; simp
    have spl' : sp (X ++ c :: Y) = sp (X ++ c :: Y') ++ [lcheck, TL.numL (ckF A 0 % 65521)] := by
      rw [e', sp_app, sp_app, sp_one (w := lcheck) (by decide), sp_one (numN_no _)]
      rfl
    have cnt' : (sp (X ++ c :: Y')).length + 2 = many szs := by
      have := L.cnt
      rw [h1] at this
      rw [sp_count] at this ⊢
      simp [o32, c32] at this ⊢
      omega
    obtain ⟨p0, p1, ps, ep⟩ := two_of cnt'
    have j := sp_join (X ++ c :: Y')
    rw [ep] at j
    refine v_bad2 hl hsm hs (p0 := p0) (p1 := p1) (ps := ps) (c := lcheck) (v := TL.numL (ckF A 0 % 65521)) (by rw [spl', ep]) (by rw [spl']; simp; omega) (.inr (.inr ?_))
    rw [j, show digitsVal (TL.numL (ckF A 0 % 65521)) = ckF A 0 % 65521 from TL.numL_val _, h1]
    exact ck_diff (by have := L.len; rw [h1] at this; simp at this; omega) (by omega) (by omega) hne
  · -- behind it
    obtain ⟨p0, p1, ps, ep⟩ := two_of L.cnt
    have j := sp_join A
    rw [ep] at j
    rcases split_at (P := lcheck) (s := 32) (h2.symm.trans rfl) o32 with ⟨Y', g1, g2⟩ | ⟨X2, g1, g2⟩
    · have nk : 32 ∉ X' ++ c :: Y' := by
        intro z
        rcases List.mem_append.mp z with z | z
        · have : 32 ∈ lcheck := by rw [g1]; simp [z]
          revert this; decide
        · rcases List.mem_cons.mp z with z | z
          · exact c32 z.symm
          · have : 32 ∈ lcheck := by rw [g1]; simp [z]
            revert this; decide
      have e' : X ++ c :: Y = A ++ 32 :: ((X' ++ c :: Y') ++ 32 :: TL.numL (ckF A 0 % 65521)) := by rw [h1, g2]; simp
      have spl' : sp (X ++ c :: Y) = sp A ++ [X' ++ c :: Y', TL.numL (ckF A 0 % 65521)] := by
        rw [e', sp_app, sp_app, sp_one nk, sp_one (numN_no _)]
        rfl
      refine v_bad2 hl hsm hs (p0 := p0) (p1 := p1) (ps := ps) (c := X' ++ c :: Y') (v := TL.numL (ckF A 0 % 65521)) (by rw [spl', ep]) (by rw [spl', ← L.cnt]; simp) (.inl fun z => ?_)
      rw [g1] at z
      have := (List.cons.inj (List.append_cancel_left z)).1
      exact hne this.symm
    · have nv : 32 ∉ X2 ++ c :: Y := by
        intro z
        have nn := numN_no (ckF A 0 % 65521)
        rw [g2] at nn
        rcases List.mem_append.mp z with z | z
        · exact nn (by simp [z])
        · rcases List.mem_cons.mp z with z | z
          · exact c32 z.symm
          · exact nn (by simp [z])
      have e' : X ++ c :: Y = A ++ 32 :: (lcheck ++ 32 :: (X2 ++ c :: Y)) := by rw [h1, g1]; simp
      have spl' : sp (X ++ c :: Y) = sp A ++ [lcheck, X2 ++ c :: Y] := by
        rw [e', sp_app, sp_app, sp_one (w := lcheck) (by decide), sp_one nv]
        rfl
      refine v_bad2 hl hsm hs (p0 := p0) (p1 := p1) (ps := ps) (c := lcheck) (v := X2 ++ c :: Y) (by rw [spl', ep]) (by rw [spl', ← L.cnt]; simp) (.inr ?_)
      by_cases hd : okD (X2 ++ c :: Y) = true
      · refine .inr fun z => ?_
        rw [j] at z
        unfold okD at hd
        simp only [Bool.and_eq_true] at hd
        have val : digitsVal (TL.numL (ckF A 0 % 65521)) = ckF A 0 % 65521 := TL.numL_val _
        rw [← val] at z
        have := (fold_inj (X2 ++ c :: Y) (TL.numL (ckF A 0 % 65521)) 0 0 (by rw [g2]; simp) (Dg_all hd.2.1) (TL.numL_digits _) z).2
        rw [g2] at this
        exact hne (List.cons.inj (List.append_cancel_left this)).1.symm
      · exact .inl (by simpa using hd)

theorem lcS {i : Nat} {δ : Sl} (hi : i < δ.length) (r : List Int) (hz : ∀ n ∈ r, Z 160 n) (hl : r.length ≤ 1000) : lcL (.one i) gYes (gCall fStrc (DL.gCons (gVar i) DL.gNil)) δ (r.map P.int) [] = .ok (wP (r.map strL)) := by
  have lc := lcL_ok (t := .one i) (gt := gYes) (ge := gCall fStrc (DL.gCons (gVar i) DL.gNil)) (δ := δ) (fun _ => true) (fun x => match x with | .int i => .str (Tx (strL i)) | x => x) (r.map P.int) [] (fun x hx => by
    obtain ⟨n, hn, rfl⟩ := List.mem_map.mp hx
    refine ⟨_, rfl, rfl, fun _ => ⟨.own (.p (.str (Tx (strL n)))), ?_, rfl⟩⟩
    have gv : gVar i (δ.set i (.own (.p (.int n)))) = .ok (.own (.p (.int n))) := by
      unfold gVar
      rw [List.getElem?_set_self hi]
    exact call_eq (rs := [.own (.p (.int n))]) (cons_eq gv rfl) (strc_tx (hz n hn))) (big (by simp; omega))
  rw [List.nil_append, List.filter_eq_self.mpr (fun _ _ => rfl), List.map_map] at lc
  rw [lc]
  unfold wP
  rw [List.map_map]
  rfl
theorem lcS_g {i j : Nat} {δ : Sl} (hi : i < δ.length) {r : List Int} (hv : gVar j δ = .ok (.own (.p (rowP r)))) (hz : ∀ n ∈ r, Z 160 n) (hl : r.length ≤ 1000) : gLc (.one i) [i] (gSeqL (gVar j)) gYes (gCall fStrc (DL.gCons (gVar i) DL.gNil)) δ = .ok (.own (.lst (wP (r.map strL)))) := by
  have e : gSeqL (gVar j) δ = .ok (r.map P.int) := by
    unfold gSeqL
    rw [hv]
    rfl
  unfold gLc
  rw [e, Rn.bind_ok]
  have l := lcS (i := i) (δ := wipeS δ [i]) (by show i < (δ.set i .no).length; rw [List.length_set]; exact hi) r hz hl
  rw [l]
  rfl
def bodyJ : GS := gSeq (gApp 2 (gC (.str ";"))) (gSet 2 (gOp2 fAdd (gVar 2) (gLc (.one 5) [5] (gSeqL (gVar 3)) gYes (gCall fStrc (DL.gCons (gVar 5) DL.gNil)))))
theorem loopJ {A B : S} : ∀ (rs : List (List Int)) (ws : List (List Nat)) (s3 s4 s5 : S), (∀ r ∈ rs, 1 ≤ r.length ∧ r.length ≤ 60 ∧ ∀ n ∈ r, Z 160 n) → ws.length + 61 * rs.length ≤ 50000 → ∃ s3', gForL (.one 3) bodyJ (rs.map rowP) [A, B, .own (.lst (wP ws)), s3, s4, s5] = .ok (.nx [A, B, .own (.lst (wP (ws ++ rwW rs))), s3', s4, s5])
  | [], ws, s3, s4, s5, _, _ => ⟨s3, by simp [gForL, rwW]⟩
  | r :: rs, ws, s3, s4, s5, hr, hl => by
    obtain ⟨h1, h2, h3⟩ := hr r (by simp)
    simp only [List.length_cons] at hl
    obtain ⟨s3', ih⟩ := loopJ (A := A) (B := B) rs (ws ++ ([59] :: r.map strL)) (.own (.p (rowP r))) s4 s5 (fun x hx => hr x (by simp [hx])) (by simp; omega)
    refine ⟨s3', ?_⟩
    have wl : (wP ws).length = ws.length := by simp [wP]
    have a1 : gApp 2 (gC (.str ";")) [A, B, .own (.lst (wP ws)), .own (.p (rowP r)), s4, s5] = .ok (.nx [A, B, .own (.lst (wP ws ++ [.str (Tx [59])])), .own (.p (rowP r)), s4, s5]) := by
      rw [lit_semi]
      exact app_ok rfl rfl (by omega)
    have lc := lcS_g (i := 5) (j := 3) (δ := [A, B, .own (.lst (wP ws ++ [.str (Tx [59])])), .own (.p (rowP r)), s4, s5]) (by simp) rfl h3 (by omega)
    have a2 : gOp2 fAdd (gVar 2) (gLc (.one 5) [5] (gSeqL (gVar 3)) gYes (gCall fStrc (DL.gCons (gVar 5) DL.gNil))) [A, B, .own (.lst (wP ws ++ [.str (Tx [59])])), .own (.p (rowP r)), s4, s5] = .ok (.own (.lst (wP (ws ++ ([59] :: r.map strL))))) := by
      refine op2_eq (x := .vw (.lst (wP ws ++ [.str (Tx [59])]))) rfl lc ?_
      show (if (wP ws ++ [P.str (Tx [59])]).length + (wP (r.map strL)).length ≤ sizeLine then _ else _) = _
      rw [if_pos (big (by simp [wP]; omega))]
      simp [wP]
    have e : (ws ++ ([59] :: r.map strL)) ++ rwW rs = ws ++ rwW (r :: rs) := by simp [rwW]
    rw [e] at ih
    exact forL_eq rfl (seq_eq a1 (set_eq a2)) ih
theorem lit_chk : (" check " : Str) = Tx (32 :: lcheck ++ [32]) := by decide +kernel
theorem lit_nl : ("\n" : Str) = Tx [10] := by decide +kernel
def Nn (s : Nat) (rows : List (List Int)) : Nat := ckF (textOf s rows) 0 % 65521
theorem Nn_z (s : Nat) (rows : List (List Int)) : Z 160 ((Nn s rows : Nat) : Int) := by
  have := Nat.mod_lt (ckF (textOf s rows) 0) (show 0 < 65521 by decide)
  exact Z.of (by unfold Nn; omega) (by unfold Nn; omega)
theorem text_small2 {s : Nat} {rows : List (List Int)} : ∀ c ∈ textOf s rows, c < 2000000 := fun c hc => by
  have := text_small c hc
  omega
theorem lnOf_eq (s : Nat) (rows : List (List Int)) : lnOf (textOf s rows) = textOf s rows ++ (32 :: lcheck ++ [32]) ++ TL.numL (Nn s rows) := by
  unfold lnOf Nn
  simp
theorem text_le {s : Nat} {rows : List (List Int)} (R : Rws rows) (zs : Z 160 (s : Int)) : (textOf s rows).length ≤ 30000 := by
  have := text_len zs rows R.r
  have := R.n
  omega
theorem strL_nat (n : Nat) : strL (n : Int) = TL.numL n := by
  unfold strL
  rw [if_neg (by omega), Int.natAbs_natCast]
theorem gJl_cons {g : GE} {gs : List GE} {δ : Sl} {l m : List Nat} (hg : g δ = .ok (.own (.p (.str (Tx m))))) (hl : (l ++ m).length ≤ 90000) : gJl (g :: gs) (Tx l) δ = gJl gs (Tx (l ++ m)) δ := by
  have e : Tx l ++ Tx m = Tx (l ++ m) := SX.S_cat l m
  have un : gJl (g :: gs) (Tx l) δ = (g δ).bind fun r => match r.d with
    | .p (.str y) => if (Tx l ++ y).length ≤ sizeLine then gJl gs (Tx l ++ y) δ else .bad
    | _ => .bad := rfl
  rw [un, hg]
  show (if (Tx l ++ Tx m).length ≤ sizeLine then gJl gs (Tx l ++ Tx m) δ else .bad) = _
  rw [e, if_pos (by rw [Tx_len]; exact big (by omega))]
theorem v_journal {s : Nat} {rows : List (List Int)} (Rr : Rws rows) (zs : Z 160 (s : Int)) : m_journal_line [.p (.int (s : Int)), .p (.tup (rows.map rowP))] = .ok (.p (.str (Tx (lnOf (textOf s rows) ++ [10])))) := by
  obtain ⟨s3', lp⟩ := loopJ (A := .bor none (.p (.int (s : Int)))) (B := .bor none (.p (.tup (rows.map rowP)))) rows [lstep, TL.numL s] .no .no .no Rr.r (by have := Rr.n; simp; omega)
  have tl := text_le Rr zs
  have st1 : gSet 2 (DL.gLst (DL.gCons (gC (.str "step")) (DL.gCons (gCall fStrc (DL.gCons (gVar 0) DL.gNil)) DL.gNil))) (startS 6 [.p (.int (s : Int)), .p (.tup (rows.map rowP))]) = .ok (.nx [.bor none (.p (.int (s : Int))), .bor none (.p (.tup (rows.map rowP))), .own (.lst (wP [lstep, TL.numL s])), .no, .no, .no]) := by
    have c : DL.gCons (gC (.str "step")) (DL.gCons (gCall fStrc (DL.gCons (gVar 0) DL.gNil)) DL.gNil) (startS 6 [.p (.int (s : Int)), .p (.tup (rows.map rowP))]) = .ok [.own (.p (.str (Tx lstep))), .own (.p (.str (Tx (TL.numL s))))] := by
      have sc := strc_tx zs
      rw [strL_nat] at sc
      rw [lit_step]
      exact cons_eq rfl (cons_eq (call_eq (rs := [.own (.p (.int (s : Int)))]) rfl sc) rfl)
    refine set_eq ?_
    unfold DL.gLst
    rw [c]
    rfl
  have jn : gSet 4 (gJoin (gC (.str " ")) (gVar 2)) [.bor none (.p (.int (s : Int))), .bor none (.p (.tup (rows.map rowP))), .own (.lst (wP ([lstep, TL.numL s] ++ rwW rows))), s3', .no, .no] = .ok (.nx [.bor none (.p (.int (s : Int))), .bor none (.p (.tup (rows.map rowP))), .own (.lst (wP ([lstep, TL.numL s] ++ rwW rows))), s3', .own (.p (.str (Tx (textOf s rows)))), .no]) := by
    refine set_eq ?_
    show fJoin " " (.lst (wP ([lstep, TL.numL s] ++ rwW rows))) = _
    rw [lit_sp]
    exact join_tx (by show (textOf s rows).length ≤ 90000; omega)
  refine fn_eq (seq_eq st1 (seq_eq lp (seq_eq jn (ret_eq ?_))))
  generalize hδ : [S.bor none (D.p (.int (s : Int))), .bor none (.p (.tup (rows.map rowP))), .own (.lst (wP ([lstep, TL.numL s] ++ rwW rows))), s3', .own (.p (.str (Tx (textOf s rows)))), .no] = δ
  have gv : gVar 4 δ = .ok (.own (.p (.str (Tx (textOf s rows))))) := by rw [← hδ]; rfl
  have vc := v_check (l := textOf s rows) (by omega) text_small2
  have zN := Nn_z s rows
  have lgN := zN.log
  have f0 : gFmt (gVar 4) δ = .ok (.own (.p (.str (Tx (textOf s rows))))) := by
    unfold gFmt
    rw [gv]
    show (if (Tx (textOf s rows)).length ≤ sizeLine then _ else _) = _
    rw [if_pos (by rw [Tx_len]; exact big (by omega))]
  have f2 : gFmt (gFn 1 m_check_number (DL.gCons (gVar 4) DL.gNil)) δ = .ok (.own (.p (.str (Tx (TL.numL (Nn s rows)))))) := by
    have e : gFn 1 m_check_number (DL.gCons (gVar 4) DL.gNil) δ = .ok (.own (.p (.int ((Nn s rows : Nat) : Int)))) := fn_val (rs := [.own (.p (.str (Tx (textOf s rows))))]) (cons_eq gv rfl) rfl vc
    unfold gFmt
    rw [e]
    show (if (((Nn s rows : Nat) : Int)).natAbs.log2 < 1920 then Rn.ok (R.own (.p (.str (Str.ofString (toString ((Nn s rows : Nat) : Int)))))) else _) = _
    rw [if_pos (by omega), str_tx, strL_nat]
  have lN := numL_len' zN
  rw [Int.natAbs_natCast] at lN
  have lc : lcheck.length = 5 := rfl
  have jl : gJl [gFmt (gVar 4), gC (.str " check "), gFmt (gFn 1 m_check_number (DL.gCons (gVar 4) DL.gNil)), gC (.str "\n")] Str.empty δ = .ok (Tx (lnOf (textOf s rows) ++ [10])) := by
    have e1 : gC (.str " check ") δ = .ok (.own (.p (.str (Tx (32 :: lcheck ++ [32]))))) := by rw [lit_chk]; rfl
    have e2 : gC (.str "\n") δ = .ok (.own (.p (.str (Tx [10])))) := by rw [lit_nl]; rfl
    rw [lnOf_eq, show (Str.empty : Str) = Tx [] from rfl]
    rw [gJl_cons f0 (by simp; omega), gJl_cons e1 (by simp; omega), gJl_cons f2 (by simp; omega), gJl_cons e2 (by simp; omega)]
    rfl
  unfold gJs
  rw [jl]
  rfl

def signsL : List Nat := [9, 39, 96, 92, 32, 33, 35, 36, 38, 40, 41, 42, 43, 44, 45, 46, 47, 48, 49, 50, 51, 52, 53, 54, 55, 56, 57, 58, 59, 60, 61, 62, 63, 64, 65, 66, 67, 68, 69, 70, 71, 72, 73, 74, 75, 76, 77, 78, 79, 80, 81, 82, 83, 84, 85, 86, 87, 88, 89, 90, 91, 93, 94, 95, 97, 98, 99, 100, 101, 102, 103, 104, 105, 106, 107, 108, 109, 110, 111, 112, 113, 114, 115, 116, 117, 118, 119, 120, 121, 122, 123, 124, 125, 126]
theorem lit_signs : ("	'`\\ !#$&()*+,-./0123456789:;<=>?@ABCDEFGHIJKLMNOPQRSTUVWXYZ[]^_abcdefghijklmnopqrstuvwxyz{|}~" : Str) = Tx signsL := by decide +kernel
theorem signs_small : ∀ c ∈ signsL, c < 50000 := by decide
theorem lit_semi3 : (" ; " : Str) = Tx [32, 59, 32] := by decide +kernel
theorem lit_step2 : ("step " : Str) = Tx (lstep ++ [32]) := by decide +kernel
def bodyT : GS := gSet 6 (gOp2 fAdd (gOp2 fAdd (gVar 6) (gC (.str " ; "))) (gJoin (gC (.str " ")) (gLc (.one 20) [20] (gSeqL (gVar 7)) gYes (gCall fStrc (DL.gCons (gVar 20) DL.gNil)))))
def slT (s0 s1 s2 s3 s4 s5 : S) (t : List Nat) (s7 : S) : Sl := [s0, s1, s2, s3, s4, s5, .own (.p (.str (Tx t))), s7, .no, .no, .no, .no, .no, .no, .no, .no, .no, .no, .no, .no, .no]
theorem loopT {s0 s1 s2 s3 s4 s5 : S} {s : Nat} : ∀ (rs done : List (List Int)) (s7 : S), (∀ r ∈ rs, 1 ≤ r.length ∧ r.length ≤ 60 ∧ ∀ n ∈ r, Z 160 n) → (textOf s done).length + 3200 * rs.length ≤ 39000 →
    ∃ s7', gForL (.one 7) bodyT (rs.map rowP) (slT s0 s1 s2 s3 s4 s5 (textOf s done) s7) = .ok (.nx (slT s0 s1 s2 s3 s4 s5 (textOf s (done ++ rs)) s7'))
  | [], done, s7, _, _ => ⟨s7, by simp [gForL]⟩
  | r :: rs, done, s7, hr, hl => by
    obtain ⟨h1, h2, h3⟩ := hr r (by simp)
    have rl := row_len h1 h2 h3
    have ta := text_app s done r h1
    have tl : (textOf s (done ++ [r])).length ≤ (textOf s done).length + 3200 := by
      rw [ta]
      simp
      omega
    simp only [List.length_cons] at hl
    obtain ⟨s7', ih⟩ := loopT (s0 := s0) (s1 := s1) (s2 := s2) (s3 := s3) (s4 := s4) (s5 := s5) (s := s) rs (done ++ [r]) (.own (.p (rowP r))) (fun x hx => hr x (by simp [hx])) (by omega)
    refine ⟨s7', ?_⟩
    have lc := lcS_g (i := 20) (j := 7) (δ := slT s0 s1 s2 s3 s4 s5 (textOf s done) (.own (.p (rowP r)))) (by simp [slT]) rfl h3 (by omega)
    have jn : gJoin (gC (.str " ")) (gLc (.one 20) [20] (gSeqL (gVar 7)) gYes (gCall fStrc (DL.gCons (gVar 20) DL.gNil))) (slT s0 s1 s2 s3 s4 s5 (textOf s done) (.own (.p (rowP r)))) = .ok (.own (.p (.str (Tx (TL.joinL [32] (r.map strL)))))) := by
      unfold gJoin
      rw [lc]
      show fJoin " " (.lst (wP (r.map strL))) = _
      rw [lit_sp]
      exact join_tx (by omega)
    have ad := add_tx (add_tx (a := gVar 6) (b := gC (.str " ; ")) (δ := slT s0 s1 s2 s3 s4 s5 (textOf s done) (.own (.p (rowP r)))) (l := textOf s done) (m := [32, 59, 32]) rfl (by rw [lit_semi3]; rfl) (by omega) (by simp)) jn (by simp; omega) (by omega)
    rw [← ta] at ad
    rw [List.append_assoc] at ih
    exact forL_eq rfl (set_eq ad) ih
/-! a draw that keeps its list -/
theorem wp_noErr {α : Type} {w : Rn Unit α} {Q : α → Prop} {E : Str → Unit → Prop} (h : Wp w Q (fun _ _ => False)) : Wp w.noErr Q E := ⟨by
  have h' := h.r
  clear h
  induction w with
  | ok a => exact h'
  | err c e => exact h'.elim
  | bad => exact h'
  | pick n k ih => exact fun i hi => ih i (h' i hi)⟩
inductive PW (T : P → P → Prop) : List P → List P → Prop
  | nil : PW T [] []
  | cons {x y : P} {xs ys : List P} (h : T x y) (r : PW T xs ys) : PW T (x :: xs) (y :: ys)
theorem lc_wp {i : Nat} {ge : GE} {δ : Sl} {T : P → P → Prop} : ∀ (xs acc : List P), (∀ x ∈ xs, Wp (ge (δ.set i (.own (.p x)))) (fun r => ∃ y, r.d = .p y ∧ T x y) (fun _ _ => False)) → acc.length + xs.length ≤ 100000 →
    Wp (lcL (.one i) gYes ge δ xs acc) (fun ys => ∃ zs, ys = acc ++ zs ∧ PW T xs zs) (fun _ _ => False)
  | [], acc, _, _ => wp_ok.mpr ⟨[], by simp, .nil⟩
  | x :: xs, acc, h, hl => by
    simp only [List.length_cons] at hl
    have un : lcL (.one i) gYes ge δ (x :: xs) acc = ((ge (δ.set i (.own (.p x)))).noErr.bind fun r => match r.d with
        | .p y => if acc.length < sizeLine then lcL (.one i) gYes ge δ xs (acc ++ [y]) else .bad
        | _ => .bad) := rfl
    rw [un]
    refine wp_bind.mpr (wp_imp (wp_noErr (h x (by simp))) ?_ fun _ _ z => z)
    rintro r ⟨y, er, ty⟩
    rw [er]
    show Wp (if acc.length < sizeLine then _ else _) _ _
    rw [if_pos (Nat.lt_of_lt_of_le (Nat.lt_succ_self _) (big (by omega)))]
    refine wp_imp (lc_wp xs (acc ++ [y]) (fun z hz => h z (by simp [hz])) (by simp; omega)) ?_ fun _ _ z => z
    rintro ys ⟨zs, e, pw⟩
    exact ⟨y :: zs, by rw [e]; simp, .cons ty pw⟩
theorem gLc_wp {i : Nat} {gi : GI} {ge : GE} {δ : Sl} {T : P → P → Prop} {xs : List P} {Q : R → Prop} (hg : gi δ = .ok xs) (h : ∀ x ∈ xs, Wp (ge ((δ.set i .no).set i (.own (.p x)))) (fun r => ∃ y, r.d = .p y ∧ T x y) (fun _ _ => False)) (hl : xs.length ≤ 100000) (k : ∀ zs, PW T xs zs → Q (.own (.lst zs))) :
    Wp (gLc (.one i) [i] gi gYes ge δ) Q (fun _ _ => False) := by
  unfold gLc
  rw [hg, Rn.bind_ok]
  refine wp_bind.mpr (wp_imp (lc_wp (T := T) xs [] h (by simpa using hl)) ?_ fun _ _ z => z)
  rintro ys ⟨zs, e, pw⟩
  rw [List.nil_append] at e
  subst e
  exact wp_ok.mpr (k _ pw)
theorem PW.len {T : P → P → Prop} {xs ys : List P} (h : PW T xs ys) : ys.length = xs.length := by
  induction h with
  | nil => rfl
  | cons _ _ ih => simp [ih]
theorem v_number : Wp (m__law_number [.orc]) (fun d => ∃ i : Int, Z 140 i ∧ d = .p (.int i)) (fun _ _ => False) := by
  refine fn_wp ?_
  unfold g__law_number
  refine seq_wp (fun δ => ∃ i : Int, -40 ≤ i ∧ i ≤ 40 ∧ δ = [.bor none .orc, .own (.p (.int i))]) ?_ ?_
  · refine set_fn (rs := [.vw .orc, .own (.p (.int 40))]) rfl rfl (signed_wp 40 (by decide) (by omega)) ?_
    rintro d ⟨i, h1, h2, rfl⟩
    exact ⟨i, h1, h2, rfl⟩
  rintro _ ⟨i, h1, h2, rfl⟩
  have key : Wp (gIf (gTB (gOp2 (fB (fEqB false)) (gFn 2 m__law_take (DL.gCons (gVar 0) (DL.gCons (gC (.int 4)) DL.gNil))) (gC (.int 1)))) (gOp2 fAdd (gOp2 fMul (gVar 1) (gOp2 (fIntC CPow fun i j => i ^ j.toNat) (gC (.int 10)) (gC (.int 38)))) (gFn 2 m__law_signed (DL.gCons (gVar 0) (DL.gCons (gOp2 (fIntC CPow fun i j => i ^ j.toNat) (gC (.int 10)) (gC (.int 38))) DL.gNil)))) (gVar 1) [.bor none .orc, .own (.p (.int i))]) (fun r => ∃ i : Int, Z 140 i ∧ r = .own (.p (.int i))) (fun _ _ => False) := by
    unfold gIf
    refine wp_bind.mpr (w_tb (w_op2 (draw_eq (n := 4) (by decide) (by omega) rfl fun j h3 h4 => ?_)))
    refine w_of (v := .own (.p (.int 1))) rfl ?_
    show Wp (fB (fEqB false) (.p (.int j)) (.p (.int 1))) _ _
    rw [eq_ints]
    refine wp_ok.mpr ⟨_, rfl, ?_⟩
    by_cases h : j = 1
    · rw [if_pos (decide_eq_true h)]
      have cp : CPow 10 38 := by decide
      have pw : gOp2 (fIntC CPow fun i j => i ^ j.toNat) (gC (.int 10)) (gC (.int 38)) [.bor none .orc, .own (.p (.int i))] = .ok (.own (.p (.int (10 ^ 38)))) := by
        unfold gOp2 gC
        simp [Rn.bind, R.d, fIntC, cp]
      have cm : CMulW i (10 ^ 38) := Z.cmul (j := 10) (k := 130) (Z.of (by omega) (by omega)) (Z.of (by omega) (by omega))
      have e1 : gOp2 fMul (gVar 1) (gOp2 (fIntC CPow fun i j => i ^ j.toNat) (gC (.int 10)) (gC (.int 38))) [.bor none .orc, .own (.p (.int i))] = .ok (.own (.p (.int (i * 10 ^ 38)))) := by
        refine op2_eq (x := .own (.p (.int i))) rfl pw ?_
        show (if CMulW i (10 ^ 38) then _ else _) = _
        rw [if_pos cm]
      refine w_op2 (w_of e1 ?_)
      refine w_fn (rs := [.vw .orc, .own (.p (.int (10 ^ 38)))]) (cons_eq rfl (cons_eq pw rfl)) rfl ?_
      refine wp_imp (signed_wp (10 ^ 38) (by omega) (by omega)) ?_ fun _ _ z => z
      rintro d ⟨k, k1, k2, rfl⟩
      exact w_of (v := .own (.p (.int (i * 10 ^ 38 + k)))) rfl ⟨i * 10 ^ 38 + k, Z.of (by omega) (by omega), rfl⟩
    · rw [if_neg (by simpa using h)]
      exact w_of (v := .own (.p (.int i))) rfl ⟨i, Z.of (by omega) (by omega), rfl⟩
  refine w_ret (wp_imp key ?_ fun _ _ z => z)
  rintro r ⟨i, zi, rfl⟩
  exact ⟨_, rfl, i, zi, rfl⟩

theorem take_wp {n : Int} {Q : D → Prop} (h0 : 0 < n) (h1 : n < 2 ^ 250) (h : ∀ i : Int, 0 ≤ i → i < n → Q (.p (.int i))) : Wp (takeF [.orc, .p (.int n)]) Q (fun _ _ => False) := by
  rw [take_big h0 h1]
  exact wp_pick.mpr fun i hi => wp_ok.mpr (h _ (by omega) (by omega))
theorem gLc_wpI {i : Nat} {gi : GI} {ge : GE} {δ : Sl} {T : P → P → Prop} {X : List P → Prop} {Q : R → Prop} (hg : Wp (gi δ) X (fun _ _ => False)) (hX : ∀ xs, X xs → xs.length ≤ 100000 ∧ ∀ x ∈ xs, Wp (ge ((δ.set i .no).set i (.own (.p x)))) (fun r => ∃ y, r.d = .p y ∧ T x y) (fun _ _ => False)) (k : ∀ xs zs, X xs → PW T xs zs → Q (.own (.lst zs))) :
    Wp (gLc (.one i) [i] gi gYes ge δ) Q (fun _ _ => False) := by
  unfold gLc
  refine wp_bind.mpr (wp_imp hg ?_ fun _ _ z => z)
  intro xs hx
  obtain ⟨h1, h2⟩ := hX xs hx
  refine wp_bind.mpr (wp_imp (lc_wp (T := T) xs [] h2 (by simpa using h1)) ?_ fun _ _ z => z)
  rintro ys ⟨zs, e, pw⟩
  rw [List.nil_append] at e
  subst e
  exact wp_ok.mpr (k _ _ hx pw)
theorem PW_sizes : ∀ {xs zs : List P}, PW (fun _ y => ∃ n : Nat, 1 ≤ n ∧ n ≤ 60 ∧ y = .int (n : Int)) xs zs → ∃ szs : List Nat, zs = szs.map (fun (n : Nat) => P.int (n : Int)) ∧ szs.length = xs.length ∧ ∀ n ∈ szs, 1 ≤ n ∧ n ≤ 60 := by
  intro xs zs h
  induction h with
  | nil => exact ⟨[], rfl, rfl, by simp⟩
  | cons h _ ih =>
    obtain ⟨n, h1, h2, rfl⟩ := h
    obtain ⟨szs, rfl, hl, ha⟩ := ih
    exact ⟨n :: szs, rfl, by simp [hl], fun m hm => by
      rcases List.mem_cons.mp hm with rfl | hm
      · exact ⟨h1, h2⟩
      · exact ha m hm⟩
theorem PW_row : ∀ {xs zs : List P}, PW (fun _ y => ∃ i : Int, Z 140 i ∧ y = .int i) xs zs → ∃ row : List Int, zs = row.map P.int ∧ row.length = xs.length ∧ ∀ n ∈ row, Z 160 n := by
  intro xs zs h
  induction h with
  | nil => exact ⟨[], rfl, rfl, by simp⟩
  | cons h _ ih =>
    obtain ⟨n, h1, rfl⟩ := h
    obtain ⟨row, rfl, hl, ha⟩ := ih
    exact ⟨n :: row, rfl, by simp [hl], fun m hm => by
      rcases List.mem_cons.mp hm with rfl | hm
      · exact h1.mono (by decide)
      · exact ha m hm⟩
def TW (x y : P) : Prop := ∀ n : Nat, x = .int (n : Int) → ∃ row : List Int, row.length = n ∧ (∀ z ∈ row, Z 160 z) ∧ y = rowP row
theorem PW_rows : ∀ {szs : List Nat} {zs : List P}, PW TW (szs.map fun (n : Nat) => P.int (n : Int)) zs → ∃ rows : List (List Int), zs = rows.map rowP ∧ szO rows = szs ∧ ∀ r ∈ rows, ∀ z ∈ r, Z 160 z
  | [], _, .nil => ⟨[], rfl, rfl, by simp⟩
  | n :: szs, _, .cons h t => by
    obtain ⟨row, hl, hz, rfl⟩ := h n rfl
    obtain ⟨rows, rfl, e, ha⟩ := PW_rows t
    refine ⟨row :: rows, rfl, by simp [szO, hl]; exact e, fun r hr => ?_⟩
    rcases List.mem_cons.mp hr with rfl | hr
    · exact hz
    · exact ha r hr
theorem range_len {n : Nat} : (rangeP 0 (n : Int)).length = n := by simp [rangeP]
def sl4 (ns : List Int) (s2 s3 s4 s5 : S) : Sl := [.bor none (.scr ns), .own .orc, s2, s3, s4, s5, .no, .no, .no, .no, .no, .no, .no, .no, .no, .no, .no, .no, .no, .no, .no]
theorem draw_most (ns : List Int) {K : Fl → Prop} (k : ∀ m : Nat, 1 ≤ m → m ≤ 60 → K (.nx (sl4 ns (.own (.p (.int (m : Int)))) .no .no .no))) : Wp (gSet 2 (gOp2 fIx (DL.gTup (DL.gCons (gC (.int 4)) (DL.gCons (gC (.int 4)) (DL.gCons (gC (.int 4)) (DL.gCons (gC (.int 60)) DL.gNil))))) (gFn 2 m__law_take (DL.gCons (gVar 1) (DL.gCons (gC (.int 4)) DL.gNil)))) (sl4 ns .no .no .no .no)) K (fun _ _ => False) := by
  refine w_set (w_op2 (w_of (v := .own (.p (.tup [.int 4, .int 4, .int 4, .int 60]))) rfl (draw_eq (n := 4) (by decide) (by omega) rfl fun i h0 h1 => ?_)))
  rcases (by omega : i = 0 ∨ i = 1 ∨ i = 2 ∨ i = 3) with rfl | rfl | rfl | rfl
  · exact w_of (v := .own (.p (.int 4))) rfl ⟨_, rfl, k 4 (by decide) (by decide)⟩
  · exact w_of (v := .own (.p (.int 4))) rfl ⟨_, rfl, k 4 (by decide) (by decide)⟩
  · exact w_of (v := .own (.p (.int 4))) rfl ⟨_, rfl, k 4 (by decide) (by decide)⟩
  · exact w_of (v := .own (.p (.int 60))) rfl ⟨_, rfl, k 60 (by decide) (by decide)⟩
theorem draw_sizes (ns : List Int) (m : Nat) (h1 : 1 ≤ m) (h2 : m ≤ 60) {K : Fl → Prop} (k : ∀ szs : List Nat, 1 ≤ szs.length → szs.length ≤ 8 → (∀ n ∈ szs, 1 ≤ n ∧ n ≤ 60) → K (.nx (sl4 ns (.own (.p (.int (m : Int)))) (.own (.p (szP szs))) .no .no))) :
    Wp (gSet 3 (gCall fTuple (DL.gCons (gLc (.one 18) [18] (gRangeI fRange1 (DL.gCons (gOp2 fAdd (gC (.int 1)) (gFn 2 m__law_take (DL.gCons (gVar 1) (DL.gCons (gOp2 fIx (DL.gTup (DL.gCons (gC (.int 3)) (DL.gCons (gC (.int 8)) DL.gNil))) (gFn 2 m__law_take (DL.gCons (gVar 1) (DL.gCons (gC (.int 2)) DL.gNil)))) DL.gNil)))) DL.gNil)) gYes (gOp2 fAdd (gC (.int 1)) (gFn 2 m__law_take (DL.gCons (gVar 1) (DL.gCons (gVar 2) DL.gNil))))) DL.gNil)) (sl4 ns (.own (.p (.int (m : Int)))) .no .no .no)) K (fun _ _ => False) := by
  refine w_set (w_call (w_cons (gLc_wpI (T := fun _ y => ∃ n : Nat, 1 ≤ n ∧ n ≤ 60 ∧ y = .int (n : Int)) (X := fun xs => 1 ≤ xs.length ∧ xs.length ≤ 8) ?_ ?_ ?_)))
  · unfold gRangeI
    refine wp_bind.mpr (w_cons (w_op2 (w_of (v := .own (.p (.int 1))) rfl (w_fnW (w_cons (w_of (v := .vw .orc) rfl (w_cons (w_op2 (w_of (v := .own (.p (.tup [.int 3, .int 8]))) rfl (draw_eq (n := 2) (by decide) (by omega) rfl fun i i0 i1 => ?_))))))))))
    have st : ∃ q : Int, 3 ≤ q ∧ q ≤ 8 ∧ fIx (.p (.tup [.int 3, .int 8])) (.p (.int i)) = .ok (.own (.p (.int q))) := by
      rcases (by omega : i = 0 ∨ i = 1) with rfl | rfl
      · exact ⟨3, by decide, by decide, rfl⟩
      · exact ⟨8, by decide, by decide, rfl⟩
    obtain ⟨q, q0, q1, st⟩ := st
    refine w_of st (w_of (v := []) rfl ⟨rfl, take_wp (by omega) (by omega) fun j j0 j1 => ?_⟩)
    refine w_of (v := .own (.p (.int (1 + j)))) rfl (w_of (v := []) rfl ?_)
    refine w_of (v := rangeP 0 (1 + j)) (range1_ok (by omega) (by omega)) ?_
    have : (rangeP 0 (1 + j)).length = (1 + j).toNat := by simp [rangeP]
    omega
  · rintro xs ⟨_, hx⟩
    refine ⟨by omega, fun x _ => ?_⟩
    refine w_op2 (w_of (v := .own (.p (.int 1))) rfl (draw_eq (n := (m : Int)) (by omega) (by omega) rfl fun j j0 j1 => ?_))
    refine w_of (v := .own (.p (.int (1 + j)))) rfl ⟨_, rfl, (1 + j).toNat, by omega, by omega, ?_⟩
    congr 1
    omega
  · rintro xs zs ⟨hx0, hx⟩ pw
    obtain ⟨szs, rfl, hl, ha⟩ := PW_sizes pw
    exact w_of (v := []) rfl (w_of (v := .own (.p (szP szs))) rfl ⟨_, rfl, k szs (by omega) (by omega) ha⟩)
theorem draw_rows (ns : List Int) (s2 : S) (szs : List Nat) (hl1 : 1 ≤ szs.length) (hl : szs.length ≤ 8) (ha : ∀ n ∈ szs, 1 ≤ n ∧ n ≤ 60) {K : Fl → Prop} (k : ∀ rows : List (List Int), szO rows = szs → Rws rows → K (.nx (sl4 ns s2 (.own (.p (szP szs))) (.own (.p (.tup (rows.map rowP)))) .no))) :
    Wp (gSet 4 (gCall fTuple (DL.gCons (gLc (.one 19) [19] (gSeqL (gVar 3)) gYes (gCall fTuple (DL.gCons (gLc (.one 18) [18] (gRangeI fRange1 (DL.gCons (gVar 19) DL.gNil)) gYes (gFn 1 m__law_number (DL.gCons (gVar 1) DL.gNil))) DL.gNil))) DL.gNil)) (sl4 ns s2 (.own (.p (szP szs))) .no .no)) K (fun _ _ => False) := by
  refine w_set (w_call (w_cons (gLc_wp (T := TW) (xs := szs.map fun (n : Nat) => P.int (n : Int)) rfl ?_ (by simp; omega) ?_)))
  · intro x hx
    obtain ⟨n, hn, rfl⟩ := List.mem_map.mp hx
    have := ha n hn
    refine w_call (w_cons (gLc_wp (T := fun _ y => ∃ i : Int, Z 140 i ∧ y = .int i) (xs := rangeP 0 (n : Int)) ?_ ?_ (by rw [range_len]; omega) ?_))
    · exact gRange_ok (rs := [.own (.p (.int (n : Int)))]) rfl (range1_ok (by omega) (by omega))
    · intro x hx
      refine w_fn (rs := [.vw .orc]) rfl rfl (wp_imp v_number ?_ fun _ _ z => z)
      rintro d ⟨i, zi, rfl⟩
      exact ⟨_, rfl, i, zi, rfl⟩
    · intro zs pw
      obtain ⟨row, rfl, hl, hz⟩ := PW_row pw
      rw [range_len] at hl
      refine w_of (v := []) rfl (w_of (v := .own (.p (rowP row))) rfl ⟨_, rfl, ?_⟩)
      intro n' hn'
      refine ⟨row, ?_, hz, rfl⟩
      have := P.int.inj hn'
      omega
  · intro zs pw
    obtain ⟨rows, rfl, e, hz⟩ := PW_rows pw
    refine w_of (v := []) rfl (w_of (v := .own (.p (.tup (rows.map rowP)))) rfl ⟨_, rfl, k rows e ⟨?_, fun r hr => ?_⟩⟩)
    · rw [← e] at hl
      simpa [szO] using hl
    · have : r.length ∈ szs := by rw [← e]; exact List.mem_map.mpr ⟨r, hr, rfl⟩
      have := ha _ this
      exact ⟨this.1, this.2, hz r hr⟩
theorem draw_steps (ns : List Int) (s2 s3 s4 : S) {K : Fl → Prop} (k : ∀ s : Nat, Z 160 (s : Int) → K (.nx (sl4 ns s2 s3 s4 (.own (.p (.int (s : Int))))))) : Wp (gSet 5 (gCall fAbs (DL.gCons (gFn 1 m__law_number (DL.gCons (gVar 1) DL.gNil)) DL.gNil)) (sl4 ns s2 s3 s4 .no)) K (fun _ _ => False) := by
  refine w_set (w_call (w_cons (w_fn (rs := [.vw .orc]) rfl rfl (wp_imp v_number ?_ fun _ _ z => z))))
  rintro d ⟨i, zi, rfl⟩
  refine w_of (v := []) rfl (w_of (v := .own (.p (.int ((i.natAbs : Nat) : Int)))) ?_ ⟨_, rfl, k i.natAbs ⟨by rw [Int.natAbs_natCast]; exact (zi.mono (by decide : 140 ≤ 160)).h⟩⟩)
  show Rn.ok (R.own (.p (.int (if i < 0 then -i else i)))) = _
  have : (if i < 0 then -i else i) = ((i.natAbs : Nat) : Int) := by split <;> omega
  rw [this]

theorem lay_row : ∀ r : List Int, PyData.canLayAll0 (P.pys (r.map P.int)) = true ∧ PyData.depthAll (P.pys (r.map P.int)) = 0
  | [] => ⟨rfl, rfl⟩
  | n :: r => by
    obtain ⟨q1, q2⟩ := lay_row r
    have e : P.pys ((n :: r).map P.int) = .int n :: P.pys (r.map P.int) := rfl
    rw [e]
    constructor
    · simp [PyData.canLayAll0, PyData.canLay0, q1]
    · simp [PyData.depthAll, PyData.depth, q2]
theorem lay_rows : ∀ rows : List (List Int), PyData.canLayAll0 (P.pys (rows.map rowP)) = true ∧ PyData.depthAll (P.pys (rows.map rowP)) ≤ 1
  | [] => ⟨rfl, Nat.zero_le _⟩
  | r :: rows => by
    obtain ⟨q1, q2⟩ := lay_rows rows
    obtain ⟨p1, p2⟩ := lay_row r
    have e : P.pys ((r :: rows).map rowP) = .tuple (P.pys (r.map P.int)) :: P.pys (rows.map rowP) := rfl
    rw [e]
    constructor
    · simp [PyData.canLayAll0, PyData.canLay0, q1, p1]
    · simp [PyData.depthAll, PyData.depth, q2, p2]
theorem eq_pair (n : Bool) (s : Int) (rows : List (List Int)) : fEqB n (.p (.tup [.int s, .tup (rows.map rowP)])) (.p (.tup [.int s, .tup (rows.map rowP)])) = .ok (!n) := by
  obtain ⟨q1, q2⟩ := lay_rows rows
  refine eq_self n rfl ?_
  have e : (P.tup [.int s, .tup (rows.map rowP)]).py = .tuple [.int s, .tuple (P.pys (rows.map rowP))] := rfl
  rw [e]
  unfold SeqAt.shaped
  simp [PyData.canLay0, PyData.canLayAll0, PyData.depth, PyData.depthAll, q1]
  omega
def turnG : GS := (gSeq (gSet 12 (gFn 2 m__law_take (DL.gCons (gVar 1) (DL.gCons (gCall fLen (DL.gCons (gVar 8) DL.gNil)) DL.gNil))))
  (gSeq (gSet 13 (gOp2 fIx (gVar 10) (gFn 2 m__law_take (DL.gCons (gVar 1) (DL.gCons (gCall fLen (DL.gCons (gVar 10) DL.gNil)) DL.gNil)))))
  (gSeq (gIfS (gTB (gOp2 (fB (fEqB false)) (gVar 11) (gC (.int 1)))) (gSet 13 (gOp2 fIx (gC (.str "0123456789")) (gFn 2 m__law_take (DL.gCons (gVar 1) (DL.gCons (gC (.int 10)) DL.gNil))))) gNext)
  (gSeq (gIfS (gTB (gOp2 (fB (fEqB false)) (gVar 11) (gC (.int 2)))) (gSeq (gSet 12 (gIdx (gVar 8) (DL.gCons (gC (.str " ")) (DL.gCons (gCall fMinL (DL.gCons (gVar 12) (DL.gCons (gOp2 iSub (gCall fLen (DL.gCons (gVar 8) DL.gNil)) (gC (.int 12))) DL.gNil))) DL.gNil))))
  (gSet 13 (gOp2 fIx (DL.gTup (DL.gCons (gC (.str "	")) (DL.gCons (gC (.str "_")) (DL.gCons (gC (.str ";")) (DL.gCons (gC (.str "	")) DL.gNil))))) (gFn 2 m__law_take (DL.gCons (gVar 1) (DL.gCons (gC (.int 4)) DL.gNil)))))) gNext)
  (gIfS (gAnd (gTB (gOp2 (fB (fEqB true)) (gOp2 fIx (gVar 8) (gVar 12)) (gVar 13))) (gTB (gOp2 (fB (fIsN true)) (gFn 2 m__law_told (DL.gCons (gOp2 fAdd (gOp2 fAdd (gSl (gVar 8) gNoPart (gPart (gVar 12))) (gVar 13)) (gSl (gVar 8) (gPart (gOp2 fAdd (gVar 12) (gC (.int 1)))) gNoPart)) (DL.gCons (gVar 3) DL.gNil))) (gC .non)))) (gRet (gC (.bl false))) gNext)))))
def slB (ns : List Int) (s2 : S) (szs : List Nat) (s4 s5 s6 s7 : S) (l : List Nat) (s9 s11 s12 s13 : S) : Sl := [.bor none (.scr ns), .own .orc, s2, .own (.p (szP szs)), s4, s5, s6, s7, .own (.p (.str (Tx l))), s9, .own (.p (.str (Tx signsL))), s11, s12, s13, .no, .no, .no, .no, .no, .no, .no]
theorem told_spoilt {A : List Nat} {szs : List Nat} (L : Ln A szs) (hs : szs.length ≤ 1000) {k c o : Nat} (hk : (lnOf A)[k]? = some o) (hne : o ≠ c) (hc : c < 50000) : m__law_told [.p (.str (Tx ((lnOf A).take k ++ [c] ++ (lnOf A).drop (k + 1)))), .p (szP szs)] = .ok (.p .non) := by
  obtain ⟨h1, h2⟩ := List.getElem?_eq_some_iff.mp hk
  have e : lnOf A = (lnOf A).take k ++ o :: (lnOf A).drop (k + 1) := by
    have := List.drop_eq_getElem_cons h1
    rw [h2] at this
    rw [← this, List.take_append_drop]
  have := told_err (spoil L hs e hne hc)
  rw [List.append_assoc]
  exact this
theorem add_tx3 {a b : GE} {δ : Sl} {l m : List Nat} (h1 : a δ = .ok (.own (.p (.str (Tx l))))) (h2 : b δ = .ok (.own (.p (.str (Tx m))))) (hl : l.length ≤ 45000) (hm : m.length ≤ 45000) : gOp2 fAdd a b δ = .ok (.own (.p (.str (Tx (l ++ m))))) := by
  refine op2_eq h1 h2 ?_
  show (if (Tx l).length + (Tx m).length ≤ sizeLine then _ else _) = _
  rw [Tx_len, Tx_len, if_pos (big (by omega)), show Tx l ++ Tx m = Tx (l ++ m) from SX.S_cat l m]
theorem idx_ok {l : List Nat} {p : Nat} {m : Int} (hp : l[p]? = some 32) (h0 : 0 ≤ m) (h1 : m ≤ (p : Int)) : ∃ j, Txt.indexFrom (Tx l) (Tx [32]) m = some j ∧ j < l.length := by
  have fi : PySem.fromIndex (Tx l).length m = m.toNat := by
    unfold PySem.fromIndex
    rw [if_neg (by omega)]
    omega
  unfold Txt.indexFrom
  rw [fi]
  rcases StrLaws.occ_head_from (Tx l) (Tx [32]) m.toNat 1 (Nat.le_refl _) with ⟨_, h⟩ | ⟨j, r, e, _, h, _⟩
  · exact absurd ((StrLaws.subAt_one (Tx l) 32 p).mpr hp) (h p (by omega))
  · refine ⟨j, by rw [e]; rfl, ?_⟩
    have := (StrLaws.subAt_one (Tx l) 32 j).mp h
    exact (List.getElem?_eq_some_iff.mp this).1
theorem sign4 (i : Int) (h0 : 0 ≤ i) (h1 : i < 4) : ∃ c : Nat, c < 50000 ∧ fIx (.p (.tup [.str "\t", .str "_", .str ";", .str "\t"])) (.p (.int i)) = .ok (.own (.p (.str (Tx [c])))) := by
  rcases (by omega : i = 0 ∨ i = 1 ∨ i = 2 ∨ i = 3) with rfl | rfl | rfl | rfl
  · exact ⟨9, by decide, rfl⟩
  · exact ⟨95, by decide, rfl⟩
  · exact ⟨59, by decide, rfl⟩
  · exact ⟨9, by decide, rfl⟩
theorem at_ix {l : List Nat} (hl : l.length ≤ 100000) {i : Int} (h0 : 0 ≤ i) (h1 : i < (l.length : Int)) : ∃ c, l[i.toNat]? = some c ∧ fIx (.p (.str (Tx l))) (.p (.int i)) = .ok (.own (.p (.str (Tx [c])))) := by
  obtain ⟨k, rfl⟩ : ∃ k : Nat, i = (k : Int) := ⟨i.toNat, by omega⟩
  have hk : k < l.length := by omega
  exact ⟨l[k], by simp [hk], ix_txk hl (List.getElem?_eq_getElem hk)⟩
theorem v_turn {ns : List Int} {s2 s4 s5 s6 s7 s9 s12 s13 : S} {A : List Nat} {szs : List Nat} (L : Ln A szs) (hs : szs.length ≤ 1000) (t : Int) (Q : Fl → Prop) : Wp (turnG (slB ns s2 szs s4 s5 s6 s7 (lnOf A) s9 (.own (.p (.int t))) s12 s13)) (Tn (fun δ => ∃ s11 s12 s13, δ = slB ns s2 szs s4 s5 s6 s7 (lnOf A) s9 s11 s12 s13) Q) (fun _ _ => False) := by
  have hN := numN_len A
  have hl1 : (lnOf A).length ≤ 40100 := by
    have := L.len
    unfold lnOf
    simp [lcheck]
    omega
  have hl0 : 12 ≤ (lnOf A).length := by
    have := L.lo
    unfold lnOf
    simp [lcheck]
    omega
  have hsp : ∃ p : Nat, (lnOf A)[p]? = some 32 ∧ (lnOf A).length ≤ p + 12 := by
    refine ⟨A.length + 6, ?_, ?_⟩
    · have e : lnOf A = (A ++ 32 :: lcheck) ++ 32 :: TL.numL (ckF A 0 % 65521) := by unfold lnOf; simp
      have el : A.length + 6 = (A ++ 32 :: lcheck).length := by simp [lcheck]
      rw [e, el]
      simp
    · unfold lnOf
      simp [lcheck]
      omega
  have tol := fun k c o => told_spoilt (k := k) (c := c) (o := o) L hs
  generalize lnOf A = l at *
  have hlen := len_tx (l := l) (by omega)
  unfold turnG
  generalize hK : Tn (fun δ => ∃ s11 s12 s13, δ = slB ns s2 szs s4 s5 s6 s7 l s9 s11 s12 s13) Q = K
  have hk : ∀ s11 s12 s13, K (.nx (slB ns s2 szs s4 s5 s6 s7 l s9 s11 s12 s13)) := fun s11 s12 s13 => by rw [← hK]; exact ⟨s11, s12, s13, rfl⟩
  clear hK
  refine seq_wp (fun δ => ∃ k : Nat, k < l.length ∧ δ = slB ns s2 szs s4 s5 s6 s7 l s9 (.own (.p (.int t))) (.own (.p (.int (k : Int)))) s13) ?_ ?_
  · refine w_set (draw_eq (n := (l.length : Int)) (by omega) (by omega) (cons_eq rfl (cons_eq (call_eq (rs := [.own (.p (.str (Tx l)))]) rfl hlen) rfl)) fun i h0 h1 => ⟨_, rfl, i.toNat, by omega, ?_⟩)
    have : ((i.toNat : Nat) : Int) = i := by omega
    rw [this]
    rfl
  rintro _ ⟨k, hkl, rfl⟩
  refine seq_wp (fun δ => ∃ c : Nat, c < 50000 ∧ δ = slB ns s2 szs s4 s5 s6 s7 l s9 (.own (.p (.int t))) (.own (.p (.int (k : Int)))) (.own (.p (.str (Tx [c]))))) ?_ ?_
  · refine w_set (w_op2 (w_of (v := .own (.p (.str (Tx signsL)))) rfl (draw_eq (n := (signsL.length : Int)) (by decide) (by decide) (cons_eq rfl (cons_eq (call_eq (rs := [.own (.p (.str (Tx signsL)))]) rfl (len_tx (by decide))) rfl)) fun i h0 h1 => ?_)))
    obtain ⟨c, e1, e2⟩ := at_ix (l := signsL) (by decide) h0 h1
    exact w_of e2 ⟨_, rfl, c, signs_small c (List.mem_of_getElem? e1), rfl⟩
  rintro _ ⟨c, hc, rfl⟩
  refine seq_wp (fun δ => ∃ c : Nat, c < 50000 ∧ δ = slB ns s2 szs s4 s5 s6 s7 l s9 (.own (.p (.int t))) (.own (.p (.int (k : Int)))) (.own (.p (.str (Tx [c]))))) ?_ ?_
  · have tq : gTB (gOp2 (fB (fEqB false)) (gVar 11) (gC (.int 1))) (slB ns s2 szs s4 s5 s6 s7 l s9 (.own (.p (.int t))) (.own (.p (.int (k : Int)))) (.own (.p (.str (Tx [c]))))) = .ok (decide (t = 1)) := tb_eq (op2_eq (x := .own (.p (.int t))) rfl rfl (eq_ints t 1))
    by_cases h : t = 1
    · refine if_tt (tq.trans (by rw [decide_eq_true h])) (w_set (w_op2 (w_of (v := .own (.p (.str (Tx [48, 49, 50, 51, 52, 53, 54, 55, 56, 57])))) (by rw [lit_ten]; rfl) (draw_eq (n := 10) (by decide) (by omega) rfl fun i h0 h1 => ?_))))
      obtain ⟨c', e1, e2⟩ := at_ix (l := [48, 49, 50, 51, 52, 53, 54, 55, 56, 57]) (by decide) h0 (by simpa using h1)
      have sm : ∀ c ∈ [48, 49, 50, 51, 52, 53, 54, 55, 56, 57], c < 50000 := by decide
      exact w_of e2 ⟨_, rfl, c', sm c' (List.mem_of_getElem? e1), rfl⟩
    · exact w_of (if_eqF (tq.trans (by rw [decide_eq_false h])) rfl) ⟨c, hc, rfl⟩
  clear hc c
  rintro _ ⟨c, hc, rfl⟩
  refine seq_wp (fun δ => ∃ k c : Nat, k < l.length ∧ c < 50000 ∧ δ = slB ns s2 szs s4 s5 s6 s7 l s9 (.own (.p (.int t))) (.own (.p (.int (k : Int)))) (.own (.p (.str (Tx [c]))))) ?_ ?_
  · have tq : gTB (gOp2 (fB (fEqB false)) (gVar 11) (gC (.int 2))) (slB ns s2 szs s4 s5 s6 s7 l s9 (.own (.p (.int t))) (.own (.p (.int (k : Int)))) (.own (.p (.str (Tx [c]))))) = .ok (decide (t = 2)) := tb_eq (op2_eq (x := .own (.p (.int t))) rfl rfl (eq_ints t 2))
    by_cases h : t = 2
    · refine if_tt (tq.trans (by rw [decide_eq_true h])) ?_
      obtain ⟨p, hp, hpl⟩ := hsp
      obtain ⟨j, ej, hj⟩ := idx_ok (m := if ((l.length : Int) - 12) < (k : Int) then (l.length : Int) - 12 else (k : Int)) hp (by split <;> omega) (by split <;> omega)
      have gi : gIdx (gVar 8) (DL.gCons (gC (.str " ")) (DL.gCons (gCall fMinL (DL.gCons (gVar 12) (DL.gCons (gOp2 iSub (gCall fLen (DL.gCons (gVar 8) DL.gNil)) (gC (.int 12))) DL.gNil))) DL.gNil)) (slB ns s2 szs s4 s5 s6 s7 l s9 (.own (.p (.int t))) (.own (.p (.int (k : Int)))) (.own (.p (.str (Tx [c]))))) = .ok (.own (.p (.int (j : Int)))) := by
        have ar : DL.gCons (gC (.str " ")) (DL.gCons (gCall fMinL (DL.gCons (gVar 12) (DL.gCons (gOp2 iSub (gCall fLen (DL.gCons (gVar 8) DL.gNil)) (gC (.int 12))) DL.gNil))) DL.gNil) (slB ns s2 szs s4 s5 s6 s7 l s9 (.own (.p (.int t))) (.own (.p (.int (k : Int)))) (.own (.p (.str (Tx [c]))))) = .ok [.own (.p (.str (Tx [32]))), .own (.p (.int (if ((l.length : Int) - 12) < (k : Int) then (l.length : Int) - 12 else (k : Int))))] := by
          rw [lit_sp]
          exact cons_eq rfl (cons_eq (call_eq (rs := [.own (.p (.int (k : Int))), .own (.p (.int ((l.length : Int) - 12)))]) (cons_eq rfl (cons_eq (op2_eq (call_eq (rs := [.own (.p (.str (Tx l)))]) rfl hlen) rfl rfl) rfl)) rfl) rfl)
        unfold gIdx
        rw [ar]
        show (match Txt.indexFrom (Tx l) (Tx [32]) _ with | some k => _ | none => _) = _
        rw [ej]
      refine seq_ok (δ' := slB ns s2 szs s4 s5 s6 s7 l s9 (.own (.p (.int t))) (.own (.p (.int (j : Int)))) (.own (.p (.str (Tx [c]))))) (set_eq gi) ?_
      refine w_set (w_op2 (w_of (v := .own (.p (.tup [.str "\t", .str "_", .str ";", .str "\t"]))) rfl (draw_eq (n := 4) (by decide) (by omega) rfl fun i h0 h1 => ?_)))
      obtain ⟨c', hc', e2⟩ := sign4 i h0 h1
      exact w_of e2 ⟨_, rfl, j, c', hj, hc', rfl⟩
    · exact w_of (if_eqF (tq.trans (by rw [decide_eq_false h])) rfl) ⟨k, c, hkl, hc, rfl⟩
  clear hc c hkl k
  rintro _ ⟨k, c, hkl, hc, rfl⟩
  obtain ⟨o, e1, e2⟩ := at_ix (l := l) (by omega) (i := (k : Int)) (by omega) (by omega)
  rw [Int.toNat_natCast] at e1
  have t1 : gTB (gOp2 (fB (fEqB true)) (gOp2 fIx (gVar 8) (gVar 12)) (gVar 13)) (slB ns s2 szs s4 s5 s6 s7 l s9 (.own (.p (.int t))) (.own (.p (.int (k : Int)))) (.own (.p (.str (Tx [c]))))) = .ok (decide (o ≠ c)) := by
    refine (tb_eq (op2_eq (op2_eq (x := .own (.p (.str (Tx l)))) rfl rfl e2) rfl (eq_tx true [o] [c]))).trans ?_
    simp
  by_cases hoc : o = c
  · exact w_of (if_eqF (and_eqF (t1.trans (by rw [decide_eq_false (by simp [hoc])]))) rfl) (hk _ _ _)
  · have tn := tol k c o e1 hoc hc
    have a1 := sl_to (ga := gVar 8) (gp := gVar 12) (δ := slB ns s2 szs s4 s5 s6 s7 l s9 (.own (.p (.int t))) (.own (.p (.int (k : Int)))) (.own (.p (.str (Tx [c]))))) (l := l) rfl (by omega) (i := (k : Int)) (by omega) rfl
    have a2 := sl_from (ga := gVar 8) (gp := gOp2 fAdd (gVar 12) (gC (.int 1))) (δ := slB ns s2 szs s4 s5 s6 s7 l s9 (.own (.p (.int t))) (.own (.p (.int (k : Int)))) (.own (.p (.str (Tx [c]))))) (l := l) rfl (by omega) (i := (k : Int) + 1) (by omega) rfl
    have n1 : ((k : Int)).toNat = k := by omega
    have n2 : ((k : Int) + 1).toNat = k + 1 := by omega
    rw [n1] at a1
    rw [n2] at a2
    have ad := add_tx3 (add_tx3 a1 (b := gVar 13) (m := [c]) rfl (by simp; omega) (by simp)) a2 (by simp; omega) (by simp; omega)
    have tt : gTB (gOp2 (fB (fIsN true)) (gFn 2 m__law_told (DL.gCons (gOp2 fAdd (gOp2 fAdd (gSl (gVar 8) gNoPart (gPart (gVar 12))) (gVar 13)) (gSl (gVar 8) (gPart (gOp2 fAdd (gVar 12) (gC (.int 1)))) gNoPart)) (DL.gCons (gVar 3) DL.gNil))) (gC .non)) (slB ns s2 szs s4 s5 s6 s7 l s9 (.own (.p (.int t))) (.own (.p (.int (k : Int)))) (.own (.p (.str (Tx [c]))))) = .ok false :=
      tb_eq (op2_eq (fn_val (rs := [.own (.p (.str (Tx (l.take k ++ [c] ++ l.drop (k + 1))))), .own (.p (szP szs))]) (cons_eq ad rfl) rfl tn) rfl rfl)
    refine w_of (if_eqF (and_eqT (t1.trans (by rw [decide_eq_true hoc])) tt) rfl) (hk _ _ _)

theorem ln_ok {s : Nat} {rows : List (List Int)} (Rr : Rws rows) (zs : Z 160 (s : Int)) : Ln (textOf s rows) (szO rows) := by
  refine ⟨by have := text_le Rr zs; omega, fun c hc => by have := text_small c hc; omega, ?_, ?_⟩
  · rw [sp_text]
    have := many_W s rows [] []
    simpa using this
  · have e := joinL_len (W0s s rows) (by simp [W0s])
    unfold textOf
    unfold W0s at e ⊢
    simp only [List.map_cons, List.sum_cons, List.length_cons] at e
    have : lstep.length = 4 := rfl
    omega
theorem sp_ln (A : List Nat) : sp (lnOf A) = sp A ++ [lcheck, TL.numL (ckF A 0 % 65521)] := by
  unfold lnOf
  rw [sp_app, sp_app, sp_one (w := lcheck) (by decide), sp_one (numN_no _)]
  rfl
theorem cut_take {α : Type} (xs : List α) {k : Nat} (h : k ≤ xs.length) : cutP xs none (some (k : Int)) = xs.take k := by
  have e : HT.sIx xs.length xs.length (some (k : Int)) = k := by
    rw [HT.sIx_nat]
    omega
  unfold cutP
  rw [e]
  show (xs.drop 0).take (k - 0) = _
  simp
theorem cut_drop {α : Type} (xs : List α) {k : Nat} (h : k ≤ xs.length) : cutP xs (some (k : Int)) none = xs.drop k := by
  have e : HT.sIx xs.length 0 (some (k : Int)) = k := by
    rw [HT.sIx_nat]
    omega
  unfold cutP
  rw [e]
  show (xs.drop k).take (xs.length - k) = _
  exact List.take_of_length_le (by simp)
theorem sum_take (L : List Nat) (k : Nat) : (L.take k).sum + (L.drop k).sum = L.sum := by
  have := congrArg List.sum (List.take_append_drop k L)
  rwa [List.sum_append] at this
theorem told_words {ws : List (List Nat)} {szs : List Nat} (hs : szs.length ≤ 1000) (hne : ws ≠ []) (hno : ∀ w ∈ ws, 32 ∉ w) (hlen : (TL.joinL [32] ws).length ≤ 90000) (hm : ws.length ≠ many szs) : m__law_told [.p (.str (Tx (TL.joinL [32] ws))), .p (szP szs)] = .ok (.p .non) :=
  told_err (v_bad1 hlen hs (by rw [sp_of hne hno]; exact hm))
theorem two_cuts {W : List (List Nat)} {a b : Nat} (h : (W.map List.length).sum + W.length ≤ 40200) : (TL.joinL [32] (W.take a ++ W.drop b)).length ≤ 90000 := by
  by_cases hn : W.take a ++ W.drop b = []
  · rw [hn]; simp [TL.joinL]
  · have e := joinL_len _ hn
    have s1 := sum_take (W.map List.length) a
    have s2 := sum_take (W.map List.length) b
    simp only [List.map_append, List.map_take, List.map_drop, List.sum_append, List.length_append, List.length_take, List.length_drop] at e
    omega
def slW (ns : List Int) (s2 : S) (szs : List Nat) (s4 s5 s6 s7 : S) (l : List Nat) (s9 s11 s12 s13 : S) (W : List P) (s15 s16 s17 : S) : Sl := [.bor none (.scr ns), .own .orc, s2, .own (.p (szP szs)), s4, s5, s6, s7, .own (.p (.str (Tx l))), s9, .own (.p (.str (Tx signsL))), s11, s12, s13, .own (.lst W), s15, s16, s17, .no, .no, .no]
theorem jn_words {i : GE} {δ : Sl} {ws : List (List Nat)} (h : i δ = .ok (.own (.lst (wP ws)))) (hl : (TL.joinL [32] ws).length ≤ 90000) : gJoin (gC (.str " ")) i δ = .ok (.own (.p (.str (Tx (TL.joinL [32] ws))))) := by
  unfold gJoin
  rw [h]
  show fJoin " " (.lst (wP ws)) = _
  rw [lit_sp]
  exact join_tx hl
theorem cat_words {W : List (List Nat)} {ga : GE} {δ : Sl} {i j : GE} {a b : Nat} (hv : ga δ = .ok (.vw (.lst (wP W)))) (hi : i δ = .ok (.own (.p (.int (a : Int))))) (hj : j δ = .ok (.own (.p (.int (b : Int))))) (ha : a ≤ W.length) (hb : b ≤ W.length) (hW : W.length ≤ 40200) :
    gOp2 fAdd (gSl ga gNoPart (gPart i)) (gSl ga (gPart j) gNoPart) δ = .ok (.own (.lst (wP (W.take a ++ W.drop b)))) := by
  have wl : (wP W).length = W.length := by simp [wP]
  have e1 : gSl ga gNoPart (gPart i) δ = .ok (.own (.lst (wP (W.take a)))) := by
    unfold gSl gPart gNoPart
    rw [hv, hi]
    show Rn.ok (R.own (.lst (cutP (wP W) none (some (a : Int))))) = _
    rw [cut_take _ (by omega)]
    simp [wP]
  have e2 : gSl ga (gPart j) gNoPart δ = .ok (.own (.lst (wP (W.drop b)))) := by
    unfold gSl gPart gNoPart
    rw [hv, hj]
    show Rn.ok (R.own (.lst (cutP (wP W) (some (b : Int)) none))) = _
    rw [cut_drop _ (by omega)]
    simp [wP]
  refine op2_eq e1 e2 ?_
  show (if (wP (W.take a)).length + (wP (W.drop b)).length ≤ sizeLine then _ else _) = _
  rw [if_pos (big (by simp [wP]; omega))]
  simp [wP]

theorem cat_tups {a b : GE} {δ : Sl} {xs ys : List P} (h1 : a δ = .ok (.own (.p (.tup xs)))) (h2 : b δ = .ok (.own (.p (.tup ys)))) (hl : xs.length + ys.length ≤ 100000) : gOp2 fAdd a b δ = .ok (.own (.p (.tup (xs ++ ys)))) := by
  refine op2_eq h1 h2 ?_
  show (if xs.length + ys.length ≤ sizeLine then _ else _) = _
  rw [if_pos (big hl)]
theorem add_one {szs : List Nat} (hs : szs.length ≤ 1000) {δ : Sl} (h : gVar 3 δ = .ok (.own (.p (szP szs)))) : gOp2 fAdd (gVar 3) (DL.gTup (DL.gCons (gC (.int 1)) DL.gNil)) δ = .ok (.own (.p (szP (szs ++ [1])))) := by
  refine (cat_tups (xs := szs.map fun (n : Nat) => P.int (n : Int)) (ys := [.int 1]) h rfl (by simp; omega)).trans ?_
  unfold szP
  rw [List.map_append]
  rfl
theorem add_head {a : Nat} {rest : List Nat} (hs : rest.length ≤ 1000) {δ : Sl} (h : gVar 3 δ = .ok (.own (.p (szP (a :: rest))))) : gOp2 fAdd (DL.gTup (DL.gCons (gOp2 fAdd (gOp2 fIx (gVar 3) (gC (.int 0))) (gC (.int 1))) DL.gNil)) (gSl (gVar 3) (gPart (gC (.int 1))) gNoPart) δ = .ok (.own (.p (szP ((a + 1) :: rest)))) := by
  have ix : gOp2 fIx (gVar 3) (gC (.int 0)) δ = .ok (.own (.p (.int (a : Int)))) := by
    refine op2_eq (y := .own (.p (.int ((0 : Nat) : Int)))) h rfl ?_
    show (match atI ((a :: rest).map fun (n : Nat) => P.int (n : Int)) ((0 : Nat) : Int) with | some x => _ | none => _) = _
    rw [at_nat (x := .int (a : Int)) rfl]
  have tp : DL.gTup (DL.gCons (gOp2 fAdd (gOp2 fIx (gVar 3) (gC (.int 0))) (gC (.int 1))) DL.gNil) δ = .ok (.own (.p (.tup [.int ((a : Int) + 1)]))) := by
    have : DL.gCons (gOp2 fAdd (gOp2 fIx (gVar 3) (gC (.int 0))) (gC (.int 1))) DL.gNil δ = .ok [.own (.p (.int ((a : Int) + 1)))] := cons_eq (op2_eq ix rfl rfl) rfl
    unfold DL.gTup
    rw [this]
    rfl
  have sl : gSl (gVar 3) (gPart (gC (.int 1))) gNoPart δ = .ok (.own (.p (.tup (rest.map fun (n : Nat) => P.int (n : Int))))) := by
    unfold gSl
    rw [h]
    show Rn.ok (R.own (.p (.tup (cutP ((a :: rest).map fun (n : Nat) => P.int (n : Int)) (some ((1 : Nat) : Int)) none)))) = _
    rw [cut_drop _ (by simp)]
    rfl
  exact cat_tups tp sl (by simp; omega)
theorem last_ok {szs : List Nat} {l : List Nat} (hs1 : 1 ≤ szs.length) (hs : szs.length ≤ 900) {δ : Sl} (h8 : gVar 8 δ = .ok (.own (.p (.str (Tx l))))) (h3 : gVar 3 δ = .ok (.own (.p (szP szs))))
    (hb : ∀ szs', szs'.length ≤ 1000 → many szs ≠ many szs' → m__law_told [.p (.str (Tx l)), .p (szP szs')] = .ok (.p .non)) :
    gAndV (gOp2 (fB (fIsN false)) (gFn 2 m__law_told (DL.gCons (gVar 8) (DL.gCons (gOp2 fAdd (gVar 3) (DL.gTup (DL.gCons (gC (.int 1)) DL.gNil))) DL.gNil))) (gC .non)) (gOp2 (fB (fIsN false)) (gFn 2 m__law_told (DL.gCons (gVar 8) (DL.gCons (gOp2 fAdd (DL.gTup (DL.gCons (gOp2 fAdd (gOp2 fIx (gVar 3) (gC (.int 0))) (gC (.int 1))) DL.gNil)) (gSl (gVar 3) (gPart (gC (.int 1))) gNoPart)) DL.gNil))) (gC .non)) δ = .ok (.own (.p (.bl true))) := by
  have ft : ∀ {g : GE}, g δ = .ok (.own (.p .non)) → gOp2 (fB (fIsN false)) g (gC .non) δ = .ok (.own (.p (.bl true))) := fun h => op2_eq h rfl rfl
  have m1 := hb (szs ++ [1]) (by simp; omega) (by unfold many; simp)
  refine andV_eq (ft (fn_val (rs := [.own (.p (.str (Tx l))), .own (.p (szP (szs ++ [1])))]) (cons_eq h8 (cons_eq (add_one (by omega) h3) rfl)) rfl m1)) ?_
  cases szs with
  | nil => simp at hs1
  | cons a rest =>
    have hr : rest.length + 1 ≤ 900 := hs
    have m2 := hb ((a + 1) :: rest) (by simp; omega) (by unfold many; simp)
    exact ft (fn_val (rs := [.own (.p (.str (Tx l))), .own (.p (szP ((a + 1) :: rest)))]) (cons_eq h8 (cons_eq (add_head (by omega) h3) rfl)) rfl m2)
theorem law_tail {ns : List Int} {s2 s4 s5 s6 s7 s9 s11 s12 s13 : S} {A : List Nat} {szs : List Nat} (L : Ln A szs) (hs9 : szs.length ≤ 900) (hs1 : 1 ≤ szs.length) (Q : D → Prop) (hQ : Q (.p (.bl true))) :
    Wp (gSeq (gSet 14 (gSplit (gVar 8) (gC (.str " "))))
  (gSeq (gSet 15 (gFn 2 m__law_take (DL.gCons (gVar 1) (DL.gCons (gCall fLen (DL.gCons (gVar 14) DL.gNil)) DL.gNil))))
  (gSeq (gSet 16 (gJoin (gC (.str " ")) (gOp2 fAdd (gSl (gVar 14) gNoPart (gPart (gOp2 fAdd (gVar 15) (gC (.int 1))))) (gSl (gVar 14) (gPart (gVar 15)) gNoPart))))
  (gSeq (gSet 17 (gJoin (gC (.str " ")) (gOp2 fAdd (gSl (gVar 14) gNoPart (gPart (gVar 15))) (gSl (gVar 14) (gPart (gOp2 fAdd (gVar 15) (gC (.int 1)))) gNoPart))))
  (gSeq (gIfS (gOr (gTB (gOp2 (fB (fIsN true)) (gFn 2 m__law_told (DL.gCons (gVar 16) (DL.gCons (gVar 3) DL.gNil))) (gC .non))) (gOr (gTB (gOp2 (fB (fIsN true)) (gFn 2 m__law_told (DL.gCons (gVar 17) (DL.gCons (gVar 3) DL.gNil))) (gC .non))) (gTB (gOp2 (fB (fIsN true)) (gFn 2 m__law_told (DL.gCons (gC (.str "")) (DL.gCons (gVar 3) DL.gNil))) (gC .non))))) (gRet (gC (.bl false))) gNext)
  (gRet (gAndV (gOp2 (fB (fIsN false)) (gFn 2 m__law_told (DL.gCons (gVar 8) (DL.gCons (gOp2 fAdd (gVar 3) (DL.gTup (DL.gCons (gC (.int 1)) DL.gNil))) DL.gNil))) (gC .non)) (gOp2 (fB (fIsN false)) (gFn 2 m__law_told (DL.gCons (gVar 8) (DL.gCons (gOp2 fAdd (DL.gTup (DL.gCons (gOp2 fAdd (gOp2 fIx (gVar 3) (gC (.int 0))) (gC (.int 1))) DL.gNil)) (gSl (gVar 3) (gPart (gC (.int 1))) gNoPart)) DL.gNil))) (gC .non)))))))) (slB ns s2 szs s4 s5 s6 s7 (lnOf A) s9 s11 s12 s13)) (Fn.out Q) (fun _ _ => False) := by
  have hs : szs.length ≤ 1000 := by omega
  have hN := numN_len A
  have hl1 : (lnOf A).length ≤ 40100 := by
    have := L.len
    unfold lnOf
    simp [lcheck]
    omega
  have hW : (sp (lnOf A)).length = many szs := by rw [sp_ln, ← L.cnt]; simp
  have hno := sp_no (lnOf A)
  have jl := joinL_len (sp (lnOf A)) (by intro z; rw [z] at hW; unfold many at hW; simp at hW; omega)
  rw [sp_join] at jl
  have h4 : 4 ≤ many szs := by unfold many; omega
  have hb : ∀ szs', szs'.length ≤ 1000 → many szs ≠ many szs' → m__law_told [.p (.str (Tx (lnOf A))), .p (szP szs')] = .ok (.p .non) := fun szs' h1 h2 => told_err (v_bad1 (by omega) h1 (by rw [hW]; exact h2))
  have spl := split_sp (ga := gVar 8) (δ := slB ns s2 szs s4 s5 s6 s7 (lnOf A) s9 s11 s12 s13) (l := lnOf A) rfl (by omega)
  generalize hWd : sp (lnOf A) = W at *
  generalize lnOf A = l at *
  refine seq_ok (δ' := slW ns s2 szs s4 s5 s6 s7 l s9 s11 s12 s13 (wP W) .no .no .no) (set_eq spl) ?_
  refine seq_wp (fun δ => ∃ k : Nat, k < W.length ∧ δ = slW ns s2 szs s4 s5 s6 s7 l s9 s11 s12 s13 (wP W) (.own (.p (.int (k : Int)))) .no .no) ?_ ?_
  · refine w_set (draw_eq (n := (W.length : Int)) (by omega) (by omega) (cons_eq rfl (cons_eq (r := .own (.p (.int (W.length : Int)))) (call_eq (rs := [.vw (.lst (wP W))]) rfl ?_) rfl)) fun i h0 h1 => ⟨_, rfl, i.toNat, by omega, ?_⟩)
    · show Rn.ok (R.own (.p (.int ((wP W).length : Int)))) = _
      rw [show (wP W).length = W.length by simp [wP]]
    · have : ((i.toNat : Nat) : Int) = i := by omega
      rw [this]
      rfl
  rintro _ ⟨k, hk, rfl⟩
  have c1 := cat_words (W := W) (ga := gVar 14) (δ := slW ns s2 szs s4 s5 s6 s7 l s9 s11 s12 s13 (wP W) (.own (.p (.int (k : Int)))) .no .no) (i := gOp2 fAdd (gVar 15) (gC (.int 1))) (j := gVar 15) (a := k + 1) (b := k) rfl rfl rfl (by omega) (by omega) (by omega)
  have z1 := two_cuts (W := W) (a := k + 1) (b := k) (by omega)
  refine seq_ok (δ' := slW ns s2 szs s4 s5 s6 s7 l s9 s11 s12 s13 (wP W) (.own (.p (.int (k : Int)))) (.own (.p (.str (Tx (TL.joinL [32] (W.take (k + 1) ++ W.drop k)))))) .no) (set_eq (jn_words c1 z1)) ?_
  have c2 := cat_words (W := W) (ga := gVar 14) (δ := slW ns s2 szs s4 s5 s6 s7 l s9 s11 s12 s13 (wP W) (.own (.p (.int (k : Int)))) (.own (.p (.str (Tx (TL.joinL [32] (W.take (k + 1) ++ W.drop k)))))) .no) (i := gVar 15) (j := gOp2 fAdd (gVar 15) (gC (.int 1))) (a := k) (b := k + 1) rfl rfl rfl (by omega) (by omega) (by omega)
  have z2 := two_cuts (W := W) (a := k) (b := k + 1) (by omega)
  refine seq_ok (δ' := slW ns s2 szs s4 s5 s6 s7 l s9 s11 s12 s13 (wP W) (.own (.p (.int (k : Int)))) (.own (.p (.str (Tx (TL.joinL [32] (W.take (k + 1) ++ W.drop k)))))) (.own (.p (.str (Tx (TL.joinL [32] (W.take k ++ W.drop (k + 1)))))))) (set_eq (jn_words c2 z2)) ?_
  have mem : ∀ {a b : Nat} {w : List Nat}, w ∈ W.take a ++ W.drop b → 32 ∉ w := fun {a b w} hw => by
    rcases List.mem_append.mp hw with z | z
    · exact hno w (List.mem_of_mem_take z)
    · exact hno w (List.mem_of_mem_drop z)
  have l1 : (W.take (k + 1) ++ W.drop k).length = W.length + 1 := by simp; omega
  have l2 : (W.take k ++ W.drop (k + 1)).length = W.length - 1 := by simp; omega
  have b1 := told_words hs (ws := W.take (k + 1) ++ W.drop k) (by intro z; rw [z] at l1; simp at l1) (fun w hw => mem hw) z1 (by omega)
  have b2 := told_words hs (ws := W.take k ++ W.drop (k + 1)) (by intro z; rw [z] at l2; simp at l2; omega) (fun w hw => mem hw) z2 (by omega)
  have b3 : m__law_told [.p (.str ""), .p (szP szs)] = .ok (.p .non) := by
    rw [lit_e]
    exact told_err (v_bad1 (by simp) hs (by show 1 ≠ _; omega))
  generalize TL.joinL [32] (W.take (k + 1) ++ W.drop k) = j1 at *
  generalize TL.joinL [32] (W.take k ++ W.drop (k + 1)) = j2 at *
  have f : ∀ {g : GE} {δ : Sl}, g δ = .ok (.own (.p .non)) → gTB (gOp2 (fB (fIsN true)) g (gC .non)) δ = .ok false := fun h => tb_eq (op2_eq h rfl rfl)
  have ft : ∀ {g : GE} {δ : Sl}, g δ = .ok (.own (.p .non)) → gOp2 (fB (fIsN false)) g (gC .non) δ = .ok (.own (.p (.bl true))) := fun h => op2_eq h rfl rfl
  refine seq_ok (if_eqF (or_eqF (f (fn_val (rs := [.own (.p (.str (Tx j1))), .own (.p (szP szs))]) rfl rfl b1)) (or_eqF (f (fn_val (rs := [.own (.p (.str (Tx j2))), .own (.p (szP szs))]) rfl rfl b2)) (f (fn_val (rs := [.own (.p (.str "")), .own (.p (szP szs))]) rfl rfl b3)))) rfl) ?_
  refine w_of (v := Fl.ret (.p (.bl true))) ?_ hQ
  exact ret_eq (last_ok hs1 hs9 rfl rfl hb)
theorem m_law_wp (ns : List Int) (h : ns.length ≤ 63) : Wp (m_law [.scr ns]) (fun d => d = .p (.bl true)) fun _ _ => False := by
  have hb := begin_ok h
  refine fn_wp ?_
  unfold g_law
  refine seq_ok (δ' := sl4 ns .no .no .no .no) (by unfold sl4; simp [startS, DL.gCons, DL.gNil, gC, gVar, gOp1, gOp2, gSet, gFn, gCall, DL.gTup, DL.gLst, gTB, gTru, gIf, gIfS, gOr, gAnd, gNot, gOrV, gAndV, gNotV, gRet, gRetV, gNext, gIsi, gIsE, gExpr, gChain, gRaise, gSeq, gFor, gForL, gSeqI, R.items, gSeqL, R.itemsL, gRevL, gRevI, fLtA, gForV, gSl, gPart, gNoPart, gRangeI, fRange1, fRange2, range_2, range_3, range_4, range_5, gLc, lcL, gYes, wipeS, Rn.noErr, Rn.noErrS, gTry, gTryW, plains, owns, fB, fIntB, fIx, fAdd, iSub, fInt, fIntC, fMul, fNeg, fIsN, fEqB, fTru, fLen, fTuple, fList, fTru, P.scal, P.seq, D.bool?, R.d, lift, Rn.bind, Rn.mapErr, Rn.bind_ite, Rn.mapErr_ite, tryW_ite, atI, ixN, Tg.set, tabS, Fl.map, outEx, S.noExn, m__law_begin, m__law_take, take_ok, D.ty?, tyB, hb]) ?_
  refine seq_wp (fun δ => ∃ m : Nat, 1 ≤ m ∧ m ≤ 60 ∧ δ = sl4 ns (.own (.p (.int (m : Int)))) .no .no .no) (draw_most ns fun m h1 h2 => ⟨m, h1, h2, rfl⟩) ?_
  rintro _ ⟨m, hm1, hm2, rfl⟩
  refine seq_wp (fun δ => ∃ szs : List Nat, 1 ≤ szs.length ∧ szs.length ≤ 8 ∧ (∀ n ∈ szs, 1 ≤ n ∧ n ≤ 60) ∧ δ = sl4 ns (.own (.p (.int (m : Int)))) (.own (.p (szP szs))) .no .no) (draw_sizes ns m hm1 hm2 fun szs h1 h2 h3 => ⟨szs, h1, h2, h3, rfl⟩) ?_
  rintro _ ⟨szs, hs1, hs2, hs3, rfl⟩
  generalize (S.own (.p (.int (m : Int)))) = s2
  refine seq_wp (fun δ => ∃ rows : List (List Int), szO rows = szs ∧ Rws rows ∧ δ = sl4 ns s2 (.own (.p (szP szs))) (.own (.p (.tup (rows.map rowP)))) .no) (draw_rows ns s2 szs hs1 hs2 hs3 fun rows h1 h2 => ⟨rows, h1, h2, rfl⟩) ?_
  rintro _ ⟨rows, rfl, Rr, rfl⟩
  refine seq_wp (fun δ => ∃ s : Nat, Z 160 (s : Int) ∧ δ = sl4 ns s2 (.own (.p (szP (szO rows)))) (.own (.p (.tup (rows.map rowP)))) (.own (.p (.int (s : Int))))) (draw_steps ns s2 _ _ fun s zs => ⟨s, zs, rfl⟩) ?_
  rintro _ ⟨s, zs, rfl⟩
  have L := ln_ok Rr zs
  have tle := text_le Rr zs
  have zN := Nn_z s rows
  have lN := numL_len' zN
  rw [Int.natAbs_natCast] at lN
  have lcl : lcheck.length = 5 := rfl
  -- the text
  have st6 : gSet 6 (gOp2 fAdd (gC (.str "step ")) (gCall fStrc (DL.gCons (gVar 5) DL.gNil))) (sl4 ns s2 (.own (.p (szP (szO rows)))) (.own (.p (.tup (rows.map rowP)))) (.own (.p (.int (s : Int))))) = .ok (.nx (slT (.bor none (.scr ns)) (.own .orc) s2 (.own (.p (szP (szO rows)))) (.own (.p (.tup (rows.map rowP)))) (.own (.p (.int (s : Int)))) (textOf s []) .no)) := by
    have sc := strc_tx zs
    rw [strL_nat] at sc
    have ls := numL_len' zs
    rw [Int.natAbs_natCast] at ls
    have ad := add_tx3 (a := gC (.str "step ")) (b := gCall fStrc (DL.gCons (gVar 5) DL.gNil)) (δ := sl4 ns s2 (.own (.p (szP (szO rows)))) (.own (.p (.tup (rows.map rowP)))) (.own (.p (.int (s : Int))))) (l := lstep ++ [32]) (m := TL.numL s) (by rw [lit_step2]; rfl) (call_eq (rs := [.own (.p (.int (s : Int)))]) rfl sc) (by decide) (by omega)
    have e : lstep ++ [32] ++ TL.numL s = textOf s [] := by
      rw [List.append_assoc]
      rfl
    rw [e] at ad
    exact set_eq ad
  refine seq_ok st6 ?_
  obtain ⟨s7', lp⟩ := loopT (s0 := .bor none (.scr ns)) (s1 := .own .orc) (s2 := s2) (s3 := .own (.p (szP (szO rows)))) (s4 := .own (.p (.tup (rows.map rowP)))) (s5 := .own (.p (.int (s : Int)))) (s := s) rows [] .no Rr.r (by
    have h1 := text_len zs [] (by simp)
    rw [List.length_nil] at h1
    have := Rr.n
    omega)
  rw [List.nil_append] at lp
  have fv : gForV (.one 7) 4 bodyT (slT (.bor none (.scr ns)) (.own .orc) s2 (.own (.p (szP (szO rows)))) (.own (.p (.tup (rows.map rowP)))) (.own (.p (.int (s : Int)))) (textOf s []) .no) = gForL (.one 7) bodyT (rows.map rowP) (slT (.bor none (.scr ns)) (.own .orc) s2 (.own (.p (szP (szO rows)))) (.own (.p (.tup (rows.map rowP)))) (.own (.p (.int (s : Int)))) (textOf s []) .no) := rfl
  refine seq_ok (fv.trans lp) ?_
  have vj := v_journal Rr zs
  have vc := v_check (l := textOf s rows) (by omega) text_small2
  have vlc := v_lcheck (l := textOf s rows) (by omega) text_small2
  have vg := told_ok (v_good (l := lnOf (textOf s rows)) (s := s) (N := Nn s rows) (rows := rows) (by
    have := numN_len (textOf s rows)
    unfold lnOf
    simp
    omega) (fun c hc => by have := lnOf_small L.sm c hc; omega) Rr zs (by rw [sp_ln, sp_text]; rfl) rfl)
  have sc2 := strc_tx zN
  rw [strL_nat] at sc2
  have hsz : 1 ≤ (szO rows).length ∧ (szO rows).length ≤ 900 := ⟨hs1, by omega⟩
  have eqp := eq_pair true (s : Int) rows
  generalize hP : P.tup (rows.map rowP) = rp at *
  -- the line
  have st8 : gSet 8 (gOp2 fAdd (gOp2 fAdd (gVar 6) (gC (.str " check "))) (gCall fStrc (DL.gCons (gFn 1 m__law_check (DL.gCons (gVar 6) DL.gNil)) DL.gNil))) (slT (.bor none (.scr ns)) (.own .orc) s2 (.own (.p (szP (szO rows)))) (.own (.p rp)) (.own (.p (.int (s : Int)))) (textOf s rows) s7') = .ok (.nx [.bor none (.scr ns), .own .orc, s2, .own (.p (szP (szO rows))), .own (.p rp), .own (.p (.int (s : Int))), .own (.p (.str (Tx (textOf s rows)))), s7', .own (.p (.str (Tx (lnOf (textOf s rows))))), .no, .no, .no, .no, .no, .no, .no, .no, .no, .no, .no, .no]) := by
    have ad := add_tx3 (add_tx3 (a := gVar 6) (b := gC (.str " check ")) (δ := slT (.bor none (.scr ns)) (.own .orc) s2 (.own (.p (szP (szO rows)))) (.own (.p rp)) (.own (.p (.int (s : Int)))) (textOf s rows) s7') (l := textOf s rows) (m := 32 :: lcheck ++ [32]) rfl (by rw [lit_chk]; rfl) (by omega) (by decide)) (b := gCall fStrc (DL.gCons (gFn 1 m__law_check (DL.gCons (gVar 6) DL.gNil)) DL.gNil)) (m := TL.numL (Nn s rows)) (call_eq (rs := [.own (.p (.int ((Nn s rows : Nat) : Int)))]) (cons_eq (fn_val (rs := [.own (.p (.str (Tx (textOf s rows))))]) rfl rfl vlc) rfl) sc2) (by simp; omega) (by omega)
    rw [← lnOf_eq] at ad
    exact set_eq ad
  refine seq_ok st8 ?_
  generalize hA : textOf s rows = A at *
  have hl1 : (lnOf A).length ≤ 40100 := by
    have := numN_len A
    unfold lnOf
    simp
    omega
  generalize hNn : Nn s rows = N at *
  have st9 : gSet 9 (gFn 2 m_journal_line (DL.gCons (gVar 5) (DL.gCons (gVar 4) DL.gNil))) [.bor none (.scr ns), .own .orc, s2, .own (.p (szP (szO rows))), .own (.p rp), .own (.p (.int (s : Int))), .own (.p (.str (Tx A))), s7', .own (.p (.str (Tx (lnOf A)))), .no, .no, .no, .no, .no, .no, .no, .no, .no, .no, .no, .no] = .ok (.nx [.bor none (.scr ns), .own .orc, s2, .own (.p (szP (szO rows))), .own (.p rp), .own (.p (.int (s : Int))), .own (.p (.str (Tx A))), s7', .own (.p (.str (Tx (lnOf A)))), .own (.p (.str (Tx (lnOf A ++ [10])))), .no, .no, .no, .no, .no, .no, .no, .no, .no, .no, .no]) :=
    set_eq (fn_val (rs := [.own (.p (.int (s : Int))), .own (.p rp)]) rfl rfl vj)
  refine seq_ok st9 ?_
  generalize hδ : [S.bor none (D.scr ns), .own .orc, s2, .own (.p (szP (szO rows))), .own (.p rp), .own (.p (.int (s : Int))), .own (.p (.str (Tx A))), s7', .own (.p (.str (Tx (lnOf A)))), .own (.p (.str (Tx (lnOf A ++ [10])))), .no, .no, .no, .no, .no, .no, .no, .no, .no, .no, .no] = δ
  have g3 : gVar 3 δ = .ok (.own (.p (szP (szO rows)))) := by rw [← hδ]; rfl
  have g4 : gVar 4 δ = .ok (.own (.p rp)) := by rw [← hδ]; rfl
  have g5 : gVar 5 δ = .ok (.own (.p (.int (s : Int)))) := by rw [← hδ]; rfl
  have g6 : gVar 6 δ = .ok (.own (.p (.str (Tx A)))) := by rw [← hδ]; rfl
  have g8 : gVar 8 δ = .ok (.own (.p (.str (Tx (lnOf A))))) := by rw [← hδ]; rfl
  have g9 : gVar 9 δ = .ok (.own (.p (.str (Tx (lnOf A ++ [10]))))) := by rw [← hδ]; rfl
  have gi : gNot (gTru (gIsi "str" (gVar 9))) δ = .ok false := by
    refine not_eq (k := true) (tru_eq ?_)
    unfold gIsi
    rw [g9]
    rfl
  have nl := add_tx3 (a := gVar 8) (b := gC (.str "\n")) (δ := δ) (l := lnOf A) (m := [10]) g8 (by rw [lit_nl]; rfl) (by omega) (by simp)
  have t1 : gTB (gOp2 (fB (fEqB true)) (gVar 9) (gOp2 fAdd (gVar 8) (gC (.str "\n")))) δ = .ok false := tb_eq (op2_eq g9 nl ((eq_tx true (lnOf A ++ [10]) (lnOf A ++ [10])).trans (by simp)))
  have nes : ∀ c : Int, fB (fEqB true) (.p (.int c)) (.p (.int c)) = .ok (.own (.p (.bl false))) := fun c => by
    rw [ne_ints]
    simp
  have t2 : gTB (gOp2 (fB (fEqB true)) (gFn 1 m_check_number (DL.gCons (gVar 6) DL.gNil)) (gFn 1 m__law_check (DL.gCons (gVar 6) DL.gNil))) δ = .ok false := tb_eq (op2_eq (fn_val (rs := [.own (.p (.str (Tx A)))]) (cons_eq g6 rfl) rfl vc) (fn_val (rs := [.own (.p (.str (Tx A)))]) (cons_eq g6 rfl) rfl vlc) (nes _))
  refine seq_ok (if_eqF (or_eqF gi (or_eqF t1 t2)) rfl) ?_
  have tp : DL.gTup (DL.gCons (gVar 5) (DL.gCons (gVar 4) DL.gNil)) δ = .ok (.own (.p (.tup [.int (s : Int), rp]))) := by
    unfold DL.gTup
    rw [cons_eq g5 (cons_eq g4 (rfl : DL.gNil δ = .ok []))]
    rfl
  refine seq_ok (if_eqF (tb_eq (op2_eq (fn_val (rs := [.own (.p (.str (Tx (lnOf A)))), .own (.p (szP (szO rows)))]) (cons_eq g8 (cons_eq g3 rfl)) rfl vg) tp (fB_eq eqp))) rfl) ?_
  refine seq_ok (δ' := slB ns s2 (szO rows) (.own (.p rp)) (.own (.p (.int (s : Int)))) (.own (.p (.str (Tx A)))) s7' (lnOf A) (.own (.p (.str (Tx (lnOf A ++ [10]))))) .no .no .no) ?_ ?_
  · rw [← hδ, lit_signs]
    rfl
  refine seq_wp (fun δ => ∃ s11 s12 s13, δ = slB ns s2 (szO rows) (.own (.p rp)) (.own (.p (.int (s : Int)))) (.own (.p (.str (Tx A)))) s7' (lnOf A) (.own (.p (.str (Tx (lnOf A ++ [10]))))) s11 s12 s13) ?_ ?_
  · refine for_wp (xs := rangeP 0 4) (gRange_ok (rs := [.own (.p (.int 4))]) rfl (range1_ok (by decide) (by decide))) ?_
    refine forL_inv (g := turnG) (fun l δ => (∀ x ∈ l, ∃ t : Int, x = .int t) ∧ ∃ s11 s12 s13, δ = slB ns s2 (szO rows) (.own (.p rp)) (.own (.p (.int (s : Int)))) (.own (.p (.str (Tx A)))) s7' (lnOf A) (.own (.p (.str (Tx (lnOf A ++ [10]))))) s11 s12 s13) ?_ ?_ _ _ ⟨fun x hx => by
      obtain ⟨i, _, rfl⟩ := List.mem_map.mp hx
      exact ⟨_, rfl⟩, _, _, _, rfl⟩
    · rintro x l _ ⟨hx, s11, s12, s13, rfl⟩
      obtain ⟨t, rfl⟩ := hx x (by simp)
      refine ⟨slB ns s2 (szO rows) (.own (.p rp)) (.own (.p (.int (s : Int)))) (.own (.p (.str (Tx A)))) s7' (lnOf A) (.own (.p (.str (Tx (lnOf A ++ [10]))))) (.own (.p (.int t))) s12 s13, rfl, ?_⟩
      refine wp_imp (v_turn L (by omega) t (Nx (fun δ => ∃ s11 s12 s13, δ = slB ns s2 (szO rows) (.own (.p rp)) (.own (.p (.int (s : Int)))) (.own (.p (.str (Tx A)))) s7' (lnOf A) (.own (.p (.str (Tx (lnOf A ++ [10]))))) s11 s12 s13) (Fn.out fun d => d = .p (.bl true)))) ?_ fun _ _ z => z
      intro fl hfl
      cases fl with
      | nx δ => obtain ⟨s11, s12, s13, e⟩ := hfl; exact ⟨fun y hy => hx y (by simp [hy]), s11, s12, s13, e⟩
      | ct δ => obtain ⟨s11, s12, s13, e⟩ := hfl; exact ⟨fun y hy => hx y (by simp [hy]), s11, s12, s13, e⟩
      | bk δ => exact hfl
      | ret d => exact hfl
    · rintro _ ⟨_, s11, s12, s13, rfl⟩
      exact ⟨_, _, _, rfl⟩
  rintro _ ⟨s11, s12, s13, rfl⟩
  exact law_tail L hsz.2 hsz.1 _ rfl
theorem m_law_ok : ∀ ns : List Int, ns.length ≤ 63 → (m_law [.scr ns]).wp (fun d => d = .p (.bl true)) fun _ _ => False := fun ns h => (m_law_wp ns h).r
end Lw
open PySem PySem.W PyProof.Rows
set_option maxHeartbeats 0 in
theorem PySem.Challenge.cw_tensorworks_k70_lines_of_the_journal_holds : PySem.Challenge.rw_tensorworks_k70_lines_of_the_journal.Holds := by
  w_on; o_law; k_head; (case hw => w_witness2)
  k_fill
  refine L2.walk_of (l := PySem.Challenge.rw_tensorworks_k70_lines_of_the_journal) (n := 63) (k := 5) (x := "script") (CX := fun w => L2.CX PySem.Challenge.pw_tensorworks_k70_lines_of_the_journal w) (sp := fun w => DL.spAny Lw.m_law _) rfl (by decide) rfl ⟨rfl, by decide, by decide⟩ (fun w h Y => PySem.W.kIn_of Y) ?F (fun _ H a ns hl hO hS => DL.law_sp hl hO hS Lw.m_law_ok) (fun _ _ _ _ _ h => DL.cx_never h)
  case F =>
    intro w mg fa h KX G hmg
    refine' DL.spAny_of (Lw.all_mk KX G hmg ?a__law_begin ?l__law_begin ?c__law_begin ?k__law_begin ?a__law_take ?l__law_take ?c__law_take ?k__law_take ?a__law_check ?l__law_check ?c__law_check ?k__law_check ?a__law_signed ?l__law_signed ?c__law_signed ?k__law_signed ?a__law_number ?l__law_number ?c__law_number ?k__law_number ?a_check_number ?l_check_number ?c_check_number ?k_check_number ?a_read_integer ?l_read_integer ?c_read_integer ?k_read_integer ?a_numbers_in ?l_numbers_in ?c_numbers_in ?k_numbers_in ?a_read_natural ?l_read_natural ?c_read_natural ?k_read_natural ?a_read_line ?l_read_line ?c_read_line ?k_read_line ?a__law_told ?l__law_told ?c__law_told ?k__law_told ?a_journal_line ?l_journal_line ?c_journal_line ?k_journal_line ?a_law ?l_law ?c_law ?k_law ?z_abs ?z_int ?z_isinstance ?z_len ?z_list ?z_min ?z_ord ?z_range ?z_str ?z_sum ?z_tuple ?ca_JournalError ?ce_JournalError ?ck_JournalError ?cs_JournalError ?ct_JournalError ?cg_JournalError ?ch_JournalError ?cd_JournalError ?cc_JournalError ?cm_JournalError ?ca_TensorError ?ce_TensorError ?ck_TensorError ?cs_TensorError ?ct_TensorError ?cg_TensorError ?ch_TensorError ?cd_TensorError ?cc_TensorError ?cm_TensorError ?o1 ?o2 ?sb_JournalError_JournalError ?sb_JournalError_TensorError ?ga_CHECK_PRIME ?ga_FIGURES ?ga_FIGURE_LIMIT)
    (case a__law_begin => k_is)
    (case l__law_begin => k_is)
    (case c__law_begin => k_is)
    (case k__law_begin => k_is)
    (case a__law_take => k_is)
    (case l__law_take => k_is)
    (case c__law_take => k_is)
    (case k__law_take => k_is)
    (case a__law_check => k_is)
    (case l__law_check => k_is)
    (case c__law_check => k_is)
    (case k__law_check => k_is)
    (case a__law_signed => k_is)
    (case l__law_signed => k_is)
    (case c__law_signed => k_is)
    (case k__law_signed => k_is)
    (case a__law_number => k_is)
    (case l__law_number => k_is)
    (case c__law_number => k_is)
    (case k__law_number => k_is)
    (case a_check_number => k_is)
    (case l_check_number => k_is)
    (case c_check_number => k_is)
    (case k_check_number => k_is)
    (case a_read_integer => k_is)
    (case l_read_integer => k_is)
    (case c_read_integer => k_is)
    (case k_read_integer => k_is)
    (case a_numbers_in => k_is)
    (case l_numbers_in => k_is)
    (case c_numbers_in => k_is)
    (case k_numbers_in => k_is)
    (case a_read_natural => k_is)
    (case l_read_natural => k_is)
    (case c_read_natural => k_is)
    (case k_read_natural => k_is)
    (case a_read_line => k_is)
    (case l_read_line => k_is)
    (case c_read_line => k_is)
    (case k_read_line => k_is)
    (case a__law_told => k_is)
    (case l__law_told => k_is)
    (case c__law_told => k_is)
    (case k__law_told => k_is)
    (case a_journal_line => k_is)
    (case l_journal_line => k_is)
    (case c_journal_line => k_is)
    (case k_journal_line => k_is)
    (case a_law => k_is)
    (case l_law => k_is)
    (case c_law => k_is)
    (case k_law => k_is)
    (case z_abs => k_is)
    (case z_int => k_is)
    (case z_isinstance => k_is)
    (case z_len => k_is)
    (case z_list => k_is)
    (case z_min => k_is)
    (case z_ord => k_is)
    (case z_range => k_is)
    (case z_str => k_is)
    (case z_sum => k_is)
    (case z_tuple => k_is)
    (case ca_JournalError => k_is)
    (case ce_JournalError => k_exc)
    (case ck_JournalError => k_is)
    (case cs_JournalError => k_is)
    (case ct_JournalError => k_is)
    (case cg_JournalError => k_is)
    (case ch_JournalError => k_is)
    (case cd_JournalError => k_is)
    (case cc_JournalError => k_is)
    (case cm_JournalError => k_is)
    (case ca_TensorError => k_is)
    (case ce_TensorError => k_exc)
    (case ck_TensorError => k_is)
    (case cs_TensorError => k_is)
    (case ct_TensorError => k_is)
    (case cg_TensorError => k_is)
    (case ch_TensorError => k_is)
    (case cd_TensorError => k_is)
    (case cc_TensorError => k_is)
    (case cm_TensorError => k_is)
    (case o1 => k_is)
    (case o2 => k_is)
    (case sb_JournalError_JournalError => k_is)
    (case sb_JournalError_TensorError => k_is)
    (case ga_CHECK_PRIME => k_is)
    (case ga_FIGURES => k_is)
    (case ga_FIGURE_LIMIT => k_is)
