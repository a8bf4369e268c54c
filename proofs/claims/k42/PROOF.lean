import PyProof.Rows.All
import HandS.ForMost
import HandS.Exc
import HandS.TryOnly
import HandS.ExcOwn
import HandS.Wide
import HandS.IsInst
import HandS.WordsExc
import HandS.TupAny
import HandS.WideBits
import HandS.SortInts
import HandS.Small
import HandS.ExcIs
import HandS.Rev
import HandS.Style
import HandS.Gcd
import HandS.Iter
import HandS.FStr
import HandS.Codes
import HandS.RaiseMore
import PyProof.StrOps2
import HandS.StrMore
import HandS.More
import PySem.Challenge.RW_tensorworks_k42_lives_of_buffers
set_option Elab.async false
set_option linter.all false
set_option maxRecDepth 100000
/-! DLa: plain data, what stands for it in the heap, the slots of a def, runs with draws. -/
namespace DL
open PySem PySem.Spec PyProof.Rows L2

/-! ### data -/
inductive P where
  | non | bl (b : Bool) | int (i : Int) | str (x : Str) | tup (xs : List P) | fl (ns : List Int)
inductive D where
  | p (x : P) | lst (xs : List P) | ls (xs : List D) | tp (xs : List D) | dic (kvs : List (Key × P)) | dit (kvs : List (List Key × P)) | orc | scr (ns : List Int)
abbrev D.int (i : Int) : D := .p (.int i)
abbrev D.str (x : Str) : D := .p (.str x)
abbrev D.bl (b : Bool) : D := .p (.bl b)
abbrev D.non : D := .p .non

section
variable (K : PySem.W.Frag) (H : Hp)
mutual
def RepP : P → V → Prop
  | .non, v => v = .non
  | .bl b, v => v = .bl b
  | .int i, v => v = .int i
  | .str x, v => v = .str x
  | .fl ns, v => ∃ a o, v = .ref a ∧ H a = some (.frz o (.lst (ns.map V.int)))
  | .tup xs, v => ∃ a vs, v = .ref a ∧ SqT K H a vs ∧ RepPs xs vs
def RepPs : List P → List V → Prop
  | [], vs => vs = []
  | x :: xs, vs => ∃ v r, vs = v :: r ∧ RepP x v ∧ RepPs xs r
end
def RepKs {κ : Type} : List (κ × P) → List (κ × V) → Prop
  | [], ws => ws = []
  | (k, x) :: xs, ws => ∃ v r, ws = (k, v) :: r ∧ RepP K H x v ∧ RepKs xs r
/-- the list of draws at a: the script's copy at s, three ints -/
def OrcAt (a s : Addr) (h : Heap) : Prop := ∃ (i b z : Int) (t1 t2 t3 : Tok) (n : Nat), h.get? a = some { cls := .type "list", data := .seq #[.ref s, .int i t1, .int b t2, .int z t3] n } ∧ 0 ≤ i ∧ 0 ≤ b ∧ 0 ≤ z ∧ z < 2147483647
mutual
def RepD : D → V → List Addr → Prop
  | .p x, v, fp => RepP K H x v ∧ fp = []
  | .lst xs, v, fp => ∃ a vs, v = .ref a ∧ H a = some (.lst vs) ∧ fp = [a] ∧ RepPs K H xs vs
  | .ls xs, v, fp => ∃ a vs f, v = .ref a ∧ H a = some (.lst vs) ∧ fp = a :: f ∧ RepDs xs vs f
  | .tp xs, v, fp => ∃ a vs, v = .ref a ∧ SqT K H a vs ∧ RepDs xs vs fp
  | .dic kvs, v, fp => ∃ a ws, v = .ref a ∧ H a = some (.dK ws) ∧ fp = [a] ∧ RepKs K H kvs ws
  | .dit kvs, v, fp => ∃ a ws, v = .ref a ∧ H a = some (.dT ws) ∧ fp = [a] ∧ RepKs K H kvs ws
  | .scr ns, v, fp => fp = [] ∧ ∃ a, v = .ref a ∧ ((∃ o, H a = some (.frz o (.lst (ns.map V.int)))) ∨ ∃ (o : Obj) (its : Array Value) (n : Nat), K.lookup a = some o ∧ o.cls = .type "list" ∧ o.dict = none ∧ o.data = .seq its n ∧ its.size ≤ sizeLine ∧ Vals (ns.map V.int) its.toList)
  | .orc, v, fp => ∃ a s ns, v = .ref a ∧ fp = [a, s] ∧ H a = some (.ext (OrcAt a s)) ∧ H s = some (.lst ((ns : List Int).map V.int))
def RepDs : List D → List V → List Addr → Prop
  | [], vs, fp => vs = [] ∧ fp = []
  | x :: xs, vs, fp => ∃ v r f g, vs = v :: r ∧ fp = f ++ g ∧ RepD x v f ∧ RepDs xs r g
end
end

/-! ### what stays -/
/-- tuples and what is locked stay -/
structure KT (H H' : Hp) : Prop where
  tup : ∀ a xs, Rd H a (.tup xs) → Rd H' a (.tup xs)
  frz : ∀ a o u, H a = some (.frz o u) → H' a = some (.frz o u)
theorem Same.kt {H H' : Hp} (s : Same H H') : KT H H' := ⟨fun a xs h => by
  rcases h with h | ⟨o, h⟩
  · exact .inl (s _ _ h)
  · exact .inr ⟨o, s _ _ h⟩, fun a o u h => s _ _ h⟩
theorem KT.refl (H : Hp) : KT H H := ⟨fun _ _ h => h, fun _ _ _ h => h⟩
theorem KT.trans {H H1 H2 : Hp} (a : KT H H1) (b : KT H1 H2) : KT H H2 := ⟨fun x xs h => b.tup x xs (a.tup x xs h), fun x o u h => b.frz x o u (a.frz x o u h)⟩
theorem KT.upd {H : Hp} {a : Addr} {o u : HO} (h : H a = some o) (ho : Mut (some o)) : KT H (upd H a u) := by
  refine ⟨fun b xs q => ?_, fun b o' u' q => ?_⟩
  · have ne : b ≠ a := by
      rintro rfl
      rcases q with q | ⟨_, q⟩ <;> (rw [h] at q; cases q; exact ho)
    rcases q with q | ⟨w, q⟩
    · exact .inl (by rw [upd_ne ne]; exact q)
    · exact .inr ⟨w, by rw [upd_ne ne]; exact q⟩
  · have ne : b ≠ a := by
      rintro rfl
      rw [h] at q; cases q; exact ho
    rw [upd_ne ne]; exact q
section
variable {K : PySem.W.Frag} {H H' : Hp}
theorem KT.sqt (k : KT H H') {a : Addr} {vs : List V} (h : SqT K H a vs) : SqT K H' a vs := by
  rcases h with h | h
  · exact .inl (k.tup _ _ h)
  · exact .inr h
mutual
theorem RepP.kt (k : KT H H') : ∀ (x : P) (v : V), RepP K H x v → RepP K H' x v
  | .non, v, h => h
  | .bl b, v, h => h
  | .int i, v, h => h
  | .str x, v, h => h
  | .fl ns, v, h => by
    obtain ⟨a, o, e, q⟩ := h
    exact ⟨a, o, e, k.frz _ _ _ q⟩
  | .tup xs, v, h => by
    obtain ⟨a, vs, e, q, r⟩ := h
    exact ⟨a, vs, e, k.sqt q, RepPs.kt k xs vs r⟩
theorem RepPs.kt (k : KT H H') : ∀ (xs : List P) (vs : List V), RepPs K H xs vs → RepPs K H' xs vs
  | [], vs, h => h
  | x :: xs, vs, h => by
    obtain ⟨v, r, e, h1, h2⟩ := h
    exact ⟨v, r, e, RepP.kt k x v h1, RepPs.kt k xs r h2⟩
end
theorem RepKs.kt {κ : Type} (k : KT H H') : ∀ (xs : List (κ × P)) (ws : List (κ × V)), RepKs K H xs ws → RepKs K H' xs ws
  | [], vs, h => h
  | (c, x) :: xs, vs, h => by
    obtain ⟨v, r, e, h1, h2⟩ := h
    exact ⟨v, r, e, RepP.kt k x v h1, RepKs.kt k xs r h2⟩
mutual
theorem RepD.kt (k : KT H H') : ∀ (x : D) (v : V) (fp : List Addr), (∀ a ∈ fp, ∀ o, H a = some o → H' a = some o) → RepD K H x v fp → RepD K H' x v fp
  | .p x, v, fp, _, h => ⟨RepP.kt k x v h.1, h.2⟩
  | .lst xs, v, fp, s, h => by
    obtain ⟨a, vs, e, q, e2, r⟩ := h
    subst e2
    exact ⟨a, vs, e, s a (by simp) _ q, rfl, RepPs.kt k xs vs r⟩
  | .ls xs, v, fp, s, h => by
    obtain ⟨a, vs, f, e, q, e2, r⟩ := h
    subst e2
    exact ⟨a, vs, f, e, s a (by simp) _ q, rfl, RepDs.kt k xs vs f (fun b hb => s b (by simp [hb])) r⟩
  | .tp xs, v, fp, s, h => by
    obtain ⟨a, vs, e, q, r⟩ := h
    exact ⟨a, vs, e, k.sqt q, RepDs.kt k xs vs fp s r⟩
  | .dic kvs, v, fp, s, h => by
    obtain ⟨a, ws, e, q, e2, r⟩ := h
    subst e2
    exact ⟨a, ws, e, s a (by simp) _ q, rfl, RepKs.kt k kvs ws r⟩
  | .dit kvs, v, fp, s, h => by
    obtain ⟨a, ws, e, q, e2, r⟩ := h
    subst e2
    exact ⟨a, ws, e, s a (by simp) _ q, rfl, RepKs.kt k kvs ws r⟩
  | .scr ns, v, fp, s, h => by
    obtain ⟨e, a, e2, q⟩ := h
    refine ⟨e, a, e2, ?_⟩
    rcases q with ⟨o, q⟩ | q
    · exact .inl ⟨o, k.frz _ _ _ q⟩
    · exact .inr q
  | .orc, v, fp, s, h => by
    obtain ⟨a, z, ns, e, e2, q1, q2⟩ := h
    subst e2
    exact ⟨a, z, ns, e, rfl, s a (by simp) _ q1, s z (by simp) _ q2⟩
theorem RepDs.kt (k : KT H H') : ∀ (xs : List D) (vs : List V) (fp : List Addr), (∀ a ∈ fp, ∀ o, H a = some o → H' a = some o) → RepDs K H xs vs fp → RepDs K H' xs vs fp
  | [], vs, fp, _, h => h
  | x :: xs, vs, fp, s, h => by
    obtain ⟨v, r, f, g, e, e2, h1, h2⟩ := h
    subst e2
    exact ⟨v, r, f, g, e, rfl, RepD.kt k x v f (fun b hb => s b (by simp [hb])) h1, RepDs.kt k xs r g (fun b hb => s b (by simp [hb])) h2⟩
end
end

/-! ### slots -/
/-- a slot: nothing known, one's own data, data lent (none: an argument's; some i: slot i's list while a loop walks it), the exception that a suite handles -/
inductive S where
  | no | own (d : D) | bor (t : Option Nat) (d : D) | exn
abbrev Sl := List S
/-- lent heaps; ex: the handled exception's address -/
def Rgs (ex : Option Addr) := Option Nat → Hp
def SlotR (K : PySem.W.Frag) {ex : Option Addr} (Rg : Rgs ex) (H : Hp) : S → Option V → List Addr → Prop
  | .no, _, fp => fp = []
  | .own d, ov, fp => ∃ v, ov = some v ∧ RepD K H d v fp
  | .bor t d, ov, fp => fp = [] ∧ ∃ v g, ov = some v ∧ RepD K H d v g ∧ ∀ a ∈ g, Rg t a ≠ none
  | .exn, ov, fp => fp = [] ∧ ∃ a, ex = some a ∧ ov = some (.ref a)
def SlotsR (K : PySem.W.Frag) {ex : Option Addr} (Rg : Rgs ex) (H : Hp) : Sl → L2.St → List Addr → Prop
  | [], σ, fp => σ = [] ∧ fp = []
  | s :: δ, σ, fp => ∃ ov r f g, σ = ov :: r ∧ fp = f ++ g ∧ SlotR K Rg H s ov f ∧ SlotsR K Rg H δ r g
structure SRel (K : PySem.W.Frag) (B : Hp) {ex : Option Addr} (Rg : Rgs ex) (σ : L2.St) (H : Hp) (δ : Sl) : Prop where
  same : Same B H
  sub : ∀ t, Same (Rg t) B
  ex : ∃ fp, SlotsR K Rg H δ σ fp ∧ fp.Nodup ∧ ∀ a ∈ fp, B a = none
section
variable {K : PySem.W.Frag} {B H H' : Hp} {ex : Option Addr} {Rg : Rgs ex}
theorem SlotR.kt (k : KT H H') (rg : ∀ t a, Rg t a ≠ none → ∀ o, H a = some o → H' a = some o) {s : S} {ov : Option V} {fp : List Addr} (st : ∀ a ∈ fp, ∀ o, H a = some o → H' a = some o) (h : SlotR K Rg H s ov fp) : SlotR K Rg H' s ov fp := by
  cases s with
  | no => exact h
  | exn => exact h
  | own d => obtain ⟨v, e, r⟩ := h; exact ⟨v, e, RepD.kt k d v fp st r⟩
  | bor t d =>
    obtain ⟨e, v, g, e1, r, q⟩ := h
    exact ⟨e, v, g, e1, RepD.kt k d v g (fun a ha o ho => rg t a (q a ha) o ho) r, q⟩
theorem SlotsR.kt (k : KT H H') (rg : ∀ t a, Rg t a ≠ none → ∀ o, H a = some o → H' a = some o) : ∀ {δ : Sl} {σ : L2.St} {fp : List Addr}, (∀ a ∈ fp, ∀ o, H a = some o → H' a = some o) → SlotsR K Rg H δ σ fp → SlotsR K Rg H' δ σ fp
  | [], _, _, _, h => h
  | s :: δ, _, _, st, h => by
    obtain ⟨ov, r, f, g, e, e2, h1, h2⟩ := h
    subst e2
    exact ⟨ov, r, f, g, e, rfl, h1.kt k rg (fun a ha => st a (by simp [ha])), SlotsR.kt k rg (fun a ha => st a (by simp [ha])) h2⟩
theorem SRel.grow {σ : L2.St} {δ : Sl} (h : SRel K B Rg σ H δ) (s : Same H H') : SRel K B Rg σ H' δ := by
  obtain ⟨b, u, fp, q, n, f⟩ := h
  exact ⟨b.trans s, u, fp, q.kt (Same.kt s) (fun _ a _ o e => s a o e) (fun a _ o e => s a o e), n, f⟩
/-- a slot's value -/
theorem SlotsR.get : ∀ {δ : Sl} {σ : L2.St} {fp : List Addr} {i : Nat} {s : S}, SlotsR K Rg H δ σ fp → δ[i]? = some s → ∃ ov f, σ[i]? = some ov ∧ SlotR K Rg H s ov f ∧ ∀ a ∈ f, a ∈ fp
  | [], _, _, _, _, _, e => by simp at e
  | s :: δ, _, _, 0, s', h, e => by
    obtain ⟨ov, r, f, g, e1, e2, h1, h2⟩ := h
    subst e1 e2
    obtain rfl : s = s' := by simpa using e
    exact ⟨ov, f, rfl, h1, fun a ha => by simp [ha]⟩
  | s :: δ, _, _, i + 1, s', h, e => by
    obtain ⟨ov, r, f, g, e1, e2, h1, h2⟩ := h
    subst e1 e2
    obtain ⟨ov', f', q1, q2, q3⟩ := SlotsR.get (i := i) h2 (by simpa using e)
    exact ⟨ov', f', by simpa using q1, q2, fun a ha => by simp [q3 a ha]⟩
theorem SlotsR.len : ∀ {δ : Sl} {σ : L2.St} {fp : List Addr}, SlotsR K Rg H δ σ fp → δ.length = σ.length
  | [], _, _, h => by obtain ⟨rfl, _⟩ := h; rfl
  | s :: δ, _, _, h => by
    obtain ⟨ov, r, f, g, e1, e2, h1, h2⟩ := h
    subst e1
    simp [SlotsR.len h2]
/-- a slot is set: its old part goes, the new one comes -/
theorem SlotsR.set {v : Option V} {s : S} {f' : List Addr} (hs : SlotR K Rg H s v f') : ∀ {δ : Sl} {σ : L2.St} {fp : List Addr} (i : Nat), i < δ.length → SlotsR K Rg H δ σ fp → fp.Nodup → f'.Nodup → (∀ a ∈ f', a ∉ fp) →
    ∃ fp', SlotsR K Rg H (δ.set i s) (σ.set i v) fp' ∧ fp'.Nodup ∧ ∀ a ∈ fp', a ∈ fp ∨ a ∈ f'
  | [], _, _, i, hi, _, _, _, _ => by simp at hi
  | s0 :: δ, _, _, 0, _, h, n, n', d => by
    obtain ⟨ov, r, f, g, e1, e2, h1, h2⟩ := h
    subst e1 e2
    refine ⟨f' ++ g, ⟨v, r, f', g, rfl, rfl, hs, h2⟩, ?_, fun a ha => ?_⟩
    · rw [List.nodup_append] at n ⊢
      exact ⟨n', n.2.1, fun a ha b hb e => d a ha (by simp [e, hb])⟩
    · rcases List.mem_append.mp ha with q | q
      · exact .inr q
      · exact .inl (by simp [q])
  | s0 :: δ, _, _, i + 1, hi, h, n, n', d => by
    obtain ⟨ov, r, f, g, e1, e2, h1, h2⟩ := h
    subst e1 e2
    rw [List.nodup_append] at n
    obtain ⟨fp', q1, q2, q3⟩ := SlotsR.set hs (δ := δ) i (by simpa using hi) h2 n.2.1 n' (fun a ha hb => d a ha (by simp [hb]))
    refine ⟨f ++ fp', ⟨ov, r.set i v, f, fp', rfl, rfl, h1, q1⟩, ?_, fun a ha => ?_⟩
    · rw [List.nodup_append]
      refine ⟨n.1, q2, fun a ha b hb e => ?_⟩
      subst e
      rcases q3 a hb with q | q
      · exact n.2.2 a ha a q rfl
      · exact d a q (by simp [ha])
    · rcases List.mem_append.mp ha with q | q
      · exact .inl (by simp [q])
      · rcases q3 a q with z | z
        · exact .inl (by simp [z])
        · exact .inr z
end

/-! ### runs: a value, an error, stuck, or a draw -/
inductive Rn (ε α : Type) where
  | ok (a : α) | err (c : Str) (e : ε) | bad | pick (n : Nat) (k : Nat → Rn ε α)
namespace Rn
variable {ε ε' α β : Type}
def bind : Rn ε α → (α → Rn ε β) → Rn ε β
  | .ok a, f => f a
  | .err c e, _ => .err c e
  | .bad, _ => .bad
  | .pick n k, f => .pick n fun i => (k i).bind f
instance : Monad (Rn ε) where
  pure := .ok
  bind := bind
def mapErr (f : ε → ε') : Rn ε α → Rn ε' α
  | .ok a => .ok a
  | .err c e => .err c (f e)
  | .bad => .bad
  | .pick n k => .pick n fun i => (k i).mapErr f
/-- what is wanted of a run -/
def wp : Rn ε α → (α → Prop) → (Str → ε → Prop) → Prop
  | .ok a, Q, _ => Q a
  | .err c e, _, E => E c e
  | .bad, _, _ => False
  | .pick n k, Q, E => ∀ i, i < n → (k i).wp Q E
theorem wp_mono {w : Rn ε α} {Q Q' : α → Prop} {E E' : Str → ε → Prop} (h : w.wp Q E) (hq : ∀ a, Q a → Q' a) (he : ∀ c e, E c e → E' c e) : w.wp Q' E' := by
  induction w with
  | ok a => exact hq a h
  | err c e => exact he c e h
  | bad => exact h
  | pick n k ih => exact fun i hi => ih i (h i hi)
theorem wp_bind {w : Rn ε α} {f : α → Rn ε β} {Q : β → Prop} {E : Str → ε → Prop} : (w.bind f).wp Q E ↔ w.wp (fun a => (f a).wp Q E) E := by
  induction w with
  | ok a => exact Iff.rfl
  | err c e => exact Iff.rfl
  | bad => exact Iff.rfl
  | pick n k ih => exact ⟨fun h i hi => (ih i).mp (h i hi), fun h i hi => (ih i).mpr (h i hi)⟩
theorem wp_mapErr {w : Rn ε α} {f : ε → ε'} {Q : α → Prop} {E : Str → ε' → Prop} : (w.mapErr f).wp Q E ↔ w.wp Q (fun c e => E c (f e)) := by
  induction w with
  | ok a => exact Iff.rfl
  | err c e => exact Iff.rfl
  | bad => exact Iff.rfl
  | pick n k ih => exact ⟨fun h i hi => (ih i).mp (h i hi), fun h i hi => (ih i).mpr (h i hi)⟩
@[simp] theorem ok_bind (a : α) (f : α → Rn ε β) : (Rn.ok a : Rn ε α).bind f = f a := rfl
@[simp] theorem err_bind (c : Str) (e : ε) (f : α → Rn ε β) : (Rn.err c e : Rn ε α).bind f = .err c e := rfl
@[simp] theorem bad_bind (f : α → Rn ε β) : (Rn.bad : Rn ε α).bind f = .bad := rfl
@[simp] theorem pick_bind (n : Nat) (k : Nat → Rn ε α) (f : α → Rn ε β) : (Rn.pick n k).bind f = .pick n fun i => (k i).bind f := rfl
end Rn

/-- what an expression gives: new and one's own, or a look at what stands -/
inductive R where
  | own (d : D) | vw (d : D)
def R.d : R → D
  | .own d => d
  | .vw d => d
/-- the value of r, made from H on -/
def RepR (K : PySem.W.Frag) (H H' : Hp) : R → V → Prop
  | .own d, v => ∃ fp, RepD K H' d v fp ∧ fp.Nodup ∧ ∀ a ∈ fp, H a = none
  | .vw d, v => ∃ fp, RepD K H' d v fp
section
variable {K : PySem.W.Frag} {H H1 H2 : Hp} {r : R} {v : V}
theorem RepR.look (h : RepR K H H1 r v) : ∃ fp, RepD K H1 r.d v fp := by
  cases r with
  | own d => obtain ⟨fp, q, _⟩ := h; exact ⟨fp, q⟩
  | vw d => exact h
theorem RepR.grow (h : RepR K H H1 r v) (s : Same H1 H2) : RepR K H H2 r v := by
  cases r with
  | own d => obtain ⟨fp, q, n, f⟩ := h; exact ⟨fp, RepD.kt (Same.kt s) d v fp (fun a _ o e => s a o e) q, n, f⟩
  | vw d => obtain ⟨fp, q⟩ := h; exact ⟨fp, RepD.kt (Same.kt s) d v fp (fun a _ o e => s a o e) q⟩
theorem RepR.back {H0 : Hp} (h : RepR K H H1 r v) (s : Same H0 H) : RepR K H0 H1 r v := by
  cases r with
  | own d => obtain ⟨fp, q, n, f⟩ := h; exact ⟨fp, q, n, fun a ha => s.free (f a ha)⟩
  | vw d => exact h
theorem RepR.plain {x : P} (h : RepP K H1 x v) : RepR K H H1 (.own (.p x)) v := ⟨[], ⟨h, rfl⟩, List.nodup_nil, fun _ z => nomatch z⟩
theorem RepR.getP {x : P} (h : RepR K H H1 r v) (e : r.d = .p x) : RepP K H1 x v := by
  obtain ⟨fp, q⟩ := h.look
  rw [e] at q
  exact q.1
end

/-! ### readings -/
/-- the context of readings: the written part, the module's names, what is wanted of errors -/
structure DC where
  K : PySem.W.Frag
  mg : Str → Option Value
  W : WX
  ex : Option Addr
abbrev GE := Sl → Rn Unit R
def tD (c : DC) (g : GE) : TE := fun σ H Q => ∃ (B : Hp) (Rg : Rgs c.ex) (δ : Sl), SRel c.K B Rg σ H δ ∧
  (g δ).wp (fun r => ∀ v H', Same H H' → RepR c.K H H' r v → Q v H') fun cl _ => ∀ C H', c.mg cl = some (.ref C) → Same H H' → c.W (.ref C) none σ H'
theorem PE.imp {X : Cx} {e : Expr} {t t' : TE} (h : PE X e t) (m : ∀ σ H Q, t' σ H Q → t σ H Q) : PE X e t' := ⟨fun pins s σ H Q I q => h.run pins s σ H Q I (m σ H Q q)⟩
theorem PT.imp {X : Cx} {e : Expr} {t t' : TT} (h : PT X e t) (m : ∀ σ H Q, t' σ H Q → t σ H Q) : PT X e t' := ⟨fun pins s σ H Q I q => h.run pins s σ H Q I (m σ H Q q)⟩
theorem PSs.imp {X : Cx} {e : List Stmt} {t t' : TS} (h : PSs X e t) (m : ∀ D σ H, t' D σ H → t D σ H) : PSs X e t' := ⟨fun pins s σ H D I q => h.run pins s σ H D I (m D σ H q)⟩
theorem PS.imp {X : Cx} {e : Stmt} {t t' : TS} (h : PS X e t) (m : ∀ D σ H, t' D σ H → t D σ H) : PS X e t' := ⟨fun pins s σ H D I q => h.run pins s σ H D I (m D σ H q)⟩

def gOp2 (f : D → D → Rn Unit R) (a b : GE) : GE := fun δ => (a δ).bind fun x => (b δ).bind fun y => f x.d y.d
def gOp1 (f : D → Rn Unit R) (a : GE) : GE := fun δ => (a δ).bind fun x => f x.d
/-- the end of a value rule: f's run gives what r asks -/
def Gives (c : DC) (w : Rn Unit R) (H : Hp) (t : VK → Prop) : Prop := ∀ Q : VK, w.wp (fun r => ∀ v H', Same H H' → RepR c.K H H' r v → Q v H') (fun _ _ => False) → t Q

theorem tD_seq {c : DC} {σ : L2.St} {B H : Hp} {Rg : Rgs c.ex} {δ : Sl} {g : GE} {α : Type} {f : R → Rn Unit α} {Q : α → Hp → Hp → Prop} (S : SRel c.K B Rg σ H δ)
    (hQ : ∀ a H1 H2, Same H H1 → Q a H H2 → Q a H1 H2)
    (h : ((g δ).bind f).wp (fun a => ∀ H', Same H H' → Q a H H') fun cl _ => ∀ C H', c.mg cl = some (.ref C) → Same H H' → c.W (.ref C) none σ H')
    {Q' : VK} (k : ∀ r v H1, Same H H1 → RepR c.K H H1 r v → SRel c.K B Rg σ H1 δ → (f r).wp (fun a => ∀ H', Same H1 H' → Q a H1 H') (fun cl _ => ∀ C H', c.mg cl = some (.ref C) → Same H1 H' → c.W (.ref C) none σ H') → Q' v H1) :
    tD c g σ H Q' := by
  refine ⟨B, Rg, δ, S, Rn.wp_mono (Rn.wp_bind.mp h) (fun r q v H1 s1 rv => k r v H1 s1 rv (S.grow s1) (Rn.wp_mono q (fun r q H' s' => hQ _ _ _ s1 (q H' (s1.trans s'))) fun cl _ q C H' e s' => q C H' e (s1.trans s'))) fun _ _ q => q⟩
end DL
/-! DLb: derivations of expressions: names, constants, operators, tests, displays, subscripts. -/
namespace DL
open PySem PySem.Spec PyProof.Rows L2

/-- the handled exception's address, in an except suite -/
def exOf (X : Cx) : Option Addr := match X.pn with
  | [] => none
  | p :: _ => if X.calm = true then none else some p.1
theorem exOf_calm {X : Cx} (h : X.calm = true) : exOf X = none := by
  unfold exOf
  split
  · rfl
  · rw [if_pos h]
abbrev dc (X : Cx) (W : WX) : DC := ⟨X.K, X.mg, W, exOf X⟩
theorem dc_calm {X : Cx} {W : WX} (h : X.calm = true) : dc X W = ⟨X.K, X.mg, W, none⟩ := by unfold dc; rw [exOf_calm h]
def DE (W : WX) (X : Cx) (e : Expr) (g : GE) : Prop := PE X e (tD (dc X W) g)
abbrev GT := Sl → Rn Unit Bool
def tDT (c : DC) (g : GT) : TT := fun σ H Q => ∃ (B : Hp) (Rg : Rgs c.ex) (δ : Sl), SRel c.K B Rg σ H δ ∧
  (g δ).wp (fun b => ∀ H', Same H H' → Q b H') fun cl _ => ∀ C H', c.mg cl = some (.ref C) → Same H H' → c.W (.ref C) none σ H'
def DT (W : WX) (X : Cx) (e : Expr) (g : GT) : Prop := PT X e (tDT (dc X W) g)
def DW (W : WX) (X : Cx) (e : Expr) (g : GT) : Prop := PW X e (tDT (dc X W) g)
def RepRs (K : PySem.W.Frag) (H' : Hp) : List R → List V → List Addr → Prop
  | [], vs, fp => vs = [] ∧ fp = []
  | .own d :: rs, vs, fp => ∃ v r f g, vs = v :: r ∧ fp = f ++ g ∧ RepD K H' d v f ∧ RepRs K H' rs r g
  | .vw d :: rs, vs, fp => ∃ v r f, vs = v :: r ∧ RepD K H' d v f ∧ RepRs K H' rs r fp
abbrev GA := Sl → Rn Unit (List R)
def RepA (K : PySem.W.Frag) (H H' : Hp) (rs : List R) (vs : List V) : Prop := ∃ fp, RepRs K H' rs vs fp ∧ fp.Nodup ∧ ∀ a ∈ fp, H a = none
def tDA (c : DC) (g : GA) : TA := fun σ H Q => ∃ (B : Hp) (Rg : Rgs c.ex) (δ : Sl), SRel c.K B Rg σ H δ ∧
  (g δ).wp (fun rs => ∀ vs H', Same H H' → RepA c.K H H' rs vs → Q vs H') fun cl _ => ∀ C H', c.mg cl = some (.ref C) → Same H H' → c.W (.ref C) none σ H'
def DA (W : WX) (X : Cx) (es : List Expr) (g : GA) : Prop := PA X es (tDA (dc X W) g)
theorem PA.imp {X : Cx} {es : List Expr} {t t' : TA} (h : PA X es t) (m : ∀ σ H Q, t' σ H Q → t σ H Q) : PA X es t' := ⟨fun pos pins s σ H Q I q => h.run pos pins s σ H Q I (m σ H Q q)⟩
theorem PW.imp {X : Cx} {e : Expr} {t t' : TT} (h : PW X e t) (m : ∀ σ H Q, t' σ H Q → t σ H Q) : PW X e t' := ⟨fun wh pins s σ H Q I q => h.run wh pins s σ H Q I (m σ H Q q)⟩

section
variable {c : DC} {σ : L2.St} {H : Hp} {Q : VK}
/-- a value at once -/
theorem tD_in {B : Hp} {Rg : Rgs c.ex} {δ : Sl} {g : GE} (S : SRel c.K B Rg σ H δ) (h : (g δ).wp (fun r => ∀ v H', Same H H' → RepR c.K H H' r v → Q v H') fun cl _ => ∀ C H', c.mg cl = some (.ref C) → Same H H' → c.W (.ref C) none σ H') : tD c g σ H Q := ⟨B, Rg, δ, S, h⟩
/-- as tD_seq, where a value is wanted -/
theorem tD_val {B : Hp} {Rg : Rgs c.ex} {δ : Sl} {g : GE} {f : R → Rn Unit R} (S : SRel c.K B Rg σ H δ)
    (h : ((g δ).bind f).wp (fun r => ∀ v H', Same H H' → RepR c.K H H' r v → Q v H') fun cl _ => ∀ C H', c.mg cl = some (.ref C) → Same H H' → c.W (.ref C) none σ H')
    {Q' : VK} (k : ∀ r v H1, Same H H1 → RepR c.K H H1 r v → SRel c.K B Rg σ H1 δ → (f r).wp (fun r => ∀ v H', Same H1 H' → RepR c.K H1 H' r v → Q v H') (fun cl _ => ∀ C H', c.mg cl = some (.ref C) → Same H1 H' → c.W (.ref C) none σ H') → Q' v H1) : tD c g σ H Q' := by
  refine tD_seq (Q := fun r H H' => ∀ v, RepR c.K H H' r v → Q v H') S (fun r H1 H2 s q v rv => q v (rv.back s)) (Rn.wp_mono h (fun r q H' s v rv => q v H' s rv) fun _ _ q => q) fun r v H1 s1 rv S1 w => k r v H1 s1 rv S1 (Rn.wp_mono w (fun r q v H' s rv => q H' s v rv) fun _ _ q => q)
theorem tD_bool {B : Hp} {Rg : Rgs c.ex} {δ : Sl} {g : GE} {f : R → Rn Unit Bool} {Qb : Bool → Hp → Prop} (S : SRel c.K B Rg σ H δ)
    (h : ((g δ).bind f).wp (fun b => ∀ H', Same H H' → Qb b H') fun cl _ => ∀ C H', c.mg cl = some (.ref C) → Same H H' → c.W (.ref C) none σ H')
    {Q' : VK} (k : ∀ r v H1, Same H H1 → RepR c.K H H1 r v → SRel c.K B Rg σ H1 δ → (f r).wp (fun b => ∀ H', Same H1 H' → Qb b H') (fun cl _ => ∀ C H', c.mg cl = some (.ref C) → Same H1 H' → c.W (.ref C) none σ H') → Q' v H1) : tD c g σ H Q' :=
  tD_seq (Q := fun b _ H' => Qb b H') S (fun _ _ _ _ q => q) h k
theorem tDT_seq {B : Hp} {Rg : Rgs c.ex} {δ : Sl} {g : GT} {α : Type} {f : Bool → Rn Unit α} {Qa : α → Hp → Hp → Prop} (S : SRel c.K B Rg σ H δ)
    (hQ : ∀ a H1 H2, Same H H1 → Qa a H H2 → Qa a H1 H2)
    (h : ((g δ).bind f).wp (fun a => ∀ H', Same H H' → Qa a H H') fun cl _ => ∀ C H', c.mg cl = some (.ref C) → Same H H' → c.W (.ref C) none σ H')
    {Q' : Bool → Hp → Prop} (k : ∀ b H1, Same H H1 → SRel c.K B Rg σ H1 δ → (f b).wp (fun a => ∀ H', Same H1 H' → Qa a H1 H') (fun cl _ => ∀ C H', c.mg cl = some (.ref C) → Same H1 H' → c.W (.ref C) none σ H') → Q' b H1) : tDT c g σ H Q' :=
  ⟨B, Rg, δ, S, Rn.wp_mono (Rn.wp_bind.mp h) (fun b q H1 s1 => k b H1 s1 (S.grow s1) (Rn.wp_mono q (fun r q H' s' => hQ r H1 H' s1 (q H' (s1.trans s'))) fun cl _ q C H' e s' => q C H' e (s1.trans s'))) fun _ _ q => q⟩
end

section
variable {W : WX} {X : Cx} {a b e : Expr} {ga gb : GE} {pos : Pos}

/-! ### names, constants -/
def gVar (i : Nat) : GE := fun δ => match δ[i]? with
  | some (.own (.p x)) => .ok (.own (.p x))
  | some (.bor _ (.p x)) => .ok (.own (.p x))
  | some (.own d) => .ok (.vw d)
  | some (.bor _ d) => .ok (.vw d)
  | _ => .bad
theorem SRel.slot {K : PySem.W.Frag} {B H : Hp} {ex : Option Addr} {Rg : Rgs ex} {σ : L2.St} {δ : Sl} {i : Nat} {s : S} {d : D} (S0 : SRel K B Rg σ H δ) (e : δ[i]? = some s) (hs : s = .own d ∨ ∃ t, s = .bor t d) : ∃ v g, σ[i]? = some (some v) ∧ RepD K H d v g := by
  obtain ⟨_, _, fp, q, _, _⟩ := S0
  obtain ⟨ov, f, e1, r, _⟩ := q.get e
  rcases hs with rfl | ⟨t, rfl⟩
  · obtain ⟨v, rfl, r⟩ := r
    exact ⟨v, f, e1, r⟩
  · obtain ⟨_, v, g, rfl, r, _⟩ := r
    exact ⟨v, g, e1, r⟩
theorem gVar_cases {i : Nat} {δ : Sl} {Q : R → Prop} {E : Str → Unit → Prop} (h : (gVar i δ).wp Q E) : ∃ s d, δ[i]? = some s ∧ (s = .own d ∨ ∃ t, s = .bor t d) ∧ ((∃ x, d = .p x ∧ Q (.own d)) ∨ Q (.vw d)) := by
  unfold gVar at h
  split at h
  · rename_i x e; exact ⟨_, _, e, .inl rfl, .inl ⟨x, rfl, h⟩⟩
  · rename_i t x e; exact ⟨_, _, e, .inr ⟨t, rfl⟩, .inl ⟨x, rfl, h⟩⟩
  · rename_i d _ e; exact ⟨_, _, e, .inl rfl, .inr h⟩
  · rename_i t d _ e; exact ⟨_, _, e, .inr ⟨t, rfl⟩, .inr h⟩
  · exact h.elim
theorem de_var {i : Nat} {x : Str} (hN : X.N[i]? = some x) (hv : Vis X.env.scope x) (hd : (x == ("__debug__" : Str)) = false := by decide) (hcd : (x == ("__classdict__" : Str)) = false := by decide) : DE W X (.Name x pos) (gVar i) := by
  refine PE.imp (pe_var hN hv hd hcd) fun σ H Q ⟨B, Rg, δ, S0, h⟩ => ?_
  obtain ⟨s, d, e, hs, h⟩ := gVar_cases h
  obtain ⟨v, g, e1, r⟩ := S0.slot e hs
  refine ⟨v, e1, ?_⟩
  rcases h with ⟨x, rfl, h⟩ | h
  · exact h v H (Same.refl H) (RepR.plain r.1)
  · exact h v H (Same.refl H) ⟨g, r⟩
def gC (x : P) : GE := fun _ => .ok (.own (.p x))
theorem de_of {t : TE} {x : P} {v : V} (h : PE X e (tC v)) (r : ∀ H, RepP X.K H x v) : DE W X e (gC x) :=
  PE.imp h fun σ H Q ⟨B, Rg, δ, S0, h⟩ => h v H (Same.refl H) (RepR.plain (r H))
theorem de_int {i j} : DE W X (.Constant (.int i) j pos) (gC (.int i)) := de_of (t := tC (.int i)) pe_int fun _ => rfl
theorem de_bl {b j} : DE W X (.Constant (.bool b) j pos) (gC (.bl b)) := de_of (t := tC (.bl b)) pe_bl fun _ => rfl
theorem de_non {j} : DE W X (.Constant .none j pos) (gC .non) := de_of (t := tC .non) pe_non fun _ => rfl
theorem de_str {x j} : DE W X (.Constant (.str x) j pos) (gC (.str x)) := de_of (t := tC (.str x)) pe_str fun _ => rfl
/-- a module's constant -/
def GC (K : PySem.W.Frag) (mg : Str → Option Value) (x : Str) (p : P) : Prop := ∃ u v, mg x = some u ∧ RelV v u ∧ ∀ H, RepP K H p v
theorem de_glob {x : Str} {p : P} (g : GC X.K X.mg x p) (hg : Gl X x := by rfl) (hd : (x == ("__debug__" : Str)) = false := by decide) : DE W X (.Name x pos) (gC p) := by
  obtain ⟨u, v, e, r, q⟩ := g
  exact de_of (t := tC v) (pe_glob hg e r hd) q

/-! ### operators -/
def OpG (K : PySem.W.Frag) (r : R2) (f : D → D → Rn Unit R) : Prop := ∀ (H : Hp) (x y : D) (v u : V) (fx fy : List Addr) (Q : VK) (E : Str → Unit → Prop), RepD K H x v fx → RepD K H y u fy →
  (f x y).wp (fun r => ∀ v H', Same H H' → RepR K H H' r v → Q v H') E → r v u H Q
theorem op2_of {r : R2} {f : D → D → Rn Unit R} (hf : OpG X.K r f) (σ : L2.St) (H : Hp) (Q : VK) (h : tD (dc X W) (gOp2 f ga gb) σ H Q) : tOp r (tD (dc X W) ga) (tD (dc X W) gb) σ H Q := by
  obtain ⟨B, Rg, δ, S0, w⟩ := h
  refine tD_val S0 w fun r1 v1 H1 s1 rv1 S1 w1 => ?_
  refine tD_val S1 w1 fun r2 v2 H2 s2 rv2 S2 w2 => ?_
  obtain ⟨f1, q1⟩ := (rv1.grow s2).look
  obtain ⟨f2, q2⟩ := rv2.look
  exact hf H2 r1.d r2.d v1 v2 f1 f2 Q _ q1 q2 w2
theorem de_op2 {op : Operator} {r : R2} {f : D → D → Rn Unit R} (ho : OpR X (binaryOp op) r) (hf : OpG X.K r f) (ha : DE W X a ga) (hb : DE W X b gb) : DE W X (.BinOp a op b pos) (gOp2 f ga gb) :=
  PE.imp (pe_op ho ha hb) (op2_of hf)
theorem OpG.or {K : PySem.W.Frag} {r r' : R2} {f : D → D → Rn Unit R} (h : ∀ (H : Hp) (x y : D) (v u : V) (fx fy : List Addr) (Q : VK) (E : Str → Unit → Prop), RepD K H x v fx → RepD K H y u fy →
  (f x y).wp (fun r => ∀ v H', Same H H' → RepR K H H' r v → Q v H') E → r v u H Q ∨ r' v u H Q) : OpG K (fun x y H Q => r x y H Q ∨ r' x y H Q) f := h
/-- ints -/
def fInt (g : Int → Int → P) : D → D → Rn Unit R
  | .p (.int i), .p (.int j) => .ok (.own (.p (g i j)))
  | _, _ => .bad
def iSub : D → D → Rn Unit R := fInt fun i j => .int (i - j)
theorem fInt_cases {g : Int → Int → P} {x y : D} {Q : R → Prop} {E : Str → Unit → Prop} (h : (fInt g x y).wp Q E) : ∃ i j, x = .p (.int i) ∧ y = .p (.int j) ∧ Q (.own (.p (g i j))) := by
  unfold fInt at h
  split at h
  · exact ⟨_, _, rfl, rfl, h⟩
  · exact h.elim
theorem RepP.up {K : PySem.W.Frag} {H : Hp} {x : P} {v : V} {Q : VK} (h : ∀ v H', Same H H' → RepR K H H' (.own (.p x)) v → Q v H') (r : RepP K H x v) : Q v H := h v H (Same.refl H) (RepR.plain r)
theorem og_sub {K : PySem.W.Frag} : OpG K (rI0 fun i j => .int (i - j)) iSub := by
  intro H x y v u fx fy Q E rx ry h
  obtain ⟨i, j, rfl, rfl, q⟩ := fInt_cases h
  obtain rfl : v = .int i := rx.1
  obtain rfl : u = .int j := ry.1
  exact ⟨i, j, rfl, rfl, RepP.up q rfl⟩
theorem de_sub (ha : DE W X a ga) (hb : DE W X b gb) : DE W X (.BinOp a .Sub b pos) (gOp2 iSub ga gb) := de_op2 op_sub og_sub ha hb

/-- a new object -/
theorem RepD.up {K : PySem.W.Frag} {H : Hp} {d : D} {o : HO} {Q : VK} {p : Addr} (hp : H p = none) (h : ∀ v H', Same H H' → RepR K H H' (.own d) v → Q v H') (r : ∃ fp, RepD K (upd H p o) d (.ref p) fp ∧ fp.Nodup ∧ ∀ a ∈ fp, H a = none) : Q (.ref p) (upd H p o) :=
  h _ _ (fun b u e => by rw [upd_ne (ne_of_none e hp)]; exact e) r
theorem Same.new {H : Hp} {p : Addr} {o : HO} (hp : H p = none) : Same H (upd H p o) := fun b u e => by rw [upd_ne (ne_of_none e hp)]; exact e
theorem RepPs.len {K : PySem.W.Frag} {H : Hp} : ∀ {xs : List P} {vs : List V}, RepPs K H xs vs → vs.length = xs.length
  | [], vs, h => by
    obtain rfl : vs = [] := h
    rfl
  | x :: xs, vs, h => by
    obtain ⟨v, r, rfl, _, h2⟩ := h
    simp [RepPs.len h2]
theorem RepPs.append {K : PySem.W.Frag} {H : Hp} {ys : List P} {us : List V} (hy : RepPs K H ys us) : ∀ {xs : List P} {vs : List V}, RepPs K H xs vs → RepPs K H (xs ++ ys) (vs ++ us)
  | [], vs, h => by
    obtain rfl : vs = [] := h
    exact hy
  | x :: xs, vs, h => by
    obtain ⟨v, r, rfl, h1, h2⟩ := h
    exact ⟨v, r ++ us, rfl, h1, RepPs.append hy h2⟩
theorem RepPs.get {K : PySem.W.Frag} {H : Hp} : ∀ {xs : List P} {vs : List V} {i : Nat} {x : P}, RepPs K H xs vs → xs[i]? = some x → ∃ v, vs[i]? = some v ∧ RepP K H x v
  | [], _, i, _, _, e => by simp at e
  | x :: xs, vs, 0, y, h, e => by
    obtain ⟨v, r, rfl, h1, h2⟩ := h
    obtain rfl : x = y := by simpa using e
    exact ⟨v, rfl, h1⟩
  | x :: xs, vs, i + 1, y, h, e => by
    obtain ⟨v, r, rfl, h1, h2⟩ := h
    obtain ⟨u, q1, q2⟩ := RepPs.get (i := i) h2 (by simpa using e)
    exact ⟨u, by simpa using q1, q2⟩
theorem RepPs.drop {K : PySem.W.Frag} {H : Hp} : ∀ {xs : List P} {vs : List V} (n : Nat), RepPs K H xs vs → RepPs K H (xs.drop n) (vs.drop n)
  | _, _, 0, h => h
  | [], vs, n + 1, h => by
    obtain rfl : vs = [] := h
    exact rfl
  | x :: xs, vs, n + 1, h => by
    obtain ⟨v, r, rfl, _, h2⟩ := h
    exact RepPs.drop n h2
theorem RepPs.take {K : PySem.W.Frag} {H : Hp} : ∀ {xs : List P} {vs : List V} (n : Nat), RepPs K H xs vs → RepPs K H (xs.take n) (vs.take n)
  | _, _, 0, _ => rfl
  | [], vs, n + 1, h => by
    obtain rfl : vs = [] := h
    exact rfl
  | x :: xs, vs, n + 1, h => by
    obtain ⟨v, r, rfl, h1, h2⟩ := h
    exact ⟨v, _, rfl, h1, RepPs.take n h2⟩
theorem RepPs.int {K : PySem.W.Frag} {H : Hp} : ∀ {ns : List Int} {vs : List V}, RepPs K H (ns.map P.int) vs → vs = ns.map V.int
  | [], _, h => h
  | n :: ns, _, h => by
    obtain ⟨v, r, rfl, h1, h2⟩ := h
    obtain rfl : v = .int n := h1
    rw [RepPs.int h2]
    rfl
theorem RepPs.ofInt {K : PySem.W.Frag} {H : Hp} : ∀ (ns : List Int), RepPs K H (ns.map P.int) (ns.map V.int)
  | [] => rfl
  | n :: ns => ⟨_, _, rfl, rfl, RepPs.ofInt ns⟩
theorem RepPs.str {K : PySem.W.Frag} {H : Hp} : ∀ {ns : List Str} {vs : List V}, RepPs K H (ns.map P.str) vs → vs = ns.map V.str
  | [], _, h => h
  | n :: ns, _, h => by
    obtain ⟨v, r, rfl, h1, h2⟩ := h
    obtain rfl : v = .str n := h1
    rw [RepPs.str h2]
    rfl
theorem RepPs.ofStr {K : PySem.W.Frag} {H : Hp} : ∀ (ns : List Str), RepPs K H (ns.map P.str) (ns.map V.str)
  | [] => rfl
  | n :: ns => ⟨_, _, rfl, rfl, RepPs.ofStr ns⟩
theorem RepPs.bl {K : PySem.W.Frag} {H : Hp} : ∀ {ns : List Bool} {vs : List V}, RepPs K H (ns.map P.bl) vs → vs = ns.map V.bl
  | [], _, h => h
  | n :: ns, _, h => by
    obtain ⟨v, r, rfl, h1, h2⟩ := h
    obtain rfl : v = .bl n := h1
    rw [RepPs.bl h2]
    rfl

/-- + of ints, texts, tuples, lists -/
def fAdd : D → D → Rn Unit R
  | .p (.int i), .p (.int j) => .ok (.own (.p (.int (i + j))))
  | .p (.str i), .p (.str j) => if i.length + j.length ≤ sizeLine then .ok (.own (.p (.str (i ++ j)))) else .bad
  | .p (.tup xs), .p (.tup ys) => if xs.length + ys.length ≤ sizeLine then .ok (.own (.p (.tup (xs ++ ys)))) else .bad
  | .lst xs, .lst ys => if xs.length + ys.length ≤ sizeLine then .ok (.own (.lst (xs ++ ys))) else .bad
  | _, _ => .bad
def rAddA (K : PySem.W.Frag) : R2 := fun x y H Q => (rI0 (fun i j => .int (i + j)) x y H Q) ∨ (∃ i j, x = .str i ∧ y = .str j ∧ i.length + j.length ≤ sizeLine ∧ Q (.str (i ++ j)) H) ∨ rCatA K x y H Q ∨ rCat x y H Q
theorem op_addA : OpR X (binaryOp .Add) (rAddA X.K) := op_add.or (op_add_str.or (op_catA.or op_cat))
theorem og_add {K : PySem.W.Frag} : OpG K (rAddA K) fAdd := by
  intro H x y v u fx fy Q E rx ry h
  unfold fAdd at h
  split at h
  · rename_i i j
    obtain rfl : v = .int i := rx.1
    obtain rfl : u = .int j := ry.1
    exact .inl ⟨i, j, rfl, rfl, RepP.up h rfl⟩
  · rename_i i j
    obtain rfl : v = .str i := rx.1
    obtain rfl : u = .str j := ry.1
    split at h
    · rename_i hz
      exact .inr (.inl ⟨i, j, rfl, rfl, hz, RepP.up h rfl⟩)
    · exact h.elim
  · rename_i xs ys
    split at h
    · rename_i hz
      obtain ⟨⟨a, vs, rfl, qa, ra⟩, _⟩ := rx
      obtain ⟨⟨b, us, rfl, qb, rb⟩, _⟩ := ry
      refine .inr (.inr (.inl ⟨a, b, vs, us, rfl, rfl, qa, qb, by rw [ra.len, rb.len]; exact hz, fun z => ?_, fun _ z => ?_, fun _ _ p hp => ?_⟩))
      · subst z
        cases xs with
        | nil => exact RepP.up h ⟨b, us, rfl, qb, rb⟩
        | cons x xs => obtain ⟨_, _, z, _⟩ := ra; cases z
      · subst z
        cases ys with
        | nil => rw [List.append_nil] at h; exact RepP.up h ⟨a, vs, rfl, qa, ra⟩
        | cons x xs => obtain ⟨_, _, z, _⟩ := rb; cases z
      · refine RepD.up hp h ⟨[], ⟨⟨p, vs ++ us, rfl, .inl (.inl upd_same), ?_⟩, rfl⟩, List.nodup_nil, fun _ z => nomatch z⟩
        exact RepPs.kt (Same.kt (Same.new hp)) _ _ (rb.append ra)
    · exact h.elim
  · rename_i xs ys
    split at h
    · rename_i hz
      obtain ⟨a, vs, rfl, qa, _, ra⟩ := rx
      obtain ⟨b, us, rfl, qb, _, rb⟩ := ry
      refine .inr (.inr (.inr ⟨a, b, vs, us, rfl, rfl, qa, qb, by rw [ra.len, rb.len]; exact hz, fun p hp => ?_⟩))
      refine RepD.up hp h ⟨[p], ⟨p, vs ++ us, rfl, upd_same, rfl, RepPs.kt (Same.kt (Same.new hp)) _ _ (rb.append ra)⟩, by simp, fun b hb => by
        obtain rfl : b = p := by simpa using hb
        exact hp⟩
    · exact h.elim
  · exact h.elim
theorem de_add (ha : DE W X a ga) (hb : DE W X b gb) : DE W X (.BinOp a .Add b pos) (gOp2 fAdd ga gb) := de_op2 op_addA og_add ha hb

/-- ints under a condition -/
def fIntC (C : Int → Int → Prop) [∀ i j, Decidable (C i j)] (g : Int → Int → Int) : D → D → Rn Unit R
  | .p (.int i), .p (.int j) => if C i j then .ok (.own (.p (.int (g i j)))) else .bad
  | _, _ => .bad
theorem og_intC {K : PySem.W.Frag} {C : Int → Int → Prop} [∀ i j, Decidable (C i j)] {g : Int → Int → Int} : OpG K (rI C fun i j => .int (g i j)) (fIntC C g) := by
  intro H x y v u fx fy Q E rx ry h
  unfold fIntC at h
  split at h
  · rename_i i j
    split at h
    · rename_i hc
      obtain rfl : v = .int i := rx.1
      obtain rfl : u = .int j := ry.1
      exact ⟨i, j, rfl, rfl, hc, RepP.up h rfl⟩
    · exact h.elim
  · exact h.elim
instance : ∀ i j, Decidable (CMulW i j) := fun i j => by unfold CMulW; infer_instance
instance : ∀ i j, Decidable (CDivW i j) := fun i j => by unfold CDivW; infer_instance
instance : ∀ i j, Decidable (CDivN i j) := fun i j => by unfold CDivN; infer_instance
instance : ∀ i j, Decidable (CPow i j) := fun i j => by unfold CPow; infer_instance
instance : ∀ i j, Decidable (CShl i j) := fun i j => by unfold CShl; infer_instance
/-- * of ints; of a list or text by an int comes later -/
def fMul : D → D → Rn Unit R
  | .lst xs, .p (.int k) => if -(2 ^ 63) ≤ k ∧ k < 2 ^ 63 ∧ xs.length * k.toNat ≤ sizeLine then .ok (.own (.lst (List.replicate k.toNat xs).flatten)) else .bad
  | x, y => fIntC CMulW (fun i j => i * j) x y
theorem RepPs.rep {K : PySem.W.Frag} {H : Hp} {xs : List P} {vs : List V} (h : RepPs K H xs vs) : ∀ n : Nat, RepPs K H (List.replicate n xs).flatten (List.replicate n vs).flatten
  | 0 => rfl
  | n + 1 => by
    rw [List.replicate_succ, List.replicate_succ, List.flatten_cons, List.flatten_cons]
    exact RepPs.append (RepPs.rep h n) h
theorem op_mulA : OpR X (binaryOp .Mult) (fun x y H Q => rRep x y H Q ∨ rI CMulW (fun i j => .int (i * j)) x y H Q) := op_rep.or op_mulW
theorem og_mul {K : PySem.W.Frag} : OpG K (fun x y H Q => rRep x y H Q ∨ rI CMulW (fun i j => .int (i * j)) x y H Q) fMul := by
  intro H x y v u fx fy Q E rx ry h
  unfold fMul at h
  split at h
  · rename_i xs k
    split at h
    · rename_i hz
      obtain ⟨a, vs, rfl, qa, _, ra⟩ := rx
      obtain rfl : u = .int k := ry.1
      refine .inl ⟨a, k, vs, rfl, rfl, qa, hz.1, hz.2.1, by rw [ra.len]; exact hz.2.2, fun p hp => ?_⟩
      refine RepD.up hp h ⟨[p], ⟨p, _, rfl, upd_same, rfl, RepPs.kt (Same.kt (Same.new hp)) _ _ (ra.rep k.toNat)⟩, by simp, fun b hb => by
        obtain rfl : b = p := by simpa using hb
        exact hp⟩
    · exact h.elim
  · exact .inr (og_intC H x y v u fx fy Q E rx ry h)
theorem de_mul (ha : DE W X a ga) (hb : DE W X b gb) : DE W X (.BinOp a .Mult b pos) (gOp2 fMul ga gb) := de_op2 op_mulA og_mul ha hb
/-- // -/
def fDiv : D → D → Rn Unit R
  | .p (.int i), .p (.int j) => if CDivW i j then .ok (.own (.p (.int (i / j)))) else if CDivN i j then .ok (.own (.p (.int (i.fdiv j)))) else .bad
  | _, _ => .bad
theorem op_divA : OpR X (binaryOp .FloorDiv) (fun x y H Q => rI CDivW (fun i j => .int (i / j)) x y H Q ∨ rI CDivN (fun i j => .int (i.fdiv j)) x y H Q) := op_fdivW.or op_fdivN
theorem og_div {K : PySem.W.Frag} : OpG K (fun x y H Q => rI CDivW (fun i j => .int (i / j)) x y H Q ∨ rI CDivN (fun i j => .int (i.fdiv j)) x y H Q) fDiv := by
  intro H x y v u fx fy Q E rx ry h
  unfold fDiv at h
  split at h
  · rename_i i j
    obtain rfl : v = .int i := rx.1
    obtain rfl : u = .int j := ry.1
    split at h
    · rename_i hc
      exact .inl ⟨i, j, rfl, rfl, hc, RepP.up h rfl⟩
    · split at h
      · rename_i hc
        exact .inr ⟨i, j, rfl, rfl, hc, RepP.up h rfl⟩
      · exact h.elim
  · exact h.elim
theorem de_div (ha : DE W X a ga) (hb : DE W X b gb) : DE W X (.BinOp a .FloorDiv b pos) (gOp2 fDiv ga gb) := de_op2 op_divA og_div ha hb
def fMod : D → D → Rn Unit R
  | .p (.int i), .p (.int j) => if 0 < j then .ok (.own (.p (.int (i % j)))) else if j ≠ 0 then .ok (.own (.p (.int (i.fmod j)))) else .bad
  | _, _ => .bad
theorem op_modA : OpR X (binaryOp .Mod) (fun x y H Q => rI (fun _ j => 0 < j) (fun i j => .int (i % j)) x y H Q ∨ rI (fun _ j => j ≠ 0) (fun i j => .int (i.fmod j)) x y H Q) := op_mod.or op_modN
theorem og_mod {K : PySem.W.Frag} : OpG K (fun x y H Q => rI (fun _ j => 0 < j) (fun i j => .int (i % j)) x y H Q ∨ rI (fun _ j => j ≠ 0) (fun i j => .int (i.fmod j)) x y H Q) fMod := by
  intro H x y v u fx fy Q E rx ry h
  unfold fMod at h
  split at h
  · rename_i i j
    obtain rfl : v = .int i := rx.1
    obtain rfl : u = .int j := ry.1
    split at h
    · rename_i hc
      exact .inl ⟨i, j, rfl, rfl, hc, RepP.up h rfl⟩
    · split at h
      · rename_i hc
        exact .inr ⟨i, j, rfl, rfl, hc, RepP.up h rfl⟩
      · exact h.elim
  · exact h.elim
theorem de_mod (ha : DE W X a ga) (hb : DE W X b gb) : DE W X (.BinOp a .Mod b pos) (gOp2 fMod ga gb) := de_op2 op_modA og_mod ha hb
theorem de_pow (ha : DE W X a ga) (hb : DE W X b gb) : DE W X (.BinOp a .Pow b pos) (gOp2 (fIntC CPow fun i j => i ^ j.toNat) ga gb) := de_op2 op_pow og_intC ha hb
theorem de_shl (ha : DE W X a ga) (hb : DE W X b gb) : DE W X (.BinOp a .LShift b pos) (gOp2 (fIntC CShl fun i j => i * 2 ^ j.toNat) ga gb) := de_op2 op_shlW og_intC ha hb
theorem de_shr (ha : DE W X a ga) (hb : DE W X b gb) : DE W X (.BinOp a .RShift b pos) (gOp2 (fIntC (fun _ j => 0 ≤ j) fun i j => i / 2 ^ j.toNat) ga gb) := de_op2 op_shr og_intC ha hb
def fNeg : D → Rn Unit R
  | .p (.int i) => .ok (.own (.p (.int (-i))))
  | _ => .bad
theorem de_neg (ha : DE W X a ga) : DE W X (.UnaryOp .USub a pos) (gOp1 fNeg ga) := by
  refine PE.imp (pe_un un_neg ha) fun σ H Q ⟨B, Rg, δ, S0, w⟩ => ?_
  refine tD_val S0 w fun r1 v1 H1 s1 rv1 S1 w1 => ?_
  unfold fNeg at w1
  split at w1
  · rename_i i e
    obtain rfl : v1 = .int i := rv1.getP e
    exact ⟨i, rfl, RepP.up w1 rfl⟩
  · exact w1.elim
end
end DL
/-! DLc: derivations of tests, displays, subscripts, slices, arguments. -/
namespace DL
open PySem PySem.Spec PyProof.Rows L2

/-! ### equality of data -/
mutual
def P.py : P → PyData
  | .non => .none
  | .bl b => .bool b
  | .int i => .int i
  | .str x => .str x
  | .fl ns => .list (ns.map PyData.int)
  | .tup xs => .tuple (P.pys xs)
def P.pys : List P → List PyData
  | [] => []
  | x :: xs => x.py :: P.pys xs
end
section
variable {K : PySem.W.Frag} {H : Hp}
theorem dp_ints : ∀ ns : List Int, DpAll K H (ns.map V.int) (ns.map PyData.int)
  | [] => .nil
  | n :: ns => .cons (.int n) (dp_ints ns)
mutual
theorem RepP.dp : ∀ (x : P) (v : V), RepP K H x v → Dp K H v x.py
  | .non, v, h => by
    obtain rfl : v = .non := h
    exact .non
  | .bl b, v, h => by
    obtain rfl : v = .bl b := h
    exact .bl b
  | .int i, v, h => by
    obtain rfl : v = .int i := h
    exact .int i
  | .str x, v, h => by
    obtain rfl : v = .str x := h
    exact .str x
  | .fl ns, v, h => by
    obtain ⟨a, o, rfl, q⟩ := h
    exact .lst (.inl (.inr ⟨o, q⟩)) (dp_ints ns)
  | .tup xs, v, h => by
    obtain ⟨a, vs, rfl, q, r⟩ := h
    exact .tup q (RepPs.dp xs vs r)
theorem RepPs.dp : ∀ (xs : List P) (vs : List V), RepPs K H xs vs → DpAll K H vs (P.pys xs)
  | [], vs, h => by
    obtain rfl : vs = [] := h
    exact .nil
  | x :: xs, vs, h => by
    obtain ⟨v, r, rfl, h1, h2⟩ := h
    exact .cons (RepP.dp x v h1) (RepPs.dp xs r h2)
end
end
/-- what may be compared by == -/
def D.py? : D → Option PyData
  | .p x => some x.py
  | .lst xs => some (.list (P.pys xs))
  | _ => none
def P.scal : P → P → Bool
  | .non, .non => true
  | .non, .int _ => true
  | .int _, .non => true
  | .non, .bl _ => true
  | .bl _, .non => true
  | .non, .str _ => true
  | .str _, .non => true
  | .int _, .int _ => true
  | .bl _, .bl _ => true
  | .str _, .str _ => true
  | .int _, .str _ => true
  | .str _, .int _ => true
  | .bl _, .str _ => true
  | .str _, .bl _ => true
  | _, _ => false
def P.seq : P → P → Bool
  | .non, .non => true
  | .int i, .int j => decide (i = j)
  | .bl a, .bl b => decide (a = b)
  | .str a, .str b => decide (a = b)
  | _, _ => false
def fEqB (neg : Bool) (x y : D) : Rn Unit Bool :=
  match x, y with
  | .p a, .p b => if P.scal a b = true then .ok (if neg then !P.seq a b else P.seq a b)
    else if SeqAt.shaped a.py = true ∧ SeqAt.shaped b.py = true then .ok (if neg then !PyData.eqv a.py b.py else PyData.eqv a.py b.py) else .bad
  | x, y => match x.py?, y.py? with
    | some a, some b => if SeqAt.shaped a = true ∧ SeqAt.shaped b = true then .ok (if neg then !PyData.eqv a b else PyData.eqv a b) else .bad
    | _, _ => .bad
def fB (f : D → D → Rn Unit Bool) (x y : D) : Rn Unit R := (f x y).bind fun b => .ok (.own (.p (.bl b)))
section
variable {K : PySem.W.Frag} {H : Hp}
theorem D.py_dp {x : D} {v : V} {fp : List Addr} {d : PyData} (r : RepD K H x v fp) (e : x.py? = some d) : Dp K H v d := by
  cases x with
  | p x =>
    obtain rfl : x.py = d := by simpa [D.py?] using e
    exact RepP.dp x v r.1
  | lst xs =>
    obtain rfl : PyData.list (P.pys xs) = d := by simpa [D.py?] using e
    obtain ⟨a, vs, rfl, q, _, r⟩ := r
    exact .lst (SqL.of q) (RepPs.dp xs vs r)
  | _ => cases e
theorem scal_ok {a b : P} {v u : V} (ra : RepP K H a v) (rb : RepP K H b u) (h : P.scal a b = true) : L2.scal v u = true ∧ decide (v = u) = P.seq a b := by
  cases a <;> cases b <;> first
    | (exfalso; revert h; simp [P.scal]; done)
    | (obtain rfl := (ra : v = _); obtain rfl := (rb : u = _); exact ⟨rfl, by simp [P.seq]⟩)
end
def rEqA (K : PySem.W.Frag) : R2 := fun x y H Q => rEq x y H Q ∨ rEqD K x y H Q
def rNeA (K : PySem.W.Frag) : R2 := fun x y H Q => rNe x y H Q ∨ rNeD K x y H Q
section
variable {K : PySem.W.Frag}
theorem og_eqx (neg : Bool) : OpG K (if neg then rNeA K else rEqA K) (fB (fEqB neg)) := by
  intro H x y v u fx fy Q E rx ry h
  have h' := Rn.wp_bind.mp h
  unfold fEqB at h'
  have dd : ∀ {a b : PyData}, x.py? = some a → y.py? = some b → (if SeqAt.shaped a = true ∧ SeqAt.shaped b = true then Rn.ok (if neg then !PyData.eqv a b else PyData.eqv a b) else Rn.bad : Rn Unit Bool).wp (fun b => ((Rn.ok (R.own (D.p (.bl b))) : Rn Unit R)).wp (fun r => ∀ v H', Same H H' → RepR K H H' r v → Q v H') E) E →
      (if neg then rNeA K else rEqA K) v u H Q := by
    intro a b ea eb q
    split at q
    · rename_i hs
      cases neg with
      | true => exact .inr ⟨a, b, D.py_dp rx ea, D.py_dp ry eb, hs.1, hs.2, RepP.up q rfl⟩
      | false => exact .inr ⟨a, b, D.py_dp rx ea, D.py_dp ry eb, hs.1, hs.2, RepP.up q rfl⟩
    · exact q.elim
  split at h'
  · rename_i a b
    split at h'
    · rename_i hs
      obtain ⟨z1, z2⟩ := scal_ok rx.1 ry.1 hs
      cases neg with
      | true => exact .inl ⟨z1, by rw [z2]; exact RepP.up h' rfl⟩
      | false => exact .inl ⟨z1, by rw [z2]; exact RepP.up h' rfl⟩
    · exact dd rfl rfl h'
  · split at h'
    · rename_i a b ea eb
      exact dd ea eb h'
    · exact h'.elim
theorem og_eq : OpG K (rEqA K) (fB (fEqB false)) := og_eqx (K := K) false
theorem og_ne : OpG K (rNeA K) (fB (fEqB true)) := og_eqx (K := K) true
/-- < and its kin of ints -/
def fIntB (g : Int → Int → Bool) : D → D → Rn Unit Bool
  | .p (.int i), .p (.int j) => .ok (g i j)
  | _, _ => .bad
theorem og_intB {g : Int → Int → Bool} : OpG K (rI0 fun i j => .bl (g i j)) (fB (fIntB g)) := by
  intro H x y v u fx fy Q E rx ry h
  have h' := Rn.wp_bind.mp h
  unfold fIntB at h'
  split at h'
  · rename_i i j
    obtain rfl : v = .int i := rx.1
    obtain rfl : u = .int j := ry.1
    exact ⟨i, j, rfl, rfl, RepP.up h' rfl⟩
  · exact h'.elim
abbrev fLt := fIntB fun i j => decide (i < j)
abbrev fLe := fIntB fun i j => decide (i ≤ j)
abbrev fGt := fIntB fun i j => decide (j < i)
abbrev fGe := fIntB fun i j => decide (j ≤ i)
/-- is None -/
def fIsN (neg : Bool) : D → D → Rn Unit Bool
  | x, .p .non => match x with
    | .p .non => .ok (!neg)
    | _ => .ok neg
  | _, _ => .bad
theorem RepD.notN {H : Hp} {x : D} {v : V} {fp : List Addr} (r : RepD K H x v fp) (h : x ≠ .p .non) : v ≠ .non := by
  cases x with
  | p x =>
    cases x with
    | non => exact absurd rfl h
    | bl b => obtain rfl : v = .bl b := r.1; exact fun z => nomatch z
    | int b => obtain rfl : v = .int b := r.1; exact fun z => nomatch z
    | str b => obtain rfl : v = .str b := r.1; exact fun z => nomatch z
    | tup b => obtain ⟨⟨a, _, rfl, _⟩, _⟩ := r; exact fun z => nomatch z
    | fl b => obtain ⟨⟨a, _, rfl, _⟩, _⟩ := r; exact fun z => nomatch z
  | lst xs => obtain ⟨a, _, rfl, _⟩ := r; exact fun z => nomatch z
  | ls xs => obtain ⟨a, _, _, rfl, _⟩ := r; exact fun z => nomatch z
  | tp xs => obtain ⟨a, _, rfl, _⟩ := r; exact fun z => nomatch z
  | dic xs => obtain ⟨a, _, rfl, _⟩ := r; exact fun z => nomatch z
  | dit xs => obtain ⟨a, _, rfl, _⟩ := r; exact fun z => nomatch z
  | orc => obtain ⟨a, _, _, rfl, _⟩ := r; exact fun z => nomatch z
  | scr ns => obtain ⟨_, a, rfl, _⟩ := r; exact fun z => nomatch z
theorem og_isN : OpG K (fun x y H Q => y = .non ∧ Q (.bl (decide (x = .non))) H) (fB (fIsN false)) := by
  intro H x y v u fx fy Q E rx ry h
  have h' := Rn.wp_bind.mp h
  unfold fIsN at h'
  split at h'
  · obtain rfl : u = .non := ry.1
    refine ⟨rfl, ?_⟩
    split at h'
    · obtain rfl : v = .non := rx.1
      exact RepP.up h' rfl
    · rename_i hn
      rw [decide_eq_false (rx.notN hn)]
      exact RepP.up h' rfl
  · exact h'.elim
theorem og_notN : OpG K (fun x y H Q => y = .non ∧ Q (.bl (!decide (x = .non))) H) (fB (fIsN true)) := by
  intro H x y v u fx fy Q E rx ry h
  have h' := Rn.wp_bind.mp h
  unfold fIsN at h'
  split at h'
  · obtain rfl : u = .non := ry.1
    refine ⟨rfl, ?_⟩
    split at h'
    · obtain rfl : v = .non := rx.1
      exact RepP.up h' rfl
    · rename_i hn
      rw [decide_eq_false (rx.notN hn)]
      exact RepP.up h' rfl
  · exact h'.elim
end

/-! ### tests -/
def D.bool? : R → Rn Unit Bool := fun r => match r.d with
  | .p (.bl b) => .ok b
  | _ => .bad
/-- the bool that an expression gives -/
def gTB (g : GE) : GT := fun δ => (g δ).bind D.bool?
section
variable {W : WX} {X : Cx} {a b e : Expr} {ga gb gc : GE} {ta tb : GT} {pos : Pos}
theorem tDT_of {c : DC} {g : GE} {σ : L2.St} {H : Hp} {Q : Bool → Hp → Prop} (h : tDT c (gTB g) σ H Q) : tD c g σ H fun x H' => ∃ k, x = .bl k ∧ Q k H' := by
  obtain ⟨B, Rg, δ, S0, w⟩ := h
  refine ⟨B, Rg, δ, S0, Rn.wp_mono (Rn.wp_bind.mp w) (fun r q v H' s rv => ?_) fun _ _ q => q⟩
  unfold D.bool? at q
  split at q
  · rename_i k e
    obtain rfl : v = .bl k := rv.getP e
    exact ⟨k, rfl, q H' s⟩
  · exact q.elim
theorem de_cmp {op : CmpOp} {r : R2} {f : D → D → Rn Unit R} (ho : OpR X (compareOp op) r) (hf : OpG X.K r f) (ha : DE W X a ga) (hb : DE W X b gb) (hm : behindInMarks op b = false) : DE W X (.Compare a [op] [b] pos) (gOp2 f ga gb) :=
  PE.imp (pe_cmpR ho ha hb hm) (op2_of hf)
theorem dt_cmp {op : CmpOp} {r : R2} {f : D → D → Rn Unit R} (ho : OpR X (compareOp op) r) (hf : OpG X.K r f) (ha : DE W X a ga) (hb : DE W X b gb) (hm : behindInMarks op b = false) : DT W X (.Compare a [op] [b] pos) (gTB (gOp2 f ga gb)) :=
  PT.imp (pt_cmpR ho ha hb hm) fun σ H Q h => op2_of hf σ H _ (tDT_of h)
/-- a op b op' c -/
def gChain (f f' : D → D → Rn Unit Bool) (ga gb gc : GE) : GE := fun δ => (ga δ).bind fun x => (gb δ).bind fun y => (f x.d y.d).bind fun k => if k = true then (gc δ).bind fun z => fB f' y.d z.d else .ok (.own (.p (.bl false)))
theorem chain_of {r r' : R2} {f f' : D → D → Rn Unit Bool} (hf : OpG X.K r (fB f)) (hf' : OpG X.K r' (fB f')) (σ : L2.St) (H : Hp) (Q : VK) (h : tD (dc X W) (gChain f f' ga gb gc) σ H Q) :
    tChain r r' (tD (dc X W) ga) (tD (dc X W) gb) (tD (dc X W) gc) σ H Q := by
  obtain ⟨B, Rg, δ, S0, w⟩ := h
  refine tD_val S0 w fun r1 v1 H1 s1 rv1 S1 w1 => ?_
  refine tD_val S1 w1 fun r2 v2 H2 s2 rv2 S2 w2 => ?_
  obtain ⟨f1, q1⟩ := (rv1.grow s2).look
  obtain ⟨f2, q2⟩ := rv2.look
  refine hf H2 r1.d r2.d v1 v2 f1 f2 _ (fun cl _ => ∀ C H', (dc X W).mg cl = some (.ref C) → Same H2 H' → (dc X W).W (.ref C) none σ H') q1 q2 (Rn.wp_bind.mpr (Rn.wp_mono (Rn.wp_bind.mp w2) (fun k q v H3 s3 rv3 => ?_) fun _ _ q => q))
  obtain rfl : v = .bl k := rv3.getP rfl
  refine ⟨k, rfl, ?_⟩
  cases k with
  | false =>
    rw [if_neg (by decide)] at q ⊢
    exact q _ _ s3 (RepR.plain rfl)
  | true =>
    rw [if_pos rfl] at q ⊢
    refine tD_val (S2.grow s3) (Rn.wp_mono q (fun r q v H' s rv => q v H' (s3.trans s) (rv.back s3)) fun cl _ q C H' e s => q C H' e (s3.trans s)) fun r4 v4 H4 s4 rv4 S4 w4 => ?_
    obtain ⟨f4, q4⟩ := rv4.look
    obtain ⟨f2', q2'⟩ := ((rv2.grow s3).grow s4).look
    exact hf' H4 r2.d r4.d v2 v4 f2' f4 Q _ q2' q4 w4
theorem de_chain {op op' : CmpOp} {c : Expr} {r r' : R2} {f f' : D → D → Rn Unit Bool} (ho : OpR X (compareOp op) r) (hf : OpG X.K r (fB f)) (ho' : OpR X (compareOp op') r') (hf' : OpG X.K r' (fB f')) (ha : DE W X a ga) (hb : DE W X b gb) (hc : DE W X c gc)
    (hm : lastMarks [op, op'] [b, c] = false := by with_unfolding_all rfl) : DE W X (.Compare a [op, op'] [b, c] pos) (gChain f f' ga gb gc) := PE.imp (pe_chain ho ho' ha hb hc hm) (chain_of hf hf')
theorem dt_chain {op op' : CmpOp} {c : Expr} {r r' : R2} {f f' : D → D → Rn Unit Bool} (ho : OpR X (compareOp op) r) (hf : OpG X.K r (fB f)) (ho' : OpR X (compareOp op') r') (hf' : OpG X.K r' (fB f')) (ha : DE W X a ga) (hb : DE W X b gb) (hc : DE W X c gc)
    (hm : lastMarks [op, op'] [b, c] = false := by with_unfolding_all rfl) : DT W X (.Compare a [op, op'] [b, c] pos) (gTB (gChain f f' ga gb gc)) := PT.imp (pt_chain ho ho' ha hb hc hm) fun σ H Q h => chain_of hf hf' σ H _ (tDT_of h)
/-- truth of a value -/
def fTru : D → Rn Unit Bool
  | .p .non => .ok false
  | .p (.bl b) => .ok b
  | .p (.int i) => .ok (i != 0)
  | .p (.str x) => if x.length ≤ sizeLine then .ok ((x.length : Int) != 0) else .bad
  | .p (.tup xs) => .ok (!xs.isEmpty)
  | .lst xs => .ok (!xs.isEmpty)
  | .dic xs => .ok (!xs.isEmpty)
  | _ => .bad
def gTru (g : GE) : GT := fun δ => (g δ).bind fun r => fTru r.d
theorem RepPs.isEmpty {K : PySem.W.Frag} {H : Hp} {xs : List P} {vs : List V} (h : RepPs K H xs vs) : xs.isEmpty = vs.isEmpty := by
  have := h.len
  cases xs <;> cases vs <;> simp_all
theorem RepKs.isEmpty {K : PySem.W.Frag} {H : Hp} {κ : Type} {xs : List (κ × P)} {vs : List (κ × V)} (h : RepKs K H xs vs) : xs.isEmpty = vs.isEmpty := by
  cases xs with
  | nil => obtain rfl : vs = [] := h; rfl
  | cons x xs => obtain ⟨k, x⟩ := x; obtain ⟨_, _, rfl, _⟩ := h; rfl
theorem dt_tru (ha : DE W X a ga) (he : ∀ whole, isTrue a X.env whole = (do let v ← whole; standAt a.pos; holding [v] (truthy v)) := by intro _; rfl) : DT W X a (gTru ga) := by
  refine PT.imp (pt_truth ha he) fun σ H Q ⟨B, Rg, δ, S0, w⟩ => ?_
  refine tD_bool S0 w fun r1 v1 H1 s1 rv1 S1 w1 => ?_
  obtain ⟨f1, q1⟩ := rv1.look
  generalize r1.d = d at q1 w1
  unfold fTru at w1
  split at w1
  · obtain rfl : v1 = .non := q1.1
    exact ⟨_, rfl, w1 H1 (Same.refl _)⟩
  · rename_i b
    obtain rfl : v1 = .bl b := q1.1
    exact ⟨_, rfl, w1 H1 (Same.refl _)⟩
  · rename_i b
    obtain rfl : v1 = .int b := q1.1
    exact ⟨_, rfl, w1 H1 (Same.refl _)⟩
  · rename_i b
    obtain rfl : v1 = .str b := q1.1
    split at w1
    · rename_i hz
      exact ⟨_, ⟨hz, rfl⟩, w1 H1 (Same.refl _)⟩
    · exact w1.elim
  · rename_i xs
    obtain ⟨⟨p, vs, rfl, q, r⟩, _⟩ := q1
    exact ⟨_, .inr (.inl ⟨vs, q, by rw [r.isEmpty]⟩), w1 H1 (Same.refl _)⟩
  · rename_i xs
    obtain ⟨p, vs, rfl, q, _, r⟩ := q1
    exact ⟨_, .inl ⟨vs, SqL.of q, by rw [r.isEmpty]⟩, w1 H1 (Same.refl _)⟩
  · rename_i xs
    obtain ⟨p, vs, rfl, q, _, r⟩ := q1
    exact ⟨_, .inr (.inr ⟨vs, q, by rw [r.isEmpty]⟩), w1 H1 (Same.refl _)⟩
  · exact w1.elim
def gAnd (ta tb : GT) : GT := fun δ => (ta δ).bind fun k => if k = true then tb δ else .ok false
def gOr (ta tb : GT) : GT := fun δ => (ta δ).bind fun k => if k = true then .ok true else tb δ
def gNot (ta : GT) : GT := fun δ => (ta δ).bind fun k => .ok (!k)
theorem and_of {c : DC} (σ : L2.St) (H : Hp) (Q : Bool → Hp → Prop) (h : tDT c (gAnd ta tb) σ H Q) : tAnd (tDT c ta) (tDT c tb) σ H Q := by
  obtain ⟨B, Rg, δ, S0, w⟩ := h
  refine tDT_seq (Qa := fun b _ H' => Q b H') S0 (fun _ _ _ _ q => q) w fun k H1 s1 S1 w1 => ?_
  cases k with
  | true =>
    rw [if_pos rfl] at w1 ⊢
    exact ⟨B, Rg, δ, S1, w1⟩
  | false =>
    rw [if_neg (by decide)] at w1 ⊢
    exact w1 H1 (Same.refl _)
theorem or_of {c : DC} (σ : L2.St) (H : Hp) (Q : Bool → Hp → Prop) (h : tDT c (gOr ta tb) σ H Q) : tOr (tDT c ta) (tDT c tb) σ H Q := by
  obtain ⟨B, Rg, δ, S0, w⟩ := h
  refine tDT_seq (Qa := fun b _ H' => Q b H') S0 (fun _ _ _ _ q => q) w fun k H1 s1 S1 w1 => ?_
  cases k with
  | true =>
    rw [if_pos rfl] at w1 ⊢
    exact w1 H1 (Same.refl _)
  | false =>
    rw [if_neg (by decide)] at w1 ⊢
    exact ⟨B, Rg, δ, S1, w1⟩
theorem dw_and1 (ha : DT W X a ta) : DW W X (.BoolOp .And [a] pos) ta := pw_and1 ha
theorem dw_or1 (ha : DT W X a ta) : DW W X (.BoolOp .Or [a] pos) ta := pw_or1 ha
theorem dw_and {rest : List Expr} (ha : DT W X a ta) (hb : DW W X (.BoolOp .And (b :: rest) pos) tb) : DW W X (.BoolOp .And (a :: b :: rest) pos) (gAnd ta tb) := PW.imp (pw_and ha hb) and_of
theorem dw_or {rest : List Expr} (ha : DT W X a ta) (hb : DW W X (.BoolOp .Or (b :: rest) pos) tb) : DW W X (.BoolOp .Or (a :: b :: rest) pos) (gOr ta tb) := PW.imp (pw_or ha hb) or_of
theorem dt_w (h : DW W X a ta) : DT W X a ta := h.pt
theorem dt_not (ha : DT W X a ta) : DT W X (.UnaryOp .Not a pos) (gNot ta) := by
  refine PT.imp (pt_not ha) fun σ H Q ⟨B, Rg, δ, S0, w⟩ => ?_
  exact tDT_seq (Qa := fun b _ H' => Q b H') S0 (fun _ _ _ _ q => q) w fun k H1 s1 S1 w1 => w1 H1 (Same.refl _)
/-- .. as values -/
def gAndV (ga gb : GE) : GE := fun δ => (ga δ).bind fun r => (D.bool? r).bind fun k => if k = true then gb δ else .ok (.own (.p (.bl false)))
def gOrV (ga gb : GE) : GE := fun δ => (ga δ).bind fun r => (D.bool? r).bind fun k => if k = true then .ok (.own (.p (.bl true))) else gb δ
def gNotV (ga : GE) : GE := fun δ => (ga δ).bind fun r => (D.bool? r).bind fun k => .ok (.own (.p (.bl !k)))
theorem bool_cases {K : PySem.W.Frag} {H H1 : Hp} {r : R} {v : V} {α : Type} {f : Bool → Rn Unit α} {Q : α → Prop} {E : Str → Unit → Prop} (rv : RepR K H H1 r v) (h : ((D.bool? r).bind f).wp Q E) : ∃ k, v = .bl k ∧ (f k).wp Q E := by
  unfold D.bool? at h
  split at h
  · rename_i k e
    exact ⟨k, rv.getP e, h⟩
  · exact h.elim
theorem de_one {op} (ha : DE W X a ga) : DE W X (.BoolOp op [a] pos) ga := pe_one ha
theorem de_and {rest : List Expr} (ha : DE W X a ga) (hb : DE W X (.BoolOp .And (b :: rest) pos) gb) : DE W X (.BoolOp .And (a :: b :: rest) pos) (gAndV ga gb) := by
  refine PE.imp (pe_and ha hb) fun σ H Q ⟨B, Rg, δ, S0, w⟩ => ?_
  refine tD_val S0 w fun r1 v1 H1 s1 rv1 S1 w1 => ?_
  obtain ⟨k, rfl, w1⟩ := bool_cases rv1 w1
  refine ⟨k, rfl, ?_⟩
  cases k with
  | true =>
    rw [if_pos rfl] at w1 ⊢
    exact ⟨B, Rg, δ, S1, w1⟩
  | false =>
    rw [if_neg (by decide)] at w1 ⊢
    exact RepP.up w1 rfl
theorem de_or {rest : List Expr} (ha : DE W X a ga) (hb : DE W X (.BoolOp .Or (b :: rest) pos) gb) : DE W X (.BoolOp .Or (a :: b :: rest) pos) (gOrV ga gb) := by
  refine PE.imp (pe_or ha hb) fun σ H Q ⟨B, Rg, δ, S0, w⟩ => ?_
  refine tD_val S0 w fun r1 v1 H1 s1 rv1 S1 w1 => ?_
  obtain ⟨k, rfl, w1⟩ := bool_cases rv1 w1
  refine ⟨k, rfl, ?_⟩
  cases k with
  | true =>
    rw [if_pos rfl] at w1 ⊢
    exact RepP.up w1 rfl
  | false =>
    rw [if_neg (by decide)] at w1 ⊢
    exact ⟨B, Rg, δ, S1, w1⟩
theorem de_not (ha : DE W X a ga) : DE W X (.UnaryOp .Not a pos) (gNotV ga) := by
  refine PE.imp (pe_not ha) fun σ H Q ⟨B, Rg, δ, S0, w⟩ => ?_
  refine tD_val S0 w fun r1 v1 H1 s1 rv1 S1 w1 => ?_
  obtain ⟨k, rfl, w1⟩ := bool_cases rv1 w1
  exact ⟨k, rfl, RepP.up w1 rfl⟩
def gIf (t : GT) (ga gb : GE) : GE := fun δ => (t δ).bind fun k => if k = true then ga δ else gb δ
theorem de_if {c : Expr} (hc : DT W X c ta) (ha : DE W X a ga) (hb : DE W X b gb) : DE W X (.IfExp c a b pos) (gIf ta ga gb) := by
  refine PE.imp (pe_ifExp hc ha hb) fun σ H Q ⟨B, Rg, δ, S0, w⟩ => ?_
  refine tDT_seq (Qa := fun r H H' => ∀ v, RepR (dc X W).K H H' r v → Q v H') S0 (fun r H1 H2 s q v rv => q v (rv.back s)) (Rn.wp_mono w (fun r q H' s v rv => q v H' s rv) fun _ _ q => q) fun k H1 s1 S1 w1 => ?_
  have w2 := Rn.wp_mono (Q' := fun r => ∀ v H', Same H1 H' → RepR (dc X W).K H1 H' r v → Q v H') w1 (fun r q v H' s rv => q H' s v rv) fun _ _ q => q
  cases k with
  | true =>
    rw [if_pos rfl] at w2 ⊢
    exact ⟨B, Rg, δ, S1, w2⟩
  | false =>
    rw [if_neg (by decide)] at w2 ⊢
    exact ⟨B, Rg, δ, S1, w2⟩
end
end DL
/-! DLd: derivations of arguments, displays, subscripts, slices, built-ins by name. -/
namespace DL
open PySem PySem.Spec PyProof.Rows L2

def LookL (K : PySem.W.Frag) (H : Hp) : List D → List V → Prop
  | [], vs => vs = []
  | d :: ds, vs => ∃ v r, vs = v :: r ∧ (∃ fp, RepD K H d v fp) ∧ LookL K H ds r
section
variable {K : PySem.W.Frag} {H H' : Hp}
theorem RepRs.look : ∀ {rs : List R} {vs : List V} {fp : List Addr}, RepRs K H rs vs fp → LookL K H (rs.map R.d) vs
  | [], _, _, h => h.1
  | .own d :: rs, _, _, h => by
    obtain ⟨v, r, f, g, rfl, rfl, h1, h2⟩ := h
    exact ⟨v, r, rfl, ⟨f, h1⟩, RepRs.look h2⟩
  | .vw d :: rs, _, _, h => by
    obtain ⟨v, r, f, rfl, h1, h2⟩ := h
    exact ⟨v, r, rfl, ⟨f, h1⟩, RepRs.look h2⟩
theorem RepRs.grow (s : Same H H') : ∀ {rs : List R} {vs : List V} {fp : List Addr}, RepRs K H rs vs fp → RepRs K H' rs vs fp
  | [], _, _, h => h
  | .own d :: rs, _, _, h => by
    obtain ⟨v, r, f, g, rfl, rfl, h1, h2⟩ := h
    exact ⟨v, r, f, g, rfl, rfl, RepD.kt (Same.kt s) d v f (fun a _ o e => s a o e) h1, RepRs.grow s h2⟩
  | .vw d :: rs, _, _, h => by
    obtain ⟨v, r, f, rfl, h1, h2⟩ := h
    exact ⟨v, r, f, rfl, RepD.kt (Same.kt s) d v f (fun a _ o e => s a o e) h1, RepRs.grow s h2⟩
theorem RepA.grow {H0 : Hp} {rs : List R} {vs : List V} (h : RepA K H0 H rs vs) (s : Same H H') : RepA K H0 H' rs vs := by
  obtain ⟨fp, q, n, f⟩ := h
  exact ⟨fp, q.grow s, n, f⟩
theorem RepA.back {H0 H1 : Hp} {rs : List R} {vs : List V} (h : RepA K H1 H rs vs) (s : Same H0 H1) : RepA K H0 H rs vs := by
  obtain ⟨fp, q, n, f⟩ := h
  exact ⟨fp, q, n, fun a ha => s.free (f a ha)⟩
end
section
variable {K : PySem.W.Frag} {H : Hp}
mutual
theorem RepD.mem : ∀ {x : D} {v : V} {fp : List Addr}, RepD K H x v fp → ∀ a ∈ fp, H a ≠ none
  | .p x, v, fp, h => fun a ha => by rw [h.2] at ha; cases ha
  | .lst xs, v, fp, h => fun b hb => by
    obtain ⟨a, vs, e, q, rfl, r⟩ := h
    obtain rfl : b = a := by simpa using hb
    rw [q]; exact fun z => nomatch z
  | .ls xs, v, fp, h => fun b hb => by
    obtain ⟨a, vs, f, e, q, rfl, r⟩ := h
    rcases List.mem_cons.mp hb with rfl | hb
    · rw [q]; exact fun z => nomatch z
    · exact RepDs.mem r b hb
  | .tp xs, v, fp, h => by
    obtain ⟨a, vs, e, q, r⟩ := h
    exact RepDs.mem r
  | .dic kvs, v, fp, h => fun b hb => by
    obtain ⟨a, vs, e, q, rfl, r⟩ := h
    obtain rfl : b = a := by simpa using hb
    rw [q]; exact fun z => nomatch z
  | .dit kvs, v, fp, h => fun b hb => by
    obtain ⟨a, vs, e, q, rfl, r⟩ := h
    obtain rfl : b = a := by simpa using hb
    rw [q]; exact fun z => nomatch z
  | .scr ns, v, fp, h => fun a ha => by rw [h.1] at ha; cases ha
  | .orc, v, fp, h => fun b hb => by
    obtain ⟨a, z, ns, e, rfl, q1, q2⟩ := h
    rcases List.mem_cons.mp hb with rfl | hb
    · rw [q1]; exact fun z => nomatch z
    · obtain rfl : b = z := by simpa using hb
      rw [q2]; exact fun z => nomatch z
theorem RepDs.mem : ∀ {xs : List D} {vs : List V} {fp : List Addr}, RepDs K H xs vs fp → ∀ a ∈ fp, H a ≠ none
  | [], vs, fp, h => fun a ha => by rw [h.2] at ha; cases ha
  | x :: xs, vs, fp, h => fun b hb => by
    obtain ⟨v, r, f, g, e, rfl, h1, h2⟩ := h
    rcases List.mem_append.mp hb with z | z
    · exact RepD.mem h1 b z
    · exact RepDs.mem h2 b z
end
end
section
variable {K : PySem.W.Frag} {H : Hp}
/-- what stands for ever -/
def Fast (H : Hp) (a : Addr) : Prop := (∃ xs, H a = some (.tup xs)) ∨ ∃ o u, H a = some (.frz o u)
theorem not_fast {a : Addr} {o : HO} (h : H a = some o) (hm : Mut (some o)) : ¬ Fast H a := fun q => by
  rcases q with ⟨_, q⟩ | ⟨_, _, q⟩ <;> (rw [h] at q; cases q; exact hm)
mutual
theorem RepD.ntup : ∀ {x : D} {v : V} {fp : List Addr}, RepD K H x v fp → ∀ a ∈ fp, ¬ Fast H a
  | .p x, v, fp, h => fun a ha => by rw [h.2] at ha; cases ha
  | .lst xs, v, fp, h => fun b hb => by
    obtain ⟨a, vs, e, q, rfl, r⟩ := h
    obtain rfl : b = a := by simpa using hb
    exact not_fast q trivial
  | .ls xs, v, fp, h => fun b hb => by
    obtain ⟨a, vs, f, e, q, rfl, r⟩ := h
    rcases List.mem_cons.mp hb with rfl | hb
    · exact not_fast q trivial
    · exact RepDs.ntup r b hb
  | .tp xs, v, fp, h => by
    obtain ⟨a, vs, e, q, r⟩ := h
    exact RepDs.ntup r
  | .dic kvs, v, fp, h => fun b hb => by
    obtain ⟨a, vs, e, q, rfl, r⟩ := h
    obtain rfl : b = a := by simpa using hb
    exact not_fast q trivial
  | .dit kvs, v, fp, h => fun b hb => by
    obtain ⟨a, vs, e, q, rfl, r⟩ := h
    obtain rfl : b = a := by simpa using hb
    exact not_fast q trivial
  | .scr ns, v, fp, h => fun a ha => by rw [h.1] at ha; cases ha
  | .orc, v, fp, h => fun b hb => by
    obtain ⟨a, z, ns, e, rfl, q1, q2⟩ := h
    rcases List.mem_cons.mp hb with rfl | hb
    · exact not_fast q1 trivial
    · obtain rfl : b = z := by simpa using hb
      exact not_fast q2 trivial
theorem RepDs.ntup : ∀ {xs : List D} {vs : List V} {fp : List Addr}, RepDs K H xs vs fp → ∀ a ∈ fp, ¬ Fast H a
  | [], vs, fp, h => fun a ha => by rw [h.2] at ha; cases ha
  | x :: xs, vs, fp, h => fun b hb => by
    obtain ⟨v, r, f, g, e, rfl, h1, h2⟩ := h
    rcases List.mem_append.mp hb with z | z
    · exact RepD.ntup h1 b z
    · exact RepDs.ntup h2 b z
end
end
section
variable {W : WX} {X : Cx} {a b e : Expr} {es : List Expr} {ga gb gc : GE} {gs : GA} {pos : Pos}
def gNil : GA := fun _ => .ok []
def gCons (ga : GE) (gs : GA) : GA := fun δ => (ga δ).bind fun r => (gs δ).bind fun rs => .ok (r :: rs)
theorem da_nil : DA W X [] gNil := PA.imp pa_nil fun σ H Q ⟨B, Rg, δ, S0, w⟩ => w [] H (Same.refl H) ⟨[], ⟨rfl, rfl⟩, List.nodup_nil, fun _ z => nomatch z⟩
theorem da_cons (ha : DE W X a ga) (hs : DA W X es gs) (he : starEach (a :: es) X.env = (false, eval a X.env) :: starEach es X.env := by rfl) : DA W X (a :: es) (gCons ga gs) := by
  refine PA.imp (pa_cons ha hs he) fun σ H Q ⟨B, Rg, δ, S0, w⟩ => ?_
  refine ⟨B, Rg, δ, S0, Rn.wp_mono (Rn.wp_bind.mp w) (fun r q v H1 s1 rv => ?_) fun _ _ q => q⟩
  refine ⟨B, Rg, δ, S0.grow s1, Rn.wp_mono (Rn.wp_bind.mp q) (fun rs q vs H2 s2 ra => q (v :: vs) H2 (s1.trans s2) ?_) fun cl _ q C H' e s => q C H' e (s1.trans s)⟩
  obtain ⟨fp, q1, n1, f1⟩ := ra
  cases r with
  | vw d =>
    obtain ⟨g, q2⟩ := rv.grow s2
    exact ⟨fp, ⟨v, vs, g, rfl, q2, q1⟩, n1, fun a ha => s1.free (f1 a ha)⟩
  | own d =>
    obtain ⟨g, q2, n2, f2⟩ := rv
    refine ⟨g ++ fp, ⟨v, vs, g, fp, rfl, rfl, RepD.kt (Same.kt s2) d v g (fun a _ o e => s2 a o e) q2, q1⟩, ?_, fun a ha => ?_⟩
    · rw [List.nodup_append]
      refine ⟨n2, n1, fun a ha b hb e => ?_⟩
      subst e
      exact q2.mem a ha (f1 a hb)
    · rcases List.mem_append.mp ha with z | z
      · exact f2 a z
      · exact s1.free (f1 a z)
/-! ### displays -/
def plains : List R → Option (List P)
  | [] => some []
  | r :: rs => match r.d, plains rs with
    | .p x, some xs => some (x :: xs)
    | _, _ => none
def owns : List R → Option (List D)
  | [] => some []
  | .own d :: rs => (owns rs).map (d :: ·)
  | .vw (.p x) :: rs => (owns rs).map (.p x :: ·)
  | .vw _ :: _ => none
theorem plains_ok {K : PySem.W.Frag} {H : Hp} : ∀ {rs : List R} {vs : List V} {fp : List Addr} {xs : List P}, RepRs K H rs vs fp → plains rs = some xs → RepPs K H xs vs
  | [], _, _, _, h, e => by
    obtain rfl : ([] : List P) = _ := by simpa [plains] using e
    exact h.1
  | r :: rs, vs, fp, xs, h, e => by
    unfold plains at e
    split at e
    · rename_i x ys e1 e2
      obtain rfl := Option.some.inj e
      cases r with
      | own d =>
        obtain rfl : d = .p x := e1
        obtain ⟨v, r, f, g, rfl, rfl, h1, h2⟩ := h
        exact ⟨v, r, rfl, h1.1, plains_ok h2 e2⟩
      | vw d =>
        obtain rfl : d = .p x := e1
        obtain ⟨v, r, f, rfl, h1, h2⟩ := h
        exact ⟨v, r, rfl, h1.1, plains_ok h2 e2⟩
    · cases e
theorem owns_ok {K : PySem.W.Frag} {H : Hp} : ∀ {rs : List R} {vs : List V} {fp : List Addr} {xs : List D}, RepRs K H rs vs fp → owns rs = some xs → RepDs K H xs vs fp
  | [], _, _, _, h, e => by
    obtain rfl : ([] : List D) = _ := by simpa [owns] using e
    exact h
  | .own d :: rs, vs, fp, xs, h, e => by
    unfold owns at e
    cases e2 : owns rs with
    | none => rw [e2] at e; cases e
    | some ys =>
      rw [e2] at e
      obtain rfl := Option.some.inj e
      obtain ⟨v, r, f, g, rfl, rfl, h1, h2⟩ := h
      exact ⟨v, r, f, g, rfl, rfl, h1, owns_ok h2 e2⟩
  | .vw d :: rs, vs, fp, xs, h, e => by
    cases d with
    | p x =>
      simp only [owns] at e
      cases e2 : owns rs with
      | none => rw [e2] at e; cases e
      | some ys =>
        rw [e2] at e
        obtain rfl := Option.some.inj e
        obtain ⟨v, r, f, rfl, h1, h2⟩ := h
        exact ⟨v, r, [], fp, rfl, rfl, ⟨h1.1, rfl⟩, owns_ok h2 e2⟩
    | _ => simp [owns] at e
theorem RepRs.len {K : PySem.W.Frag} {H : Hp} : ∀ {rs : List R} {vs : List V} {fp : List Addr}, RepRs K H rs vs fp → vs.length = rs.length
  | [], _, _, h => by
    obtain ⟨rfl, _⟩ := h
    rfl
  | .own d :: rs, _, _, h => by
    obtain ⟨v, r, f, g, rfl, rfl, h1, h2⟩ := h
    simp [RepRs.len h2]
  | .vw d :: rs, _, _, h => by
    obtain ⟨v, r, f, rfl, h1, h2⟩ := h
    simp [RepRs.len h2]
def gTup (gs : GA) : GE := fun δ => (gs δ).bind fun rs => if rs.length ≤ 1000 then match plains rs with
  | some xs => .ok (.own (.p (.tup xs)))
  | none => match owns rs with
    | some ds => .ok (.own (.tp ds))
    | none => .bad else .bad
def gLst (gs : GA) : GE := fun δ => (gs δ).bind fun rs => if rs.length ≤ 1000 then match plains rs with
  | some xs => .ok (.own (.lst xs))
  | none => match owns rs with
    | some ds => .ok (.own (.ls ds))
    | none => .bad else .bad
theorem de_tup {k : Nat} (hs : DA W X es gs) : DE W X (.Tuple es k pos) (gTup gs) := by
  refine PE.imp (pe_tup hs) fun σ H Q ⟨B, Rg, δ, S0, w⟩ => ?_
  refine ⟨B, Rg, δ, S0, Rn.wp_mono (Rn.wp_bind.mp w) (fun rs q vs H1 s1 ra => ?_) fun _ _ q => q⟩
  obtain ⟨fp, q1, n1, f1⟩ := ra
  split at q
  · rename_i hz
    refine ⟨by rw [q1.len, sizeLine_eq]; omega, fun p hp => ?_⟩
    split at q
    · rename_i xs e
      exact q _ _ (s1.trans (Same.new hp)) (RepR.plain ⟨p, vs, rfl, .inl (.inl upd_same), RepPs.kt (Same.kt (Same.new hp)) _ _ (plains_ok q1 e)⟩)
    · split at q
      · rename_i ds e
        refine q _ _ (s1.trans (Same.new hp)) ⟨fp, ⟨p, vs, rfl, .inl (.inl upd_same), RepDs.kt (Same.kt (Same.new hp)) _ _ _ (fun a _ o e => Same.new hp a o e) (owns_ok q1 e)⟩, n1, f1⟩
      · exact q.elim
  · exact q.elim
theorem de_lst (hs : DA W X es gs) : DE W X (.List es pos) (gLst gs) := by
  refine PE.imp (pe_lst hs) fun σ H Q ⟨B, Rg, δ, S0, w⟩ => ?_
  refine ⟨B, Rg, δ, S0, Rn.wp_mono (Rn.wp_bind.mp w) (fun rs q vs H1 s1 ra => ?_) fun _ _ q => q⟩
  obtain ⟨fp, q1, n1, f1⟩ := ra
  split at q
  · rename_i hz
    refine ⟨by rw [q1.len, sizeLine_eq]; omega, fun p hp => ?_⟩
    split at q
    · rename_i xs e
      exact q _ _ (s1.trans (Same.new hp)) ⟨[p], ⟨p, vs, rfl, upd_same, rfl, RepPs.kt (Same.kt (Same.new hp)) _ _ (plains_ok q1 e)⟩, by simp, fun b hb => by
        obtain rfl : b = p := by simpa using hb
        exact s1.free hp⟩
    · split at q
      · rename_i ds e
        have r2 := owns_ok q1 e
        refine q _ _ (s1.trans (Same.new hp)) ⟨p :: fp, ⟨p, vs, fp, rfl, upd_same, rfl, RepDs.kt (Same.kt (Same.new hp)) _ _ _ (fun a _ o e => Same.new hp a o e) r2⟩, ?_, fun b hb => ?_⟩
        · rw [List.nodup_cons]
          exact ⟨fun z => RepDs.mem r2 p z hp, n1⟩
        · rcases List.mem_cons.mp hb with rfl | hb
          · exact s1.free hp
          · exact f1 b hb
      · exact q.elim
  · exact q.elim
end
end DL
/-! DLe: subscripts, slices, built-ins by name. -/
namespace DL
open PySem PySem.Spec PyProof.Rows L2

section
variable {K : PySem.W.Frag} {H : Hp}
/-! ### subscripts -/
def keyP : P → Option Key
  | .int i => some (.inl i)
  | .str x => some (.inr x)
  | _ => none
def valP {κ : Type} [DecidableEq κ] (kvs : List (κ × P)) (k : κ) : Option P := (kvs.find? fun kv => decide (kv.1 = k)).map (·.2)
theorem keyP_kV {x : P} {v : V} {k : Key} (r : RepP K H x v) (e : keyP x = some k) : v = kV k := by
  cases x with
  | int i =>
    obtain rfl := Option.some.inj e
    exact r
  | str i =>
    obtain rfl := Option.some.inj e
    exact r
  | _ => cases e
theorem RepKs.get {κ : Type} [DecidableEq κ] {k : κ} : ∀ {kvs : List (κ × P)} {ws : List (κ × V)}, RepKs K H kvs ws → match valP kvs k with
    | some x => ∃ v, valV ws k = some v ∧ RepP K H x v
    | none => valV ws k = none
  | [], ws, h => by
    obtain rfl : ws = [] := h
    rfl
  | (c, x) :: kvs, ws, h => by
    obtain ⟨v, r, rfl, h1, h2⟩ := h
    by_cases e : c = k
    · have e1 : valP ((c, x) :: kvs) k = some x := by simp [valP, List.find?_cons, e]
      rw [e1]
      exact ⟨v, valV_pos e, h1⟩
    · have e1 : valP ((c, x) :: kvs) k = valP kvs k := by simp [valP, List.find?_cons, e]
      rw [e1, valV_neg (p := (c, v)) e]
      exact RepKs.get h2
def fIx : D → D → Rn Unit R
  | .p (.tup xs), .p (.int i) => match atI xs i with
    | some x => .ok (.own (.p x))
    | none => .bad
  | .p (.str z), .p (.int i) => if z.length ≤ sizeLine then match atI z.cps.toList i with
    | some c => .ok (.own (.p (.str ⟨#[c]⟩)))
    | none => .bad else .bad
  | .lst xs, .p (.int i) => match atI xs i with
    | some x => .ok (.own (.p x))
    | none => .bad
  | .ls xs, .p (.int i) => match atI xs i with
    | some x => .ok (.vw x)
    | none => .bad
  | .tp xs, .p (.int i) => match atI xs i with
    | some x => .ok (.vw x)
    | none => .bad
  | .dic kvs, .p x => match keyP x with
    | some k => match valP kvs k with
      | some y => .ok (.own (.p y))
      | none => .bad
    | none => .bad
  | _, _ => .bad
theorem RepPs.at {xs : List P} {vs : List V} {i : Int} {x : P} (h : RepPs K H xs vs) (e : atI xs i = some x) : ∃ v, atI vs i = some v ∧ RepP K H x v := by
  unfold atI at e ⊢
  rw [h.len]
  cases z : ixN xs.length i with
  | none => rw [z] at e; cases e
  | some j =>
    rw [z] at e
    exact RepPs.get h e
theorem RepDs.len : ∀ {xs : List D} {vs : List V} {fp : List Addr}, RepDs K H xs vs fp → vs.length = xs.length
  | [], _, _, h => by
    obtain ⟨rfl, _⟩ := h
    rfl
  | x :: xs, _, _, h => by
    obtain ⟨v, r, f, g, rfl, rfl, h1, h2⟩ := h
    simp [RepDs.len h2]
theorem RepDs.get : ∀ {xs : List D} {vs : List V} {fp : List Addr} {i : Nat} {x : D}, RepDs K H xs vs fp → xs[i]? = some x → ∃ v f, vs[i]? = some v ∧ RepD K H x v f
  | [], _, _, i, _, _, e => by simp at e
  | x :: xs, _, _, 0, y, h, e => by
    obtain ⟨v, r, f, g, rfl, rfl, h1, h2⟩ := h
    obtain rfl : x = y := by simpa using e
    exact ⟨v, f, rfl, h1⟩
  | x :: xs, _, _, i + 1, y, h, e => by
    obtain ⟨v, r, f, g, rfl, rfl, h1, h2⟩ := h
    obtain ⟨u, f', q1, q2⟩ := RepDs.get (i := i) h2 (by simpa using e)
    exact ⟨u, f', by simpa using q1, q2⟩
theorem RepDs.at {xs : List D} {vs : List V} {fp : List Addr} {i : Int} {x : D} (h : RepDs K H xs vs fp) (e : atI xs i = some x) : ∃ v f, atI vs i = some v ∧ RepD K H x v f := by
  unfold atI at e ⊢
  rw [h.len]
  cases z : ixN xs.length i with
  | none => rw [z] at e; cases e
  | some j =>
    rw [z] at e
    exact RepDs.get h e
end
def rIxA (K : PySem.W.Frag) : R2 := fun x y H Q => rIx K x y H Q ∨ ∃ a v, x = .ref a ∧ DGet H a y (some v) ∧ Q v H
theorem ix_dict {X : Cx} (hu : X.A.units + 1 < cLine) : IxR X (fun x y H Q => ∃ a v, x = .ref a ∧ DGet H a y (some v) ∧ Q v H) := by
  intro value slice pins s σ H x y v u Q I rx ry h hs
  obtain ⟨a, w, rfl, g, q⟩ := h
  obtain rfl : v = Value.ref a := rx
  exact tail_any (dict_typeIs I g) PySem.F.slot_dict_getitem.lookup (d_getItem hu I g ry fun w' s3 I3 rw' => ⟨w, H, I3, rw', q⟩) hs
theorem og_ix {K : PySem.W.Frag} : OpG K (rIxA K) fIx := by
  intro H x y v u fx fy Q E rx ry h
  unfold fIx at h
  split at h
  · rename_i xs i
    obtain ⟨⟨a, vs, rfl, q, r⟩, _⟩ := rx
    obtain rfl : u = .int i := ry.1
    split at h
    · rename_i x e
      obtain ⟨w, e1, r1⟩ := r.at e
      exact .inl (.inr (.inl ⟨a, vs, i, w, rfl, rfl, q, e1, RepP.up h r1⟩))
    · exact h.elim
  · rename_i z i
    obtain rfl : v = .str z := rx.1
    obtain rfl : u = .int i := ry.1
    split at h
    · rename_i hz
      split at h
      · rename_i c e
        exact .inl (.inr (.inr ⟨z, i, c, rfl, rfl, hz, e, RepP.up h rfl⟩))
      · exact h.elim
    · exact h.elim
  · rename_i xs i
    obtain ⟨a, vs, rfl, q, _, r⟩ := rx
    obtain rfl : u = .int i := ry.1
    split at h
    · rename_i x e
      obtain ⟨w, e1, r1⟩ := r.at e
      exact .inl (.inl ⟨a, vs, i, w, rfl, rfl, SqL.of q, e1, RepP.up h r1⟩)
    · exact h.elim
  · rename_i xs i
    obtain ⟨a, vs, f, rfl, q, _, r⟩ := rx
    obtain rfl : u = .int i := ry.1
    split at h
    · rename_i x e
      obtain ⟨w, f', e1, r1⟩ := r.at e
      exact .inl (.inl ⟨a, vs, i, w, rfl, rfl, SqL.of q, e1, h w H (Same.refl H) ⟨f', r1⟩⟩)
    · exact h.elim
  · rename_i xs i
    obtain ⟨a, vs, rfl, q, r⟩ := rx
    obtain rfl : u = .int i := ry.1
    split at h
    · rename_i x e
      obtain ⟨w, f', e1, r1⟩ := r.at e
      exact .inl (.inr (.inl ⟨a, vs, i, w, rfl, rfl, q, e1, h w H (Same.refl H) ⟨f', r1⟩⟩))
    · exact h.elim
  · rename_i kvs x
    obtain ⟨a, ws, rfl, q, _, r⟩ := rx
    split at h
    · rename_i k ek
      obtain rfl : u = kV k := keyP_kV ry.1 ek
      split at h
      · rename_i y ey
        have g := RepKs.get (k := k) r
        rw [ey] at g
        obtain ⟨w, e1, r1⟩ := g
        exact .inr ⟨a, w, rfl, by rw [← e1]; exact DGet.k q, RepP.up h r1⟩
      · exact h.elim
    · exact h.elim
  · exact h.elim
section
variable {W : WX} {X : Cx} {a b e : Expr} {es : List Expr} {ga gb gc : GE} {gs : GA} {pos : Pos}
theorem de_ix (hu : X.A.units + 1 < cLine) (ha : DE W X a ga) (hb : DE W X b gb) (hs : PlainIx b := by exact fun _ _ => rfl) : DE W X (.Subscript a b pos) (gOp2 fIx ga gb) :=
  PE.imp (pe_ix (ix_seq.or (ix_dict hu)) ha hb hs) (op2_of og_ix)

/-! ### slices -/
abbrev GO := Sl → Rn Unit (Option Int)
def gNoPart : GO := fun _ => .ok none
def gPart (g : GE) : GO := fun δ => (g δ).bind fun r => match r.d with
  | .p (.int i) => .ok (some i)
  | _ => .bad
def tDO (c : DC) (g : GO) : TO := fun σ H Q => ∃ (B : Hp) (Rg : Rgs c.ex) (δ : Sl), SRel c.K B Rg σ H δ ∧ (g δ).wp (fun o => ∀ H', Same H H' → Q o H') fun cl _ => ∀ C H', c.mg cl = some (.ref C) → Same H H' → c.W (.ref C) none σ H'
def DO (W : WX) (X : Cx) (o : Option Expr) (g : GO) : Prop := PO X o (tDO (dc X W) g)
theorem PO.imp {X : Cx} {o : Option Expr} {t t' : TO} (h : PO X o t) (m : ∀ σ H Q, t' σ H Q → t σ H Q) : PO X o t' := ⟨fun pins s σ H Q I q => h.run pins s σ H Q I (m σ H Q q)⟩
theorem do_none : DO W X none gNoPart := PO.imp po_none fun σ H Q ⟨B, Rg, δ, S0, w⟩ => w H (Same.refl H)
theorem do_some (h : DE W X e ga) : DO W X (some e) (gPart ga) := by
  refine PO.imp (po_some h) fun σ H Q ⟨B, Rg, δ, S0, w⟩ => ?_
  refine ⟨B, Rg, δ, S0, Rn.wp_mono (Rn.wp_bind.mp w) (fun r q v H1 s1 rv => ?_) fun _ _ q => q⟩
  split at q
  · rename_i i e
    obtain rfl : v = .int i := rv.getP e
    exact ⟨i, rfl, q H1 s1⟩
  · exact q.elim
def cutP {α : Type} (xs : List α) (lo hi : Option Int) : List α := (xs.drop (HT.sIx xs.length 0 lo)).take (HT.sIx xs.length xs.length hi - HT.sIx xs.length 0 lo)
def fSl : D → Option Int → Option Int → Rn Unit R
  | .p (.tup xs), lo, hi => .ok (.own (.p (.tup (cutP xs lo hi))))
  | .p (.str z), lo, hi => if z.length ≤ sizeLine then .ok (.own (.p (.str (cutS z lo hi)))) else .bad
  | .lst xs, lo, hi => .ok (.own (.lst (cutP xs lo hi)))
  | _, _, _ => .bad
def gSl (ga : GE) (gl gh : GO) : GE := fun δ => (ga δ).bind fun r => (gl δ).bind fun lo => (gh δ).bind fun hi => fSl r.d lo hi
theorem RepPs.cut {K : PySem.W.Frag} {H : Hp} {xs : List P} {vs : List V} (h : RepPs K H xs vs) (lo hi : Option Int) : RepPs K H (cutP xs lo hi) (cutV vs lo hi) := by
  unfold cutP cutV
  rw [h.len]
  exact (h.drop _).take _
theorem cut_whole {α : Type} (xs : List α) {lo hi : Option Int} (h : HT.sIx xs.length 0 lo = 0 ∧ HT.sIx xs.length xs.length hi = xs.length) : cutP xs lo hi = xs := by
  unfold cutP
  rw [h.1, h.2, Nat.sub_zero, List.drop_zero, List.take_length]
theorem de_slice {lo hi : Option Expr} {gl gh : GO} {p2 : Pos} (ha : DE W X e ga) (hl : DO W X lo gl) (hh : DO W X hi gh) : DE W X (.Subscript e (.Slice lo hi none p2) pos) (gSl ga gl gh) := by
  refine PE.imp (pe_slice (sl_list.or (sl_tupA.or sl_str)) ha hl hh) fun σ H Q ⟨B, Rg, δ, S0, w⟩ => ?_
  refine ⟨B, Rg, δ, S0, Rn.wp_mono (Rn.wp_bind.mp w) (fun r q v H1 s1 rv => ?_) fun _ _ q => q⟩
  refine ⟨B, Rg, δ, S0.grow s1, Rn.wp_mono (Rn.wp_bind.mp q) (fun lo q H2 s2 => ?_) fun cl _ q C H' e s => q C H' e (s1.trans s)⟩
  refine ⟨B, Rg, δ, (S0.grow s1).grow s2, Rn.wp_mono (Rn.wp_bind.mp q) (fun hi q H3 s3 => ?_) fun cl _ q C H' e s => q C H' e (s1.trans (s2.trans s))⟩
  have s13 := s1.trans (s2.trans s3)
  obtain ⟨fp, q1⟩ := ((rv.grow s2).grow s3).look
  generalize r.d = d at q1 q
  unfold fSl at q
  split at q
  · rename_i lo hi xs
    obtain ⟨⟨p, vs, rfl, q2, r2⟩, _⟩ := q1
    refine .inr (.inl ⟨p, vs, rfl, q2, fun z => ?_, fun _ p' hp => ?_⟩)
    · rw [r2.len] at z
      rw [cut_whole xs z] at q
      exact q _ H3 s13 (RepR.plain ⟨p, vs, rfl, q2, r2⟩)
    · exact q _ _ (s13.trans (Same.new hp)) (RepR.plain ⟨p', _, rfl, .inl (.inl upd_same), RepPs.kt (Same.kt (Same.new hp)) _ _ (r2.cut _ _)⟩)
  · rename_i lo hi z
    obtain rfl : v = .str z := q1.1
    split at q
    · rename_i hz
      exact .inr (.inr ⟨z, rfl, hz, q _ H3 s13 (RepR.plain rfl)⟩)
    · exact q.elim
  · rename_i lo hi xs
    obtain ⟨p, vs, rfl, q2, _, r2⟩ := q1
    refine .inl ⟨p, vs, rfl, SqL.of q2, fun p' hp => ?_⟩
    exact q _ _ (s13.trans (Same.new hp)) ⟨[p'], ⟨p', _, rfl, upd_same, rfl, RepPs.kt (Same.kt (Same.new hp)) _ _ (r2.cut _ _)⟩, by simp, fun b hb => by
      obtain rfl : b = p' := by simpa using hb
      exact s13.free hp⟩
  · exact q.elim

/-! ### built-ins by name -/
def CallG (K : PySem.W.Frag) (r : List V → Hp → VK → Prop) (f : List D → Rn Unit R) : Prop := ∀ (H : Hp) (ds : List D) (vs : List V) (Q : VK) (E : Str → Unit → Prop), LookL K H ds vs →
  (f ds).wp (fun r => ∀ v H', Same H H' → RepR K H H' r v → Q v H') E → r vs H Q
def gCall (f : List D → Rn Unit R) (gs : GA) : GE := fun δ => (gs δ).bind fun rs => f (rs.map R.d)
theorem call_of {r : List V → Hp → VK → Prop} {f : List D → Rn Unit R} (hf : CallG X.K r f) (σ : L2.St) (H : Hp) (Q : VK) (h : tD (dc X W) (gCall f gs) σ H Q) : tCB r (tDA (dc X W) gs) σ H Q := by
  obtain ⟨B, Rg, δ, S0, w⟩ := h
  refine ⟨B, Rg, δ, S0, Rn.wp_mono (Rn.wp_bind.mp w) (fun rs q vs H1 s1 ra => ?_) fun _ _ q => q⟩
  obtain ⟨fp, q1, _⟩ := ra
  exact hf H1 _ vs Q (fun cl _ => ∀ C H', (dc X W).mg cl = some (.ref C) → Same H H' → (dc X W).W (.ref C) none σ H') q1.look (Rn.wp_mono q (fun r q v H' s rv => q v H' (s1.trans s) (rv.back s1)) fun _ _ q => q)
theorem de_callB {id : String} {x : Str} {p : Pos} {r : List V → Hp → VK → Prop} {f : List D → Rn Unit R} (hc : CallR X (.builtin id) r) (hf : CallG X.K r f) (hm : X.mg x = none) (hv : bootBuiltins x = some (.builtin id)) (ha : DA W X (e :: es) gs)
    (hg : Gl X x := by rfl) (hn : x ≠ "__name__" := by decide) (hdb : (x == ("__debug__" : Str)) = false := by decide) (he : starEach (e :: es) X.env = (false, eval e X.env) :: starEach es X.env := by rfl) (hpl : (backTo pos (starEach es X.env)).any (·.1) = false := by rfl) :
    DE W X (.Call (.Name x p) (e :: es) [] pos) (gCall f gs) := PE.imp (pe_callB hc hg hm hv ha hn hdb he hpl) (call_of hf)
theorem de_callTy {T : String} {x : Str} {p : Pos} {r : List V → Hp → VK → Prop} {f : List D → Rn Unit R} (hc : CallR X (.type T) r) (hf : CallG X.K r f) (hm : X.mg x = none) (hv : bootBuiltins x = some (.type T)) (ha : DA W X (e :: es) gs)
    (hg : Gl X x := by rfl) (hn : x ≠ "__name__" := by decide) (hdb : (x == ("__debug__" : Str)) = false := by decide) (he : starEach (e :: es) X.env = (false, eval e X.env) :: starEach es X.env := by rfl) (hpl : (backTo pos (starEach es X.env)).any (·.1) = false := by rfl) :
    DE W X (.Call (.Name x p) (e :: es) [] pos) (gCall f gs) := PE.imp (pe_callTy hc hg hm hv ha hn hdb he hpl) (call_of hf)
end
section
variable {K : PySem.W.Frag} {H : Hp}
theorem LookL.one {d : D} {vs : List V} (h : LookL K H [d] vs) : ∃ v fp, vs = [v] ∧ RepD K H d v fp := by
  obtain ⟨v, r, rfl, ⟨fp, q⟩, rfl⟩ := h
  exact ⟨v, fp, rfl, q⟩
theorem LookL.two {d e : D} {vs : List V} (h : LookL K H [d, e] vs) : ∃ v u fp gp, vs = [v, u] ∧ RepD K H d v fp ∧ RepD K H e u gp := by
  obtain ⟨v, r, rfl, ⟨fp, q⟩, u, r', rfl, ⟨gp, q'⟩, rfl⟩ := h
  exact ⟨v, u, fp, gp, rfl, q, q'⟩
def fLen : List D → Rn Unit R
  | [.p (.str z)] => if z.length ≤ sizeLine then .ok (.own (.p (.int z.length))) else .bad
  | [.p (.tup xs)] => .ok (.own (.p (.int xs.length)))
  | [.lst xs] => .ok (.own (.p (.int xs.length)))
  | [.ls xs] => .ok (.own (.p (.int xs.length)))
  | [.tp xs] => .ok (.own (.p (.int xs.length)))
  | [.dic xs] => .ok (.own (.p (.int xs.length)))
  | _ => .bad
theorem RepKs.len {κ : Type} : ∀ {xs : List (κ × P)} {vs : List (κ × V)}, RepKs K H xs vs → vs.length = xs.length
  | [], vs, h => by
    obtain rfl : vs = [] := h
    rfl
  | (k, x) :: xs, vs, h => by
    obtain ⟨v, r, rfl, _, h2⟩ := h
    simp [RepKs.len h2]
theorem call_lenA {X : Cx} : CallR X (.builtin "len") (fun xs H Q => (∃ x n, xs = [x] ∧ LenV X.K x H n ∧ Q (.int n) H) ∨ ∃ a kvs, xs = [V.ref a] ∧ H a = some (.dK kvs) ∧ Q (.int kvs.length) H) := call_len.or call_lenD
theorem cg_len : CallG K (fun xs H Q => (∃ x n, xs = [x] ∧ LenV K x H n ∧ Q (.int n) H) ∨ ∃ a kvs, xs = [V.ref a] ∧ H a = some (.dK kvs) ∧ Q (.int kvs.length) H) fLen := by
  intro H ds vs Q E hl h
  unfold fLen at h
  split at h
  · rename_i z
    obtain ⟨v, fp, rfl, r⟩ := hl.one
    obtain rfl : v = .str z := r.1
    split at h
    · rename_i hz
      exact .inl ⟨.str z, z.length, rfl, ⟨hz, rfl⟩, RepP.up h rfl⟩
    · exact h.elim
  · rename_i xs
    obtain ⟨v, fp, rfl, r⟩ := hl.one
    obtain ⟨⟨a, vs, rfl, q, r⟩, _⟩ := r
    exact .inl ⟨.ref a, xs.length, rfl, .inr ⟨vs, q, r.len.symm⟩, RepP.up h rfl⟩
  · rename_i xs
    obtain ⟨v, fp, rfl, r⟩ := hl.one
    obtain ⟨a, vs, rfl, q, _, r⟩ := r
    exact .inl ⟨.ref a, xs.length, rfl, .inl ⟨vs, SqL.of q, r.len.symm⟩, RepP.up h rfl⟩
  · rename_i xs
    obtain ⟨v, fp, rfl, r⟩ := hl.one
    obtain ⟨a, vs, _, rfl, q, _, r⟩ := r
    exact .inl ⟨.ref a, xs.length, rfl, .inl ⟨vs, SqL.of q, r.len.symm⟩, RepP.up h rfl⟩
  · rename_i xs
    obtain ⟨v, fp, rfl, r⟩ := hl.one
    obtain ⟨a, vs, rfl, q, r⟩ := r
    exact .inl ⟨.ref a, xs.length, rfl, .inr ⟨vs, q, r.len.symm⟩, RepP.up h rfl⟩
  · rename_i xs
    obtain ⟨v, fp, rfl, r⟩ := hl.one
    obtain ⟨a, vs, rfl, q, _, r⟩ := r
    exact .inr ⟨a, vs, rfl, q, by rw [r.len]; exact RepP.up h rfl⟩
  · exact h.elim
theorem up_lst {xs : List P} {vs : List V} {Q : VK} (h : ∀ v H', Same H H' → RepR K H H' (.own (.lst xs)) v → Q v H') (r : RepPs K H xs vs) {p : Addr} (hp : H p = none) : Q (.ref p) (upd H p (.lst vs)) :=
  h _ _ (Same.new hp) ⟨[p], ⟨p, vs, rfl, upd_same, rfl, RepPs.kt (Same.kt (Same.new hp)) _ _ r⟩, by simp, fun b hb => by
    obtain rfl : b = p := by simpa using hb
    exact hp⟩
theorem up_tup {xs : List P} {vs : List V} {Q : VK} (h : ∀ v H', Same H H' → RepR K H H' (.own (.p (.tup xs))) v → Q v H') (r : RepPs K H xs vs) {p : Addr} (hp : H p = none) : Q (.ref p) (upd H p (.tup vs)) :=
  h _ _ (Same.new hp) (RepR.plain ⟨p, vs, rfl, .inl (.inl upd_same), RepPs.kt (Same.kt (Same.new hp)) _ _ r⟩)
def fTuple : List D → Rn Unit R
  | [.p (.tup xs)] => .ok (.own (.p (.tup xs)))
  | [.lst xs] => .ok (.own (.p (.tup xs)))
  | _ => .bad
theorem cg_tuple : CallG K (fun xs H Q => ∃ p ys, xs = [.ref p] ∧ ((SqL K H p ys ∧ ∀ l, H l = none → Q (.ref l) (upd H l (.tup ys))) ∨ (SqT K H p ys ∧ Q (.ref p) H))) fTuple := by
  intro H ds vs Q E hl h
  unfold fTuple at h
  split at h
  · rename_i xs
    obtain ⟨v, fp, rfl, r⟩ := hl.one
    obtain ⟨⟨a, vs, rfl, q, r⟩, _⟩ := r
    exact ⟨a, vs, rfl, .inr ⟨q, RepP.up h ⟨a, vs, rfl, q, r⟩⟩⟩
  · rename_i xs
    obtain ⟨v, fp, rfl, r⟩ := hl.one
    obtain ⟨a, vs, rfl, q, _, r⟩ := r
    exact ⟨a, vs, rfl, .inl ⟨SqL.of q, fun l hl => up_tup h r hl⟩⟩
  · exact h.elim
def fList : List D → Rn Unit R
  | [.p (.tup xs)] => .ok (.own (.lst xs))
  | [.lst xs] => .ok (.own (.lst xs))
  | _ => .bad
theorem cg_list : CallG K (fun xs H Q => ∃ p ys, xs = [.ref p] ∧ (SqL K H p ys ∨ SqT K H p ys) ∧ ∀ l, H l = none → Q (.ref l) (upd H l (.lst ys))) fList := by
  intro H ds vs Q E hl h
  unfold fList at h
  split at h
  · rename_i xs
    obtain ⟨v, fp, rfl, r⟩ := hl.one
    obtain ⟨⟨a, vs, rfl, q, r⟩, _⟩ := r
    exact ⟨a, vs, rfl, .inr q, fun l hl => up_lst h r hl⟩
  · rename_i xs
    obtain ⟨v, fp, rfl, r⟩ := hl.one
    obtain ⟨a, vs, rfl, q, _, r⟩ := r
    exact ⟨a, vs, rfl, .inl (SqL.of q), fun l hl => up_lst h r hl⟩
  · exact h.elim
def fAbs : List D → Rn Unit R
  | [.p (.int i)] => .ok (.own (.p (.int (if i < 0 then -i else i))))
  | _ => .bad
theorem cg_abs : CallG K (fun xs H Q => ∃ i, xs = [.int i] ∧ Q (.int (if i < 0 then -i else i)) H) fAbs := by
  intro H ds vs Q E hl h
  unfold fAbs at h
  split at h
  · rename_i i
    obtain ⟨v, fp, rfl, r⟩ := hl.one
    obtain rfl : v = .int i := r.1
    exact ⟨i, rfl, RepP.up h rfl⟩
  · exact h.elim
def fInt1 : List D → Rn Unit R
  | [.p (.int i)] => .ok (.own (.p (.int i)))
  | [.p (.bl k)] => .ok (.own (.p (.int (if k then 1 else 0))))
  | _ => .bad
theorem cg_int : CallG K (fun xs H Q => (∃ i, xs = [.int i] ∧ Q (.int i) H) ∨ ∃ k, xs = [.bl k] ∧ Q (.int (if k then 1 else 0)) H) fInt1 := by
  intro H ds vs Q E hl h
  unfold fInt1 at h
  split at h
  · rename_i i
    obtain ⟨v, fp, rfl, r⟩ := hl.one
    obtain rfl : v = .int i := r.1
    exact .inl ⟨i, rfl, RepP.up h rfl⟩
  · rename_i i
    obtain ⟨v, fp, rfl, r⟩ := hl.one
    obtain rfl : v = .bl i := r.1
    exact .inr ⟨i, rfl, RepP.up h rfl⟩
  · exact h.elim
def fMax2 : List D → Rn Unit R
  | [.p (.int i), .p (.int j)] => .ok (.own (.p (.int (if j > i then j else i))))
  | _ => .bad
def fMin2 : List D → Rn Unit R
  | [.p (.int i), .p (.int j)] => .ok (.own (.p (.int (if j < i then j else i))))
  | _ => .bad
theorem cg_max2 : CallG K (fun xs H Q => ∃ i j, xs = [.int i, .int j] ∧ Q (.int (if j > i then j else i)) H) fMax2 := by
  intro H ds vs Q E hl h
  unfold fMax2 at h
  split at h
  · rename_i i j
    obtain ⟨v, u, fp, gp, rfl, r, r'⟩ := hl.two
    obtain rfl : v = .int i := r.1
    obtain rfl : u = .int j := r'.1
    exact ⟨i, j, rfl, RepP.up h rfl⟩
  · exact h.elim
theorem cg_min2 : CallG K (fun xs H Q => ∃ i j, xs = [.int i, .int j] ∧ Q (.int (if j < i then j else i)) H) fMin2 := by
  intro H ds vs Q E hl h
  unfold fMin2 at h
  split at h
  · rename_i i j
    obtain ⟨v, u, fp, gp, rfl, r, r'⟩ := hl.two
    obtain rfl : v = .int i := r.1
    obtain rfl : u = .int j := r'.1
    exact ⟨i, j, rfl, RepP.up h rfl⟩
  · exact h.elim
/-- the ints of plain data -/
def pInts : List P → Option (List Int)
  | [] => some []
  | .int i :: xs => (pInts xs).map (i :: ·)
  | _ => none
theorem pInts_ok : ∀ {xs : List P} {ns : List Int}, pInts xs = some ns → xs = ns.map P.int
  | [], ns, e => by
    obtain rfl : ([] : List Int) = ns := by simpa [pInts] using e
    rfl
  | x :: xs, ns, e => by
    cases x with
    | int i =>
      simp only [pInts] at e
      cases z : pInts xs with
      | none => rw [z] at e; cases e
      | some ms =>
        rw [z] at e
        obtain rfl := Option.some.inj e
        rw [pInts_ok z]
        rfl
    | _ => simp [pInts] at e
@[simp] theorem pInts_map (ns : List Int) : pInts (ns.map P.int) = some ns := by
  induction ns with
  | nil => rfl
  | cons n ns ih => simp [pInts, ih]
def pBls : List P → Option (List Bool)
  | [] => some []
  | .bl i :: xs => (pBls xs).map (i :: ·)
  | _ => none
theorem pBls_ok : ∀ {xs : List P} {ns : List Bool}, pBls xs = some ns → xs = ns.map P.bl
  | [], ns, e => by
    obtain rfl : ([] : List Bool) = ns := by simpa [pBls] using e
    rfl
  | x :: xs, ns, e => by
    cases x with
    | bl i =>
      simp only [pBls] at e
      cases z : pBls xs with
      | none => rw [z] at e; cases e
      | some ms =>
        rw [z] at e
        obtain rfl := Option.some.inj e
        rw [pBls_ok z]
        rfl
    | _ => simp [pBls] at e
@[simp] theorem pBls_map (ns : List Bool) : pBls (ns.map P.bl) = some ns := by
  induction ns with
  | nil => rfl
  | cons n ns ih => simp [pBls, ih]
def pStrs : List P → Option (List Str)
  | [] => some []
  | .str i :: xs => (pStrs xs).map (i :: ·)
  | _ => none
theorem pStrs_ok : ∀ {xs : List P} {ns : List Str}, pStrs xs = some ns → xs = ns.map P.str
  | [], ns, e => by
    obtain rfl : ([] : List Str) = ns := by simpa [pStrs] using e
    rfl
  | x :: xs, ns, e => by
    cases x with
    | str i =>
      simp only [pStrs] at e
      cases z : pStrs xs with
      | none => rw [z] at e; cases e
      | some ms =>
        rw [z] at e
        obtain rfl := Option.some.inj e
        rw [pStrs_ok z]
        rfl
    | _ => simp [pStrs] at e
@[simp] theorem pStrs_map (ns : List Str) : pStrs (ns.map P.str) = some ns := by
  induction ns with
  | nil => rfl
  | cons n ns ih => simp [pStrs, ih]
def fSum : List D → Rn Unit R
  | [.lst xs] => match pInts xs with
    | some ns => .ok (.own (.p (.int ns.sum)))
    | none => .bad
  | _ => .bad
theorem cg_sum : CallG K (rSum K) fSum := by
  intro H ds vs Q E hl h
  unfold fSum at h
  split at h
  · rename_i xs
    split at h
    · rename_i ns e
      obtain ⟨v, fp, rfl, r⟩ := hl.one
      obtain ⟨a, vs, rfl, q, _, r⟩ := r
      obtain rfl := pInts_ok e
      obtain rfl := r.int
      exact ⟨a, ns, rfl, SqL.of q, RepP.up h rfl⟩
    · exact h.elim
  · exact h.elim
def fAnyAll (f : List Bool → Bool) : List D → Rn Unit R
  | [.lst xs] => match pBls xs with
    | some ns => .ok (.own (.p (.bl (f ns))))
    | none => .bad
  | _ => .bad
theorem cg_any : CallG K (rAny K) (fAnyAll fun bs => bs.any id) := by
  intro H ds vs Q E hl h
  unfold fAnyAll at h
  split at h
  · rename_i xs
    split at h
    · rename_i ns e
      obtain ⟨v, fp, rfl, r⟩ := hl.one
      obtain ⟨a, vs, rfl, q, _, r⟩ := r
      obtain rfl := pBls_ok e
      obtain rfl := r.bl
      exact ⟨a, ns, rfl, SqL.of q, RepP.up h rfl⟩
    · exact h.elim
  · exact h.elim
theorem cg_all : CallG K (rAll K) (fAnyAll fun bs => bs.all id) := by
  intro H ds vs Q E hl h
  unfold fAnyAll at h
  split at h
  · rename_i xs
    split at h
    · rename_i ns e
      obtain ⟨v, fp, rfl, r⟩ := hl.one
      obtain ⟨a, vs, rfl, q, _, r⟩ := r
      obtain rfl := pBls_ok e
      obtain rfl := r.bl
      exact ⟨a, ns, rfl, SqL.of q, RepP.up h rfl⟩
    · exact h.elim
  · exact h.elim
/-- the greatest, the least of ints -/
def maxL : List Int → Int
  | [] => 0
  | x :: xs => xs.foldl (fun a b => if b > a then b else a) x
def minL : List Int → Int
  | [] => 0
  | x :: xs => xs.foldl (fun a b => if b < a then b else a) x
theorem maxL_fold (xs : List Int) : ∀ x m, m ∈ x :: xs → (∀ y ∈ x :: xs, y ≤ m) → xs.foldl (fun a b => if b > a then b else a) x = m := by
  induction xs with
  | nil => intro x m h1 h2; simp at h1; exact h1.symm
  | cons y xs ih =>
    intro x m h1 h2
    rw [List.foldl_cons]
    refine ih _ m ?_ fun z hz => ?_
    · have hx := h2 x (by simp)
      have hy := h2 y (by simp)
      simp only [List.mem_cons] at h1 ⊢
      rcases h1 with h | h | h
      · by_cases c : y > x
        · omega
        · rw [if_neg c]; exact .inl h
      · by_cases c : y > x
        · rw [if_pos c]; exact .inl h
        · rw [if_neg c]; left; omega
      · exact .inr h
    · have hx := h2 x (by simp)
      have hy := h2 y (by simp)
      simp only [List.mem_cons] at hz
      rcases hz with h | h
      · subst h
        by_cases c : y > x
        · rw [if_pos c]; exact hy
        · rw [if_neg c]; exact hx
      · exact h2 z (by simp [h])
theorem minL_fold (xs : List Int) : ∀ x m, m ∈ x :: xs → (∀ y ∈ x :: xs, m ≤ y) → xs.foldl (fun a b => if b < a then b else a) x = m := by
  induction xs with
  | nil => intro x m h1 h2; simp at h1; exact h1.symm
  | cons y xs ih =>
    intro x m h1 h2
    rw [List.foldl_cons]
    refine ih _ m ?_ fun z hz => ?_
    · have hx := h2 x (by simp)
      have hy := h2 y (by simp)
      simp only [List.mem_cons] at h1 ⊢
      rcases h1 with h | h | h
      · by_cases c : y < x
        · omega
        · rw [if_neg c]; exact .inl h
      · by_cases c : y < x
        · rw [if_pos c]; exact .inl h
        · rw [if_neg c]; left; omega
      · exact .inr h
    · have hx := h2 x (by simp)
      have hy := h2 y (by simp)
      simp only [List.mem_cons] at hz
      rcases hz with h | h
      · subst h
        by_cases c : y < x
        · rw [if_pos c]; exact hy
        · rw [if_neg c]; exact hx
      · exact h2 z (by simp [h])
def fMaxL : List D → Rn Unit R
  | [.lst xs] => match pInts xs with
    | some ns => if 0 < ns.length then .ok (.own (.p (.int (maxL ns)))) else .bad
    | none => .bad
  | ds => fMax2 ds
def fMinL : List D → Rn Unit R
  | [.lst xs] => match pInts xs with
    | some ns => if 0 < ns.length then .ok (.own (.p (.int (minL ns)))) else .bad
    | none => .bad
  | ds => fMin2 ds
theorem cg_max : CallG K (fun xs H Q => rMax K xs H Q ∨ ∃ i j, xs = [.int i, .int j] ∧ Q (.int (if j > i then j else i)) H) fMaxL := by
  intro H ds vs Q E hl h
  unfold fMaxL at h
  split at h
  · rename_i xs
    split at h
    · rename_i ns e
      split at h
      · rename_i hn
        obtain ⟨v, fp, rfl, r⟩ := hl.one
        obtain ⟨a, vs, rfl, q, _, r⟩ := r
        obtain rfl := pInts_ok e
        obtain rfl := r.int
        refine .inl ⟨a, ns, rfl, SqL.of q, hn, fun m h1 h2 => ?_⟩
        cases ns with
        | nil => cases h1
        | cons x ns =>
          rw [← maxL_fold ns x m h1 h2]
          exact RepP.up h rfl
      · exact h.elim
    · exact h.elim
  · exact .inr (cg_max2 H ds vs Q E hl h)
theorem cg_min : CallG K (fun xs H Q => rMin K xs H Q ∨ ∃ i j, xs = [.int i, .int j] ∧ Q (.int (if j < i then j else i)) H) fMinL := by
  intro H ds vs Q E hl h
  unfold fMinL at h
  split at h
  · rename_i xs
    split at h
    · rename_i ns e
      split at h
      · rename_i hn
        obtain ⟨v, fp, rfl, r⟩ := hl.one
        obtain ⟨a, vs, rfl, q, _, r⟩ := r
        obtain rfl := pInts_ok e
        obtain rfl := r.int
        refine .inl ⟨a, ns, rfl, SqL.of q, hn, fun m h1 h2 => ?_⟩
        cases ns with
        | nil => cases h1
        | cons x ns =>
          rw [← minL_fold ns x m h1 h2]
          exact RepP.up h rfl
      · exact h.elim
    · exact h.elim
  · exact .inr (cg_min2 H ds vs Q E hl h)
end
section
variable {W : WX} {X : Cx} {a b e : Expr} {es : List Expr} {ga gb gc : GE} {gs : GA} {pos p : Pos}
theorem de_len (hm : X.mg "len" = none) (ha : DA W X (e :: es) gs) (hg : Gl X "len" := by rfl) (he : starEach (e :: es) X.env = (false, eval e X.env) :: starEach es X.env := by rfl) (hpl : (backTo pos (starEach es X.env)).any (·.1) = false := by rfl) : DE W X (.Call (.Name "len" p) (e :: es) [] pos) (gCall fLen gs) :=
  de_callB call_lenA cg_len hm PySem.boot_len ha hg (he := he) (hpl := hpl)
end
end DL
/-! DLf: statements, defs, calls. -/
namespace DL
open PySem PySem.Spec PyProof.Rows L2

section
variable {K : PySem.W.Frag} {B H H' : Hp} {ex : Option Addr} {Rg : Rgs ex}
theorem SlotsR.mem : ∀ {δ : Sl} {σ : L2.St} {fp : List Addr}, SlotsR K Rg H δ σ fp → ∀ a ∈ fp, H a ≠ none
  | [], _, _, h => fun a ha => by rw [h.2] at ha; cases ha
  | s :: δ, _, _, h => fun b hb => by
    obtain ⟨ov, r, f, g, rfl, rfl, h1, h2⟩ := h
    rcases List.mem_append.mp hb with z | z
    · cases s with
      | no => rw [h1] at z; cases z
      | own d => obtain ⟨v, _, q⟩ := h1; exact q.mem b z
      | bor t d => rw [h1.1] at z; cases z
      | exn => rw [h1.1] at z; cases z
    · exact SlotsR.mem h2 b z
theorem SlotsR.ntup : ∀ {δ : Sl} {σ : L2.St} {fp : List Addr}, SlotsR K Rg H δ σ fp → ∀ a ∈ fp, ¬ Fast H a
  | [], _, _, h => fun a ha => by rw [h.2] at ha; cases ha
  | s :: δ, _, _, h => fun b hb => by
    obtain ⟨ov, r, f, g, rfl, rfl, h1, h2⟩ := h
    rcases List.mem_append.mp hb with z | z
    · cases s with
      | no => rw [h1] at z; cases z
      | own d => obtain ⟨v, _, q⟩ := h1; exact q.ntup b z
      | bor t d => rw [h1.1] at z; cases z
      | exn => rw [h1.1] at z; cases z
    · exact SlotsR.ntup h2 b z
/-- a name is stored: new data -/
theorem SRel.set {σ : L2.St} {δ : Sl} {i : Nat} {v : V} {d : D} {fp : List Addr} (S0 : SRel K B Rg σ H δ) (s : Same H H') (r : RepD K H' d v fp) (n : fp.Nodup) (f : ∀ a ∈ fp, H a = none) : SRel K B Rg (σ.set i (some v)) H' (δ.set i (.own d)) := by
  have S1 := S0.grow s
  obtain ⟨b, u, gp, q, gn, gf⟩ := S1
  have hl := q.len
  by_cases hi : i < δ.length
  · obtain ⟨b0, u0, fp0, z0, n0, f0⟩ := S0
    have z1 := z0.kt (Same.kt s) (fun _ a _ o e => s a o e) (fun a _ o e => s a o e)
    obtain ⟨fp', q1, q2, q3⟩ := SlotsR.set (v := some v) (s := .own d) (f' := fp) ⟨v, rfl, r⟩ i hi z1 n0 n (fun a ha hb => z0.mem a hb (f a ha))
    refine ⟨b, u, fp', q1, q2, fun a ha => ?_⟩
    rcases q3 a ha with z | z
    · exact f0 a z
    · exact b0.free (f a z)
  · rw [List.set_eq_of_length_le (by omega), List.set_eq_of_length_le (by omega)]
    exact ⟨b, u, gp, q, gn, gf⟩
/-- a slot is forgotten -/
theorem SlotsR.drop1 : ∀ {δ : Sl} {σ : L2.St} {fp : List Addr} (i : Nat), SlotsR K Rg H δ σ fp → fp.Nodup → ∃ fp', SlotsR K Rg H (δ.set i .no) σ fp' ∧ fp'.Nodup ∧ ∀ a ∈ fp', a ∈ fp
  | [], _, _, i, h, n => ⟨_, by simpa using h, n, fun _ z => z⟩
  | s :: δ, _, _, 0, h, n => by
    obtain ⟨ov, r, f, g, rfl, rfl, h1, h2⟩ := h
    rw [List.nodup_append] at n
    exact ⟨g, ⟨ov, r, [], g, rfl, rfl, rfl, h2⟩, n.2.1, fun a ha => by simp [ha]⟩
  | s :: δ, _, _, i + 1, h, n => by
    obtain ⟨ov, r, f, g, rfl, rfl, h1, h2⟩ := h
    rw [List.nodup_append] at n
    obtain ⟨fp', q1, q2, q3⟩ := SlotsR.drop1 i h2 n.2.1
    refine ⟨f ++ fp', ⟨ov, r, f, fp', rfl, rfl, h1, q1⟩, ?_, fun a ha => ?_⟩
    · rw [List.nodup_append]
      exact ⟨n.1, q2, fun a ha b hb e => n.2.2 a ha b (q3 b hb) e⟩
    · rcases List.mem_append.mp ha with z | z
      · simp [z]
      · simp [q3 a z]
/-- a slot's data is changed in place -/
theorem SlotsR.change {d : D} : ∀ {δ : Sl} {σ : L2.St} {fp : List Addr} (i : Nat), SlotsR K Rg H δ σ fp → fp.Nodup → δ[i]? = some (.own d) →
    (∀ t a, Rg t a ≠ none → a ∉ fp) →
    ∃ v f, σ[i]? = some (some v) ∧ RepD K H d v f ∧ (∀ a ∈ f, a ∈ fp) ∧ f.Nodup ∧
      ∀ (H' : Hp) (d' : D) (f' : List Addr), KT H H' → (∀ a o, a ∉ f → H a = some o → H' a = some o) → RepD K H' d' v f' → f'.Nodup → (∀ a ∈ f', a ∈ f ∨ H a = none) →
        ∃ fp', SlotsR K Rg H' (δ.set i (.own d')) σ fp' ∧ fp'.Nodup ∧ ∀ a ∈ fp', a ∈ fp ∨ a ∈ f'
  | [], _, _, i, _, _, e, _ => by simp at e
  | s :: δ, _, _, 0, h, n, e, hr => by
    obtain ⟨ov, r, f, g, rfl, rfl, h1, h2⟩ := h
    obtain rfl : s = .own d := by simpa using e
    obtain ⟨v, rfl, rd⟩ := h1
    rw [List.nodup_append] at n
    refine ⟨v, f, rfl, rd, fun a ha => by simp [ha], n.1, fun H' d' f' kt kp rd' n' hf => ?_⟩
    have h2' : SlotsR K Rg H' δ r g := SlotsR.kt kt (fun t a ra o e => kp a o (fun z => hr t a ra (by simp [z])) e) (fun a ha o e => kp a o (fun z => n.2.2 a z a ha rfl) e) h2
    refine ⟨f' ++ g, ⟨some v, r, f', g, rfl, rfl, ⟨v, rfl, rd'⟩, h2'⟩, ?_, fun a ha => ?_⟩
    · rw [List.nodup_append]
      refine ⟨n', n.2.1, fun a ha b hb e => ?_⟩
      subst e
      rcases hf a ha with z | z
      · exact n.2.2 a z a hb rfl
      · exact h2.mem a hb z
    · rcases List.mem_append.mp ha with z | z
      · exact .inr z
      · exact .inl (by simp [z])
  | s :: δ, _, _, i + 1, h, n, e, hr => by
    obtain ⟨ov, r, f, g, rfl, rfl, h1, h2⟩ := h
    rw [List.nodup_append] at n
    obtain ⟨v, fi, e1, rd, sub, ni, k⟩ := SlotsR.change i h2 n.2.1 (by simpa using e) (fun t a ra z => hr t a ra (by simp [z]))
    refine ⟨v, fi, by simpa using e1, rd, fun a ha => by simp [sub a ha], ni, fun H' d' f' kt kp rd' n' hf => ?_⟩
    obtain ⟨fp', q1, q2, q3⟩ := k H' d' f' kt kp rd' n' hf
    have h1' : SlotR K Rg H' s ov f := SlotR.kt kt (fun t a ra o e => kp a o (fun z => hr t a ra (by simp [sub a z])) e) (fun a ha o e => kp a o (fun z => n.2.2 a ha a (sub a z) rfl) e) h1
    refine ⟨f ++ fp', ⟨ov, r, f, fp', rfl, rfl, h1', q1⟩, ?_, fun a ha => ?_⟩
    · rw [List.nodup_append]
      refine ⟨n.1, q2, fun a ha b hb e => ?_⟩
      subst e
      rcases q3 a hb with z | z
      · exact n.2.2 a ha a z rfl
      · rcases hf a z with z | z
        · exact n.2.2 a ha a (sub a z) rfl
        · cases s with
          | no => rw [h1] at ha; cases ha
          | own d => obtain ⟨_, _, q⟩ := h1; exact q.mem a ha z
          | bor t d => rw [h1.1] at ha; cases ha
          | exn => rw [h1.1] at ha; cases ha
    · rcases List.mem_append.mp ha with z | z
      · exact .inl (by simp [z])
      · rcases q3 a z with z | z
        · exact .inl (by simp [z])
        · exact .inr z
/-- slot i's data is changed in place, at its addresses f alone -/
theorem SRel.change {σ : L2.St} {δ : Sl} {i : Nat} {d : D} (S0 : SRel K B Rg σ H δ) (e : δ[i]? = some (.own d)) : ∃ v f, σ[i]? = some (some v) ∧ RepD K H d v f ∧ f.Nodup ∧ (∀ a ∈ f, B a = none) ∧
    ∀ (H' : Hp) (d' : D) (f' : List Addr), KT H H' → (∀ a o, a ∉ f → H a = some o → H' a = some o) → RepD K H' d' v f' → f'.Nodup → (∀ a ∈ f', a ∈ f ∨ H a = none) → SRel K B Rg σ H' (δ.set i (.own d')) := by
  obtain ⟨b, u, fp, q, n, f⟩ := S0
  have hr : ∀ t a, Rg t a ≠ none → a ∉ fp := fun t a ra z => by
    cases e : Rg t a with
    | none => exact ra e
    | some o => have := u t a o e; rw [f a z] at this; cases this
  obtain ⟨v, fi, e1, rd, sub, ni, k⟩ := SlotsR.change i q n e hr
  refine ⟨v, fi, e1, rd, ni, fun a ha => f a (sub a ha), fun H' d' f' kt kp rd' n' hf => ?_⟩
  obtain ⟨fp', q1, q2, q3⟩ := k H' d' f' kt kp rd' n' hf
  refine ⟨fun a o z => kp a o (fun y => by rw [f a (sub a y)] at z; cases z) (b a o z), u, fp', q1, q2, fun a ha => ?_⟩
  rcases q3 a ha with z | z
  · exact f a z
  · rcases hf a z with z | z
    · exact f a (sub a z)
    · exact b.free z
end
end DL
/-! DLg: statements, defs, calls. -/
namespace DL
open PySem PySem.Spec PyProof.Rows L2

inductive Fl where
  | nx (δ : Sl) | ret (d : D) | bk (δ : Sl) | ct (δ : Sl)
abbrev GS := Sl → Rn Sl Fl
def postR (K : PySem.W.Frag) (B : Hp) (d : D) (Q : VK) : Prop := ∀ v H', Same B H' → (∃ fp, RepD K H' d v fp ∧ fp.Nodup ∧ ∀ a ∈ fp, B a = none) → Q v H'
def postF (K : PySem.W.Frag) (B : Hp) {ex : Option Addr} (Rg : Rgs ex) (D : Ends) : Fl → Prop
  | .nx δ => ∀ σ H, SRel K B Rg σ H δ → D.nx σ H
  | .bk δ => ∀ σ H, SRel K B Rg σ H δ → D.bk σ H
  | .ct δ => ∀ σ H, SRel K B Rg σ H δ → D.ct σ H
  | .ret d => postR K B d D.rt
def postE (c : DC) (B : Hp) (Rg : Rgs c.ex) : Str → Sl → Prop := fun cl δ => ∀ C σ H, c.mg cl = some (.ref C) → SRel c.K B Rg σ H δ → c.W (.ref C) none σ H
def tDS (c : DC) (g : GS) : TS := fun D σ H => ∃ (B : Hp) (Rg : Rgs c.ex) (δ : Sl), SRel c.K B Rg σ H δ ∧ (g δ).wp (postF c.K B Rg D) (postE c B Rg)
def DS (W : WX) (X : Cx) (st : Stmt) (g : GS) : Prop := PS X st (tDS (dc X W) g)
def DSs (W : WX) (X : Cx) (sts : List Stmt) (g : GS) : Prop := PSs X sts (tDS (dc X W) g)
/-- an expression's run within a statement -/
def lift {α : Type} (w : Rn Unit α) (δ : Sl) : Rn Sl α := w.mapErr fun _ => δ
section
variable {c : DC} {σ : L2.St} {H B : Hp} {Rg : Rgs c.ex} {δ : Sl} {D : Ends}
theorem tDS_val {g : GE} {f : R → Rn Sl Fl} (S : SRel c.K B Rg σ H δ) (h : ((lift (g δ) δ).bind f).wp (postF c.K B Rg D) (postE c B Rg)) {Q' : VK}
    (k : ∀ r v H1, Same H H1 → RepR c.K H H1 r v → SRel c.K B Rg σ H1 δ → (f r).wp (postF c.K B Rg D) (postE c B Rg) → Q' v H1) : tD c g σ H Q' :=
  ⟨B, Rg, δ, S, Rn.wp_mono (Rn.wp_mapErr.mp (Rn.wp_bind.mp h)) (fun r q v H1 s1 rv => k r v H1 s1 rv (S.grow s1) q) fun cl _ q C H' e s => q C σ H' e (S.grow s)⟩
theorem tDS_bool {g : GT} {f : Bool → Rn Sl Fl} (S : SRel c.K B Rg σ H δ) (h : ((lift (g δ) δ).bind f).wp (postF c.K B Rg D) (postE c B Rg)) {Q' : Bool → Hp → Prop}
    (k : ∀ b H1, Same H H1 → SRel c.K B Rg σ H1 δ → (f b).wp (postF c.K B Rg D) (postE c B Rg) → Q' b H1) : tDT c g σ H Q' :=
  ⟨B, Rg, δ, S, Rn.wp_mono (Rn.wp_mapErr.mp (Rn.wp_bind.mp h)) (fun r q H1 s1 => k r H1 s1 (S.grow s1) q) fun cl _ q C H' e s => q C σ H' e (S.grow s)⟩
theorem tDS_args {g : GA} {f : List R → Rn Sl Fl} (S : SRel c.K B Rg σ H δ) (h : ((lift (g δ) δ).bind f).wp (postF c.K B Rg D) (postE c B Rg)) {Q' : List V → Hp → Prop}
    (k : ∀ rs vs H1, Same H H1 → RepA c.K H H1 rs vs → SRel c.K B Rg σ H1 δ → (f rs).wp (postF c.K B Rg D) (postE c B Rg) → Q' vs H1) : tDA c g σ H Q' :=
  ⟨B, Rg, δ, S, Rn.wp_mono (Rn.wp_mapErr.mp (Rn.wp_bind.mp h)) (fun r q vs H1 s1 rv => k r vs H1 s1 rv (S.grow s1) q) fun cl _ q C H' e s => q C σ H' e (S.grow s)⟩
end
def gNext : GS := fun δ => .ok (.nx δ)
def gSeq (a b : GS) : GS := fun δ => (a δ).bind fun
  | .nx δ' => b δ'
  | fl => .ok fl
section
variable {W : WX} {X : Cx} {a b e : Expr} {es : List Expr} {ga gb gc : GE} {gs : GA} {gt : GT} {g1 g2 : GS} {st : Stmt} {sts : List Stmt} {pos : Pos}
theorem dss_nil : DSs W X [] gNext := PSs.imp pss_nil fun D σ H ⟨B, Rg, δ, S0, w⟩ => w σ H S0
theorem dss_cons (h1 : DS W X st g1) (h2 : DSs W X sts g2) : DSs W X (st :: sts) (gSeq g1 g2) := by
  refine PSs.imp (pss_cons h1 h2) fun D σ H ⟨B, Rg, δ, S0, w⟩ => ?_
  refine ⟨B, Rg, δ, S0, Rn.wp_mono (Rn.wp_bind.mp w) (fun fl q => ?_) fun _ _ q => q⟩
  cases fl with
  | nx δ' => exact fun σ' H' S' => ⟨B, Rg, δ', S', q⟩
  | ret d => exact q
  | bk δ' => exact q
  | ct δ' => exact q
theorem dss_one (h1 : DS W X st g1) : DSs W X [st] g1 := pss_one h1
theorem ds_pass : DS W X (.Pass pos) gNext := PS.imp ps_pass fun D σ H ⟨B, Rg, δ, S0, w⟩ => w σ H S0
def gBk : GS := fun δ => .ok (.bk δ)
def gCt : GS := fun δ => .ok (.ct δ)
theorem ds_break : DS W X (.Break pos) gBk := PS.imp ps_break fun D σ H ⟨B, Rg, δ, S0, w⟩ => w σ H S0
theorem ds_continue : DS W X (.Continue pos) gCt := PS.imp ps_continue fun D σ H ⟨B, Rg, δ, S0, w⟩ => w σ H S0
def gIfS (t : GT) (a b : GS) : GS := fun δ => (lift (t δ) δ).bind fun k => if k = true then a δ else b δ
theorem ds_if {s1 s2 : List Stmt} (hc : DT W X e gt) (ha : DSs W X s1 g1) (hb : DSs W X s2 g2) : DS W X (.If e s1 s2 pos) (gIfS gt g1 g2) := by
  refine PS.imp (ps_if hc ha hb) fun D σ H ⟨B, Rg, δ, S0, w⟩ => ?_
  refine tDS_bool S0 w fun k H1 s1 S1 q => ?_
  cases k with
  | true => rw [if_pos rfl] at q ⊢; exact ⟨B, Rg, δ, S1, q⟩
  | false => rw [if_neg (by decide)] at q ⊢; exact ⟨B, Rg, δ, S1, q⟩
def gRet (ga : GE) : GS := fun δ => (lift (ga δ) δ).bind fun
  | .own d => .ok (.ret d)
  | .vw _ => .bad
theorem ds_ret (ha : DE W X e ga) : DS W X (.Return (some e) pos) (gRet ga) := by
  refine PS.imp (ps_ret ha) fun D σ H ⟨B, Rg, δ, S0, w⟩ => ?_
  refine tDS_val S0 w fun r v H1 s1 rv S1 q => ?_
  cases r with
  | own d =>
    obtain ⟨fp, q1, n, f⟩ := rv
    exact q v H1 S1.same ⟨fp, q1, n, fun a ha => S0.same.free (f a ha)⟩
  | vw d => exact q.elim
def gRetV (i : Nat) : GS := fun δ => match δ[i]? with
  | some (.own d) => .ok (.ret d)
  | some (.bor _ (.p x)) => .ok (.ret (.p x))
  | _ => .bad
theorem ds_retV {i : Nat} {x : Str} {p : Pos} (hN : X.N[i]? = some x) (hv : Vis X.env.scope x) (hd : (x == ("__debug__" : Str)) = false := by decide) (hcd : (x == ("__classdict__" : Str)) = false := by decide) :
    DS W X (.Return (some (.Name x p)) pos) (gRetV i) := by
  refine PS.imp (ps_ret (pe_var hN hv hd hcd)) fun D σ H ⟨B, Rg, δ, S0, w⟩ => ?_
  unfold gRetV at w
  split at w
  · rename_i d e
    obtain ⟨v, f, e1, r, n, ff, _⟩ := S0.change e
    exact ⟨v, e1, w v H S0.same ⟨f, r, n, ff⟩⟩
  · rename_i t x e
    obtain ⟨v, g, e1, r⟩ := S0.slot e (.inr ⟨t, rfl⟩)
    exact ⟨v, e1, w v H S0.same ⟨[], ⟨r.1, rfl⟩, List.nodup_nil, fun _ z => nomatch z⟩⟩
  · exact w.elim
theorem ds_retN : DS W X (.Return none pos) (fun _ => .ok (.ret (.p .non))) := by
  refine PS.imp ps_retN fun D σ H ⟨B, Rg, δ, S0, w⟩ => ?_
  exact w .non H S0.same ⟨[], ⟨rfl, rfl⟩, List.nodup_nil, fun _ z => nomatch z⟩
def gSet (i : Nat) (ga : GE) : GS := fun δ => (lift (ga δ) δ).bind fun
  | .own d => .ok (.nx (δ.set i (.own d)))
  | .vw _ => .bad
theorem ds_set {i : Nat} {x : Str} {p : Pos} (hN : X.N.Nodup) (hi : X.N[i]? = some x) (hx : Loc X.env.scope x) (ha : DE W X e ga) (hs : swapsWith e (some (.Name x p)) pos.line X.env = pure false := by rfl)
    (hf : X.fn x = true ∨ X.env.scope.names.lookup x = some .local := by first | exact .inl rfl | exact .inr rfl | assumption) : DS W X (.Assign [.Name x p] e pos) (gSet i ga) := by
  refine PS.imp (ps_set hN hi hx ha hs hf) fun D σ H ⟨B, Rg, δ, S0, w⟩ => ?_
  refine tDS_val S0 w fun r v H1 s1 rv S1 q => ?_
  cases r with
  | own d =>
    obtain ⟨fp, q1, n, f⟩ := rv
    exact q _ _ (S0.set s1 q1 n f)
  | vw d => exact q.elim
def gExpr (ga : GE) : GS := fun δ => (lift (ga δ) δ).bind fun _ => .ok (.nx δ)
theorem ds_expr (ha : DE W X e ga) (hs : swapsWith e none pos.line X.env = pure false := by rfl) : DS W X (.Expr e pos) (gExpr ga) := by
  refine PS.imp (ps_expr ha hs) fun D σ H ⟨B, Rg, δ, S0, w⟩ => ?_
  exact tDS_val S0 w fun r v H1 s1 rv S1 q => q _ _ S1
end
end DL
/-! DLh: targets, loops. -/
namespace DL
open PySem PySem.Spec PyProof.Rows L2

/-! ### targets -/
inductive Tg where
  | one (i : Nat) | tup (is : List Nat)
def gNms : List Nat → TGs
  | [] => L2.gNil
  | i :: is => L2.gCons (gName i) (gNms is)
def Tg.g (K : PySem.W.Frag) : Tg → TG
  | .one i => gName i
  | .tup is => L2.gTup K is.length (gNms is)
def setAll : List Nat → List D → Sl → Sl
  | i :: is, d :: ds, δ => setAll is ds (δ.set i (.own d))
  | _, _, δ => δ
/-- the slots behind a store of d -/
def Tg.set : Tg → D → Sl → Option Sl
  | .one i, d, δ => some (δ.set i (.own d))
  | .tup is, .p (.tup xs), δ => if xs.length = is.length then some (setAll is (xs.map D.p) δ) else none
  | .tup is, .tp ds, δ => if ds.length = is.length then some (setAll is ds δ) else none
  | _, _, _ => none
section
variable {K : PySem.W.Frag} {B H H' : Hp} {ex : Option Addr} {Rg : Rgs ex}
theorem RepPs.ds : ∀ {xs : List P} {vs : List V}, RepPs K H xs vs → RepDs K H (xs.map D.p) vs []
  | [], _, h => ⟨h, rfl⟩
  | x :: xs, _, h => by
    obtain ⟨v, r, rfl, h1, h2⟩ := h
    exact ⟨v, r, [], [], rfl, rfl, ⟨h1, rfl⟩, RepPs.ds h2⟩
theorem setAll_ok : ∀ (is : List Nat) (ds : List D) (vs : List V) (gp : List Addr) (σ : L2.St) (δ : Sl) (fp : List Addr) (Q : L2.St → Hp → Prop), ds.length = is.length → SlotsR K Rg H δ σ fp → RepDs K H ds vs gp → (fp ++ gp).Nodup →
    (∀ σ' fp', SlotsR K Rg H (setAll is ds δ) σ' fp' → fp'.Nodup → (∀ a ∈ fp', a ∈ fp ++ gp) → Q σ' H) → gNms is vs σ H Q
  | [], [], vs, gp, σ, δ, fp, Q, _, S0, r, n, k => by
    obtain ⟨rfl, rfl⟩ := r
    exact ⟨rfl, k σ fp S0 (by simpa using n) (fun a ha => by simp [ha])⟩
  | i :: is, d :: ds, vs, gp, σ, δ, fp, Q, hl, S0, r, n, k => by
    obtain ⟨v, r, f, g, rfl, rfl, h1, h2⟩ := r
    refine ⟨v, r, rfl, ?_⟩
    have n' := n
    rw [List.nodup_append] at n'
    obtain ⟨n1, n2, n3⟩ := n'
    rw [List.nodup_append] at n2
    by_cases hi : i < δ.length
    · obtain ⟨fp', q1, q2, q3⟩ := SlotsR.set (v := some v) (s := .own d) (f' := f) ⟨v, rfl, h1⟩ i hi S0 n1 n2.1 (fun a ha hb => n3 a hb a (by simp [ha]) rfl)
      refine setAll_ok is ds r g _ _ fp' Q (by simpa using hl) q1 h2 ?_ fun σ' fp'' z1 z2 z3 => k σ' fp'' z1 z2 fun a ha => ?_
      · rw [List.nodup_append]
        refine ⟨q2, n2.2.1, fun a ha b hb e => ?_⟩
        subst e
        rcases q3 a ha with z | z
        · exact n3 a z a (by simp [hb]) rfl
        · exact n2.2.2 a z a hb rfl
      · rcases List.mem_append.mp (z3 a ha) with z | z
        · rcases q3 a z with z | z
          · simp [z]
          · simp [z]
        · simp [z]
    · have hls := S0.len
      have e1 : σ.set i (some v) = σ := List.set_eq_of_length_le (by omega)
      have e2 : δ.set i (.own d) = δ := List.set_eq_of_length_le (by omega)
      show gNms is r (σ.set i (some v)) H Q
      rw [e1]
      refine setAll_ok is ds r g _ _ fp Q (by simpa using hl) S0 h2 ?_ fun σ' fp'' z1 z2 z3 => k σ' fp'' (by show SlotsR K Rg H (setAll is ds (δ.set i (.own d))) σ' fp''; rw [e2]; exact z1) z2 fun a ha => ?_
      · rw [List.nodup_append]
        exact ⟨n1, n2.2.1, fun a ha b hb e => n3 a ha b (by simp [hb]) e⟩
      · rcases List.mem_append.mp (z3 a ha) with z | z
        · simp [z]
        · simp [z]
  | [], d :: ds, _, _, _, _, _, _, hl, _, _, _, _ => by simp at hl
  | i :: is, [], _, _, _, _, _, _, hl, _, _, _, _ => by simp at hl
/-- a store of what was made from H on -/
theorem Tg.ok {t : Tg} {d : D} {δ δ' : Sl} {σ : L2.St} {v : V} {gp : List Addr} {Q : L2.St → Hp → Prop} (S0 : SRel K B Rg σ H δ) (s : Same H H') (r : RepD K H' d v gp) (n : gp.Nodup) (f : ∀ a ∈ gp, H a = none)
    (e : t.set d δ = some δ') (k : ∀ σ', SRel K B Rg σ' H' δ' → Q σ' H') : t.g K v σ H' Q := by
  cases t with
  | one i =>
    obtain rfl := Option.some.inj e
    exact k _ (S0.set s r n f)
  | tup is =>
    have S1 := S0.grow s
    obtain ⟨b, u, fp, q, qn, qf⟩ := S0
    have q1 := q.kt (Same.kt s) (fun _ a _ o e => s a o e) (fun a _ o e => s a o e)
    have nn : (fp ++ gp).Nodup := by
      rw [List.nodup_append]
      exact ⟨qn, n, fun a ha b hb e => by subst e; exact q.mem a ha (f a hb)⟩
    have fin : ∀ σ' fp', SlotsR K Rg H' δ' σ' fp' → fp'.Nodup → (∀ a ∈ fp', a ∈ fp ++ gp) → Q σ' H' := fun σ' fp' z1 z2 z3 => k σ' ⟨b.trans s, u, fp', z1, z2, fun a ha => by
      rcases List.mem_append.mp (z3 a ha) with z | z
      · exact qf a z
      · exact b.free (f a z)⟩
    unfold Tg.set at e
    split at e
    · rename_i e0; cases e0
    · rename_i is' δ'' xs e0
      cases e0
      split at e
      · rename_i hl
        obtain rfl := Option.some.inj e
        obtain ⟨⟨a, vs, rfl, qa, ra⟩, rfl⟩ := r
        exact ⟨a, vs, rfl, qa, by rw [ra.len, hl], setAll_ok is _ vs [] σ _ fp Q (by simpa using hl) q1 ra.ds nn fin⟩
      · cases e
    · rename_i is' δ'' ds e0
      cases e0
      split at e
      · rename_i hl
        obtain rfl := Option.some.inj e
        obtain ⟨a, vs, rfl, qa, ra⟩ := r
        exact ⟨a, vs, rfl, qa, by rw [ra.len, hl], setAll_ok is _ vs gp σ _ fp Q hl q1 ra nn fin⟩
      · cases e
    · cases e
end

theorem gNms_mono {Q Q' : L2.St → Hp → Prop} (k : ∀ σ H, Q σ H → Q' σ H) : ∀ (is : List Nat) (vs : List V) (σ : L2.St) (H : Hp), gNms is vs σ H Q → gNms is vs σ H Q'
  | [], _, _, _, h => ⟨h.1, k _ _ h.2⟩
  | i :: is, _, _, _, h => by
    obtain ⟨v, r, e, h⟩ := h
    exact ⟨v, r, e, gNms_mono k is r _ _ h⟩
theorem Tg.g_mono {K : PySem.W.Frag} {H : Hp} {t : Tg} {v : V} {σ : L2.St} {Q Q' : L2.St → Hp → Prop} (k : ∀ σ H, Q σ H → Q' σ H) (h : t.g K v σ H Q) : t.g K v σ H Q' := by
  cases t with
  | one i => exact k _ _ h
  | tup is =>
    obtain ⟨a, xs, e1, e2, e3, h⟩ := h
    exact ⟨a, xs, e1, e2, e3, gNms_mono k is xs σ H h⟩

/-! ### what a loop walks -/
def Runs (K : PySem.W.Frag) (G : Hp) (J : It) (xs : List P) : Prop := ∀ H', Same G H' → ∀ i, (∀ p, xs[i]? = some p → J.go i H' ∧ ∀ x H'', J.yld i H' x H'' → Same H' H'' ∧ RepP K H'' p x) ∧ (xs.length ≤ i → J.stop i H')
structure Walk (K : PySem.W.Frag) (H0 H : Hp) (J : It) (xs : List P) : Prop where
  ex : ∃ G, Same G H ∧ (∀ a, G a ≠ none → H0 a = none ∨ Fast H a) ∧ Runs K G J xs
/-- the tuples that stand, and what is locked -/
def tupG (H : Hp) : Hp := fun b => match H b with
  | some (.tup xs) => some (.tup xs)
  | some (.frz o u) => some (.frz o u)
  | _ => none
theorem tupG_same (H : Hp) : Same (tupG H) H := fun b o e => by
  unfold tupG at e
  split at e
  · rename_i h; rw [h]; exact e
  · rename_i h; rw [h]; exact e
  · cases e
theorem tupG_rd {H : Hp} {a : Addr} (h : tupG H a ≠ none) : Fast H a := by
  unfold tupG at h
  split at h
  · rename_i xs e; exact .inl ⟨xs, e⟩
  · rename_i o u e; exact .inr ⟨o, u, e⟩
  · exact absurd rfl h
theorem tupG_kt {H H' : Hp} (s : Same (tupG H) H') : KT H H' := ⟨fun a xs h => by
  rcases h with h | ⟨o, h⟩
  · exact .inl (s a _ (by unfold tupG; rw [h]))
  · exact .inr ⟨o, s a _ (by unfold tupG; rw [h])⟩, fun a o u h => s a _ (by unfold tupG; rw [h])⟩
section
variable {K : PySem.W.Frag} {H H0 : Hp}
theorem Walk.range (lo : Int) (n : Nat) : Walk K H0 H (Itr lo n) ((List.range n).map fun (i : Nat) => P.int (lo + (i : Int))) := by
  refine ⟨fun _ => none, (fun _ _ z => by cases z), (fun _ z => absurd rfl z), fun H' _ i => ⟨fun p e => ?_, fun h => (by have h' : n ≤ i := (by simpa using h); exact h')⟩⟩
  simp only [List.getElem?_map, Option.map_eq_some_iff] at e
  obtain ⟨j, ej, rfl⟩ := e
  obtain ⟨hj, ej⟩ := List.getElem?_eq_some_iff.mp ej
  simp at hj ej
  subst ej
  refine ⟨hj, fun x H'' y => ?_⟩
  obtain ⟨rfl, rfl⟩ := y
  exact ⟨Same.refl _, rfl⟩
theorem runs_list {a : Addr} {vs : List V} {xs : List P} (h : H a = some (.lst vs)) (r : RepPs K H xs vs) : ∃ G, Same G H ∧ (∀ b, G b ≠ none → b = a ∨ Fast H b) ∧ Runs K G (Itl K a) xs := by
  refine ⟨upd (tupG H) a (.lst vs), fun b o e => ?_, fun b hb => ?_, fun H' s i => ?_⟩
  · unfold upd at e
    split at e
    · rename_i z; subst z; rw [h]; exact e
    · exact tupG_same H b o e
  · unfold upd at hb
    split at hb
    · rename_i z; exact .inl z
    · exact .inr (tupG_rd hb)
  · have ha : H' a = some (.lst vs) := s a _ upd_same
    have kt : KT H H' := tupG_kt fun b o e => by
      by_cases z : b = a
      · subst z
        have := tupG_same H b o e
        rw [h] at this
        cases this
        exact ha
      · exact s b o (by rw [upd_ne z]; exact e)
    have r' := RepPs.kt kt _ _ r
    refine ⟨fun p ep => ?_, fun hi => ⟨vs, SqL.of ha, by rw [r.len]; exact hi⟩⟩
    obtain ⟨w, e2, q⟩ := r'.get ep
    refine ⟨⟨vs, w, SqL.of ha, e2⟩, fun x H'' y => ?_⟩
    obtain ⟨rfl, y⟩ := y
    have e := y vs (SqL.of ha)
    rw [e] at e2
    obtain rfl := Option.some.inj e2
    exact ⟨Same.refl _, q⟩
theorem Walk.list {a : Addr} {vs : List V} {xs : List P} (h : H a = some (.lst vs)) (h0 : H0 a = none) (r : RepPs K H xs vs) : Walk K H0 H (Itl K a) xs := by
  obtain ⟨G, g1, g2, g3⟩ := runs_list h r
  exact ⟨G, g1, fun b hb => (g2 b hb).imp (fun e => by rw [e]; exact h0) id, g3⟩
theorem Walk.tup {a : Addr} {vs : List V} {xs : List P} (h : SqT K H a vs) (r : RepPs K H xs vs) : Walk K H0 H (Itt K a) xs := by
  refine ⟨tupG H, tupG_same H, fun b hb => .inr (tupG_rd hb), fun H' s i => ?_⟩
  have kt : KT H H' := tupG_kt s
  have ha := kt.sqt h
  have r' := RepPs.kt kt _ _ r
  refine ⟨fun p ep => ?_, fun hi => ⟨vs, ha, by rw [r.len]; exact hi⟩⟩
  obtain ⟨w, e2, q⟩ := r'.get ep
  refine ⟨⟨vs, w, ha, e2⟩, fun x H'' y => ?_⟩
  obtain ⟨rfl, y⟩ := y
  have e := y vs ha
  rw [e] at e2
  obtain rfl := Option.some.inj e2
  exact ⟨Same.refl _, q⟩
theorem Walk.frz {a : Addr} {o : Obj} {vs : List V} {xs : List P} (h : H a = some (.frz o (.lst vs))) (r : RepPs K H xs vs) : Walk K H0 H (Itl K a) xs := by
  refine ⟨tupG H, tupG_same H, fun b hb => .inr (tupG_rd hb), fun H' s i => ?_⟩
  have kt : KT H H' := tupG_kt s
  have ha : SqL K H' a vs := .inl (.inr ⟨o, kt.frz _ _ _ h⟩)
  have r' := RepPs.kt kt _ _ r
  refine ⟨fun p ep => ?_, fun hi => ⟨vs, ha, by rw [r.len]; exact hi⟩⟩
  obtain ⟨w, e2, q⟩ := r'.get ep
  refine ⟨⟨vs, w, ha, e2⟩, fun x H'' y => ?_⟩
  obtain ⟨rfl, y⟩ := y
  have e := y vs ha
  rw [e] at e2
  obtain rfl := Option.some.inj e2
  exact ⟨Same.refl _, q⟩
def signs (z : Str) : List P := z.cps.toList.map fun c => P.str ⟨#[c]⟩
theorem Walk.str (z : Str) : Walk K H0 H (Its z) (signs z) := by
  refine ⟨fun _ => none, (fun _ _ z => by cases z), (fun _ z => absurd rfl z), fun H' _ i => ⟨fun p e => ?_, fun h => (by have h' : z.cps.size ≤ i := (by simpa [signs] using h); exact h')⟩⟩
  simp only [signs, List.getElem?_map, Option.map_eq_some_iff] at e
  obtain ⟨c, ec, rfl⟩ := e
  rw [Array.getElem?_toList] at ec
  refine ⟨(Array.getElem?_eq_some_iff.mp ec).1, fun x H'' y => ?_⟩
  obtain ⟨rfl, c', e', rfl⟩ := y
  rw [ec] at e'
  obtain rfl := Option.some.inj e'
  exact ⟨Same.refl _, rfl⟩
end

/-! ### loops -/
def gForL (t : Tg) (g : GS) : List P → GS
  | [], δ => .ok (.nx δ)
  | x :: xs, δ => match t.set (.p x) δ with
    | some δ1 => (g δ1).bind fun
      | .nx δ' => gForL t g xs δ'
      | .ct δ' => gForL t g xs δ'
      | .bk δ' => .ok (.nx δ')
      | .ret d => .ok (.ret d)
    | none => .bad
section
variable {c : DC} {B : Hp} {Rg : Rgs c.ex} {G : Hp} {D : Ends} {t : Tg} {g : GS} {J : It}
theorem loop_core {σ0 : L2.St} {H0 : Hp} {δ0 : Sl} {xs : List P} (hG : Same G B) (hR : Runs c.K G J xs) (S0 : SRel c.K B Rg σ0 H0 δ0) (w0 : (gForL t g xs δ0).wp (postF c.K B Rg D) (postE c B Rg)) :
    ∃ W : Nat → Nat → L2.St → Hp → Prop, (∃ m, W 0 m σ0 H0) ∧ ∀ i m σ H, W i m σ H → (J.stop i H ∧ D.nx σ H) ∨
      (J.go i H ∧ ∃ N : L2.St → Hp → Prop, (∀ σ' H', N σ' H' → ∃ m', m' < m ∧ W (i + 1) m' σ' H') ∧ ∀ x H', J.yld i H x H' → t.g c.K x σ H' fun σ2 H2 => tDS c g { D with nx := N, ct := N, bk := D.nx } σ2 H2) := by
  refine ⟨fun i m σ H => m = xs.length - i ∧ i ≤ xs.length ∧ ∃ δ, SRel c.K B Rg σ H δ ∧ (gForL t g (xs.drop i) δ).wp (postF c.K B Rg D) (postE c B Rg), ⟨xs.length, by simp, Nat.zero_le _, δ0, S0, by simpa using w0⟩, ?_⟩
  rintro i m σ H ⟨rfl, hi, δ, S1, w⟩
  obtain ⟨r1, r2⟩ := hR H (hG.trans S1.same) i
  by_cases hlt : i < xs.length
  · have ep := List.getElem?_eq_getElem hlt
    obtain ⟨go, yl⟩ := r1 _ ep
    rw [List.drop_eq_getElem_cons hlt] at w
    refine .inr ⟨go, fun σ H => ∃ δ, SRel c.K B Rg σ H δ ∧ (gForL t g (xs.drop (i + 1)) δ).wp (postF c.K B Rg D) (postE c B Rg), fun σ' H' q => ⟨xs.length - (i + 1), by omega, rfl, hlt, q⟩, fun x H' y => ?_⟩
    obtain ⟨s, rp⟩ := yl x H' y
    unfold gForL at w
    split at w
    · rename_i δ1 e1
      refine Tg.ok S1 s (gp := []) (d := .p xs[i]) ⟨rp, rfl⟩ List.nodup_nil (fun _ z => nomatch z) e1 fun σ' S2 => ?_
      refine ⟨B, Rg, δ1, S2, Rn.wp_mono (Rn.wp_bind.mp w) (fun fl q => ?_) fun _ _ q => q⟩
      cases fl with
      | nx δ' => exact fun σ H S => ⟨δ', S, q⟩
      | ct δ' => exact fun σ H S => ⟨δ', S, q⟩
      | bk δ' => exact q
      | ret d => exact q
    · exact w.elim
  · have hn : xs.length ≤ i := by omega
    rw [List.drop_eq_nil_of_le hn] at w
    exact .inl ⟨r2 hn, w σ H S1⟩
/-- more is held -/
theorem SRel.hold {K : PySem.W.Frag} {σ : L2.St} {H0 H : Hp} {δ : Sl} (S0 : SRel K B Rg σ H0 δ) (s : Same H0 H) (hG : Same G H) (hf : ∀ a, G a ≠ none → H0 a = none ∨ Fast H a ∨ B a ≠ none) :
    ∃ B', Same B B' ∧ Same G B' ∧ SRel K B' Rg σ H δ := by
  have S1 := S0.grow s
  obtain ⟨b0, u0, fp, q0, n, f⟩ := S0
  have q1 := q0.kt (Same.kt s) (fun _ a _ o e => s a o e) (fun a _ o e => s a o e)
  refine ⟨fun a => match G a with | some o => some o | none => B a, fun a o e => ?_, fun a o e => by simp only [e], ⟨fun a o e => ?_, fun t a o e => ?_, fp, q1, n, fun a ha => ?_⟩⟩
  · show (match G a with | some o => some o | none => B a) = some o
    cases z : G a with
    | none => exact e
    | some o' =>
      have h1 := hG a o' z
      have h2 := S1.same a o e
      rw [h1] at h2
      exact h2
  · have e' : (match G a with | some o => some o | none => B a) = some o := e
    cases z : G a with
    | none => rw [z] at e'; exact S1.same a o e'
    | some o' => rw [z] at e'; obtain rfl := Option.some.inj e'; exact hG a _ z
  · show (match G a with | some o => some o | none => B a) = some o
    cases z : G a with
    | none => exact u0 t a o e
    | some o' =>
      have h1 := hG a o' z
      have h2 := S1.same a o (u0 t a o e)
      rw [h1] at h2
      exact h2
  · show (match G a with | some o => some o | none => B a) = none
    cases z : G a with
    | none => exact f a ha
    | some o' =>
      exfalso
      rcases hf a (by rw [z]; exact fun z => nomatch z) with y | y | y
      · exact q0.mem a ha y
      · exact q1.ntup a ha y
      · exact y (f a ha)
theorem SRel.unhold {K : PySem.W.Frag} {B' : Hp} {σ : L2.St} {H : Hp} {δ : Sl} (S : SRel K B' Rg σ H δ) (b : Same B B') (u : ∀ t, Same (Rg t) B) : SRel K B Rg σ H δ := by
  obtain ⟨b1, u1, fp, q, n, f⟩ := S
  exact ⟨b.trans b1, u, fp, q, n, fun a ha => b.free (f a ha)⟩
theorem postF_hold {K : PySem.W.Frag} {B' : Hp} (b : Same B B') (u : ∀ t, Same (Rg t) B) {fl : Fl} (q : postF K B Rg D fl) : postF K B' Rg D fl := by
  cases fl with
  | nx δ => exact fun σ H S => q σ H (S.unhold b u)
  | bk δ => exact fun σ H S => q σ H (S.unhold b u)
  | ct δ => exact fun σ H S => q σ H (S.unhold b u)
  | ret d => exact fun v H' s ⟨fp, r, n, f⟩ => q v H' (b.trans s) ⟨fp, r, n, fun a ha => b.free (f a ha)⟩
theorem postE_hold {B' : Hp} (b : Same B B') (u : ∀ t, Same (Rg t) B) {cl : Str} {δ : Sl} (q : postE c B Rg cl δ) : postE c B' Rg cl δ := fun C σ H e S => q C σ H e (S.unhold b u)
end
/-- what a for or a comprehension walks, as data -/
abbrev GI := Sl → Rn Unit (List P)
def tDI (c : DC) (g : GI) : TI := fun σ H R => ∃ (B : Hp) (Rg : Rgs c.ex) (δ : Sl), SRel c.K B Rg σ H δ ∧
  (g δ).wp (fun xs => ∀ J H', Same H H' → Walk c.K H H' J xs → R J H') fun cl _ => ∀ C H', c.mg cl = some (.ref C) → Same H H' → c.W (.ref C) none σ H'
def DI (W : WX) (X : Cx) (tg iter : Expr) (g : GI) : Prop := PI X tg iter (tDI (dc X W) g)
theorem PI.imp {X : Cx} {tg iter : Expr} {t t' : TI} (h : PI X tg iter t) (m : ∀ σ H R, t' σ H R → t σ H R) : PI X tg iter t' := ⟨fun pins s σ H R I q => h.run pins s σ H R I (m σ H R q)⟩
section
variable {W : WX} {X : Cx} {a b e tg iter : Expr} {es : List Expr} {ga gb gc : GE} {gs : GA} {gt : GT} {gi : GI} {g1 g2 : GS} {st : Stmt} {sts body : List Stmt} {pos p : Pos}
def iSeq (K : PySem.W.Frag) (tl : TE) : TI := fun σ H R => tl σ H fun x H1 => (∃ a, x = .ref a ∧ (∃ xs, SqL K H1 a xs) ∧ R (Itl K a) H1) ∨ (∃ a, x = .ref a ∧ (∃ xs, SqT K H1 a xs) ∧ R (Itt K a) H1) ∨ ∃ z, x = .str z ∧ R (Its z) H1
theorem pi_seq {l : Expr} {tl : TE} (hl : PE X l tl) : PI X tg l (iSeq X.K tl) := by
  refine ⟨fun pins s σ H R I h => ?_⟩
  refine thn (hl.run pins s σ H _ I h) fun v s1 ⟨x, H1, I1, r1, q1⟩ => ?_
  rcases q1 with ⟨a, rfl, ⟨xs, hq⟩, q⟩ | ⟨a, rfl, ⟨xs, hq⟩, q⟩ | ⟨z, rfl, q⟩
  · cases r1
    obtain ⟨its, rv, p, hz⟩ := I1.list hq
    refine wpAny_pyIter_list p.isList ?_
    exact pi_one (tk := s1.toks) I1 _ (turn_list a _) ⟨_, Heap.get?_push_size _ rfl, rfl, rfl⟩ q
  · cases r1
    obtain ⟨its, rv, p, hz⟩ := I1.tuple hq
    refine wpAny_pyIter_tuple (show s1.heap.IsTuple a its.toArray from p) ?_
    exact pi_one (tk := s1.toks) I1 _ (turn_tuple a _) ⟨_, Heap.get?_push_size _ rfl, rfl, rfl⟩ q
  · obtain ⟨t, rfl⟩ := r1
    cases ha : z.cps.all (· < 128)
    · exact wpAny_pyIter_wide ha (pi_one (tk := s1.toks) I1 _ (turn_str _ z t "str_iterator" (.inr rfl)) ⟨_, Heap.get?_push_size _ rfl, rfl, rfl⟩ q)
    · exact wpAny_pyIter_ascii ha (pi_one (tk := s1.toks) I1 _ (turn_str _ z t "str_ascii_iterator" (.inl rfl)) ⟨_, Heap.get?_push_size _ rfl, rfl, rfl⟩ q)
def R.items : R → Option (List P)
  | .own (.p (.tup xs)) => some xs
  | .vw (.p (.tup xs)) => some xs
  | .own (.p (.str z)) => some (signs z)
  | .vw (.p (.str z)) => some (signs z)
  | .own (.lst xs) => some xs
  | _ => none
def gSeqI (ga : GE) : GI := fun δ => (ga δ).bind fun r => match r.items with
  | some xs => .ok xs
  | none => .bad
theorem di_seq (ha : DE W X e ga) : DI W X tg e (gSeqI ga) := by
  refine PI.imp (pi_seq ha) fun σ H Rk ⟨B, Rg, δ, S0, w⟩ => ?_
  refine ⟨B, Rg, δ, S0, Rn.wp_mono (Rn.wp_bind.mp w) (fun r q v H1 s1 rv => ?_) fun _ _ q => q⟩
  split at q
  · rename_i xs e
    unfold R.items at e
    split at e
    · obtain rfl := Option.some.inj e
      obtain ⟨a, vs, rfl, qa, ra⟩ := rv.getP rfl
      exact .inr (.inl ⟨a, rfl, ⟨vs, qa⟩, q _ H1 s1 (.tup qa ra)⟩)
    · obtain rfl := Option.some.inj e
      obtain ⟨a, vs, rfl, qa, ra⟩ := rv.getP rfl
      exact .inr (.inl ⟨a, rfl, ⟨vs, qa⟩, q _ H1 s1 (.tup qa ra)⟩)
    · rename_i z
      obtain rfl := Option.some.inj e
      obtain rfl : v = .str z := rv.getP rfl
      exact .inr (.inr ⟨z, rfl, q _ H1 s1 (.str z)⟩)
    · rename_i z
      obtain rfl := Option.some.inj e
      obtain rfl : v = .str z := rv.getP rfl
      exact .inr (.inr ⟨z, rfl, q _ H1 s1 (.str z)⟩)
    · obtain rfl := Option.some.inj e
      obtain ⟨fp, ⟨a, vs, rfl, qa, rfl, ra⟩, n, f⟩ := rv
      exact .inl ⟨a, rfl, ⟨vs, SqL.of qa⟩, q _ H1 s1 (.list qa (f a (by simp)) ra)⟩
    · cases e
  · exact q.elim
def rangeP (lo hi : Int) : List P := (List.range (hi - lo).toNat).map fun (i : Nat) => P.int (lo + (i : Int))
def fRange1 : List D → Rn Unit (List P)
  | [.p (.int j)] => if -(2 ^ 62) ≤ j ∧ j < 2 ^ 62 then .ok (rangeP 0 j) else .bad
  | _ => .bad
def fRange2 : List D → Rn Unit (List P)
  | [.p (.int i), .p (.int j)] => if -(2 ^ 62) ≤ i ∧ i < 2 ^ 62 ∧ -(2 ^ 62) ≤ j ∧ j < 2 ^ 62 then .ok (rangeP i j) else .bad
  | _ => .bad
def gRangeI (f : List D → Rn Unit (List P)) (gs : GA) : GI := fun δ => (gs δ).bind fun rs => f (rs.map R.d)
theorem di_range1 (hm : X.mg "range" = none) (ha : DA W X [a] gs) (hg : Gl X "range" := by rfl) (hs : starEach [a] X.env = [(false, eval a X.env)] := by rfl) : DI W X tg (.Call (.Name "range" p) [a] [] pos) (gRangeI fRange1 gs) := by
  refine PI.imp (pi_range1 hg hm ha hs) fun σ H Rk ⟨B, Rg, δ, S0, w⟩ => ?_
  refine ⟨B, Rg, δ, S0, Rn.wp_mono (Rn.wp_bind.mp w) (fun rs q vs H1 s1 ra => ?_) fun _ _ q => q⟩
  obtain ⟨fp, r, _⟩ := ra
  have lk := r.look
  generalize rs.map R.d = ds at lk q
  unfold fRange1 at q
  split at q
  · rename_i j
    obtain ⟨v, fp1, rfl, rr⟩ := lk.one
    obtain rfl : v = .int j := rr.1
    split at q
    · rename_i hz
      refine ⟨j, rfl, hz.1, hz.2, q _ H1 s1 ?_⟩
      have := Walk.range (K := X.K) (H0 := H) (H := H1) 0 j.toNat
      unfold rangeP
      rw [Int.sub_zero]
      exact this
    · exact q.elim
  · exact q.elim
theorem di_range2 (hm : X.mg "range" = none) (ha : DA W X [a, b] gs) (hg : Gl X "range" := by rfl) (hs : starEach [a, b] X.env = [(false, eval a X.env), (false, eval b X.env)] := by rfl) (hs2 : starEach [b] X.env = [(false, eval b X.env)] := by rfl) : DI W X tg (.Call (.Name "range" p) [a, b] [] pos) (gRangeI fRange2 gs) := by
  refine PI.imp (pi_range2 hg hm ha hs hs2) fun σ H Rk ⟨B, Rg, δ, S0, w⟩ => ?_
  refine ⟨B, Rg, δ, S0, Rn.wp_mono (Rn.wp_bind.mp w) (fun rs q vs H1 s1 ra => ?_) fun _ _ q => q⟩
  obtain ⟨fp, r, _⟩ := ra
  have lk := r.look
  generalize rs.map R.d = ds at lk q
  unfold fRange2 at q
  split at q
  · rename_i i j
    obtain ⟨v, u, fp1, gp, rfl, rr, rr'⟩ := lk.two
    obtain rfl : v = .int i := rr.1
    obtain rfl : u = .int j := rr'.1
    split at q
    · rename_i hz
      exact ⟨i, j, rfl, hz, q _ H1 s1 (Walk.range _ _)⟩
    · exact q.elim
  · exact q.elim
/-- for t in iter: body -/
def gFor (t : Tg) (gi : GI) (g : GS) : GS := fun δ => (lift (gi δ) δ).bind fun xs => gForL t g xs δ
theorem ds_for {t : Tg} (hp : PassesOwn (model X.prog X.w) X.A X.env X.xe) (hc : X.calm = true) (hi : DI W X tg iter gi) (hg : PG X tg (t.g X.K)) (hb : DSs W X body g1)
    (hs : ∀ x, foldedSetIterable iter X.env x = pure x := by intro _; rfl) : DS W X (.For tg iter body [] pos) (gFor t gi g1) := by
  refine PS.imp (ps_for hp hc hi hg hb hs) fun D σ H ⟨B, Rg, δ, S0, w⟩ => ?_
  refine ⟨B, Rg, δ, S0, Rn.wp_mono (Rn.wp_mapErr.mp (Rn.wp_bind.mp w)) (fun xs q J H1 s1 wk => ?_) fun cl _ q C H' e s => q C σ H' e (S0.grow s)⟩
  obtain ⟨G, hG, hf, hR⟩ := wk.ex
  obtain ⟨B', b1, b2, S1⟩ := S0.hold s1 hG (fun a ha => (hf a ha).imp id .inl)
  exact loop_core b2 hR S1 (Rn.wp_mono q (fun fl q => postF_hold b1 S0.sub q) fun cl δ q => postE_hold b1 S0.sub q)
end
end DL
/-! DLi: comprehensions; append, stores to places; unpacking; while; raise; defs and their calls. -/
namespace DL
open PySem PySem.Spec PyProof.Rows L2

/-! ### comprehensions -/
def Rn.noErr {α : Type} : Rn Unit α → Rn Unit α
  | .ok a => .ok a
  | .err _ _ => .bad
  | .bad => .bad
  | .pick n k => .pick n fun i => (k i).noErr
theorem Rn.wp_noErr {α : Type} {w : Rn Unit α} {Q : α → Prop} {E E' : Str → Unit → Prop} (h : w.noErr.wp Q E) : w.wp Q E' := by
  induction w with
  | ok a => exact h
  | err c e => exact h.elim
  | bad => exact h
  | pick n k ih => exact fun i hi => ih i (h i hi)
def wipeS (δ : Sl) : List Nat → Sl
  | [] => δ
  | v :: vs => (wipeS δ vs).set v .no
def Tg.idx : Tg → List Nat
  | .one i => [i]
  | .tup is => is
/-- the items of [elt for t in xs if test] -/
def lcL (t : Tg) (gt : GT) (ge : GE) (δ : Sl) : List P → List P → Rn Unit (List P)
  | [], acc => .ok acc
  | x :: xs, acc => match t.set (.p x) δ with
    | some δ1 => (gt δ1).noErr.bind fun k => if k = true then (ge δ1).noErr.bind fun r => match r.d with
        | .p y => if acc.length < sizeLine then lcL t gt ge δ xs (acc ++ [y]) else .bad
        | _ => .bad
      else lcL t gt ge δ xs acc
    | none => .bad
def gLc (t : Tg) (vs : List Nat) (gi : GI) (gt : GT) (ge : GE) : GE := fun δ => (gi δ).bind fun xs => (lcL t gt ge (wipeS δ vs) xs []).bind fun ys => .ok (.own (.lst ys))
def W0 : WX := fun _ _ _ _ => False
section
variable {K : PySem.W.Frag} {B H H' : Hp} {ex : Option Addr} {Rg : Rgs ex}
theorem SRel.drop1 {σ : L2.St} {δ : Sl} (S0 : SRel K B Rg σ H δ) (i : Nat) : SRel K B Rg σ H (δ.set i .no) := by
  obtain ⟨b, u, fp, q, n, f⟩ := S0
  obtain ⟨fp', q1, q2, q3⟩ := SlotsR.drop1 i q n
  exact ⟨b, u, fp', q1, q2, fun a ha => f a (q3 a ha)⟩
theorem SlotsR.wipe1 : ∀ {δ : Sl} {σ : L2.St} {fp : List Addr} (i : Nat) {v : Option V}, SlotsR K Rg H δ σ fp → fp.Nodup → ∃ fp', SlotsR K Rg H (δ.set i .no) (σ.set i v) fp' ∧ fp'.Nodup ∧ ∀ a ∈ fp', a ∈ fp
  | [], σ, _, i, v, h, n => ⟨_, by obtain ⟨rfl, rfl⟩ := h; exact ⟨rfl, rfl⟩, n, fun _ z => z⟩
  | s :: δ, _, _, 0, v, h, n => by
    obtain ⟨ov, r, f, g, rfl, rfl, h1, h2⟩ := h
    rw [List.nodup_append] at n
    exact ⟨g, ⟨v, r, [], g, rfl, rfl, rfl, h2⟩, n.2.1, fun a ha => by simp [ha]⟩
  | s :: δ, _, _, i + 1, v, h, n => by
    obtain ⟨ov, r, f, g, rfl, rfl, h1, h2⟩ := h
    rw [List.nodup_append] at n
    obtain ⟨fp', q1, q2, q3⟩ := SlotsR.wipe1 i (v := v) h2 n.2.1
    refine ⟨f ++ fp', ⟨ov, r.set i v, f, fp', rfl, rfl, h1, q1⟩, ?_, fun a ha => ?_⟩
    · rw [List.nodup_append]
      exact ⟨n.1, q2, fun a ha b hb e => n.2.2 a ha b (q3 b hb) e⟩
    · rcases List.mem_append.mp ha with z | z
      · simp [z]
      · simp [q3 a z]
theorem SRel.wipe {σ : L2.St} {δ : Sl} (S0 : SRel K B Rg σ H δ) : ∀ vs : List Nat, SRel K B Rg (L2.wipe σ vs) H (wipeS δ vs)
  | [] => S0
  | v :: vs => by
    obtain ⟨b, u, fp, q, n, f⟩ := SRel.wipe S0 vs
    obtain ⟨fp', q1, q2, q3⟩ := SlotsR.wipe1 v (v := none) q n
    exact ⟨b, u, fp', q1, q2, fun a ha => f a (q3 a ha)⟩
theorem wipe_set (σ : L2.St) (v : Option V) (i : Nat) : ∀ vs : List Nat, i ∈ vs → L2.wipe (σ.set i v) vs = L2.wipe σ vs
  | [], h => by cases h
  | w :: vs, h => by
    show (L2.wipe (σ.set i v) vs).set w none = (L2.wipe σ vs).set w none
    have com : ∀ (us : List Nat) (τ : L2.St), i ∉ us → L2.wipe (τ.set i v) us = (L2.wipe τ us).set i v := by
      intro us
      induction us with
      | nil => intro τ _; rfl
      | cons u us ih =>
        intro τ hu
        show (L2.wipe (τ.set i v) us).set u none = ((L2.wipe τ us).set u none).set i v
        rw [ih τ (fun z => hu (by simp [z])), List.set_comm _ _ (fun z => hu (by simp [z]))]
    by_cases hm : i ∈ vs
    · rw [wipe_set σ v i vs hm]
    · have e : i = w := by
        rcases List.mem_cons.mp h with z | z
        · exact z
        · exact absurd z hm
      subst e
      rw [com vs σ hm, List.set_set]
theorem wipe_wipe (σ : L2.St) : ∀ vs : List Nat, L2.wipe (L2.wipe σ vs) vs = L2.wipe σ vs := by
  intro vs
  have gen : ∀ (us vs : List Nat), (∀ u ∈ us, u ∈ vs) → L2.wipe (L2.wipe σ us) vs = L2.wipe σ vs := by
    intro us
    induction us with
    | nil => intro vs _; rfl
    | cons u us ih =>
      intro vs h
      show L2.wipe ((L2.wipe σ us).set u none) vs = _
      rw [wipe_set _ _ _ vs (h u (by simp)), ih vs fun w hw => h w (by simp [hw])]
  exact gen vs vs fun _ h => h
/-- the heap without D -/
def cutH (H : Hp) (D : Addr) : Hp := fun b => if b = D then none else H b
theorem cutH_same (H : Hp) (D : Addr) : Same (cutH H D) H := fun b o e => by
  unfold cutH at e
  split at e
  · cases e
  · exact e
theorem cutH_mono {H H' : Hp} (s : Same H H') (D : Addr) : Same (cutH H D) (cutH H' D) := fun b o e => by
  unfold cutH at e ⊢
  split at e
  · cases e
  · rename_i h; rw [if_neg h]; exact s b o e
theorem cutH_upd {H : Hp} {D : Addr} {o : HO} : cutH (upd H D o) D = cutH H D := by
  funext b
  unfold cutH
  split
  · rfl
  · rename_i h; rw [upd_ne h]
/-- the slots behind a target's store are forgotten -/
theorem gNms_wipe (vs : List Nat) : ∀ (is : List Nat) (ws : List V) (σ : L2.St) (H : Hp) (Q : L2.St → Hp → Prop), (∀ i ∈ is, i ∈ vs) → gNms is ws σ H Q → gNms is ws σ H fun σ' H' => L2.wipe σ' vs = L2.wipe σ vs ∧ Q σ' H'
  | [], ws, σ, H, Q, _, h => ⟨h.1, rfl, h.2⟩
  | i :: is, ws, σ, H, Q, hi, h => by
    obtain ⟨v, r, e, h⟩ := h
    refine ⟨v, r, e, ?_⟩
    have := gNms_wipe vs is r (σ.set i (some v)) H Q (fun j hj => hi j (by simp [hj])) h
    rw [wipe_set σ (some v) i vs (hi i (by simp))] at this
    exact this
theorem Tg.g_wipe {t : Tg} {vs : List Nat} {v : V} {σ : L2.St} {Q : L2.St → Hp → Prop} (ht : ∀ i ∈ t.idx, i ∈ vs) (h : t.g K v σ H Q) : t.g K v σ H fun σ' H' => L2.wipe σ' vs = L2.wipe σ vs ∧ Q σ' H' := by
  cases t with
  | one i => exact ⟨wipe_set σ (some v) i vs (ht i (by simp [Tg.idx])), h⟩
  | tup is =>
    obtain ⟨a, xs, e1, e2, e3, h⟩ := h
    exact ⟨a, xs, e1, e2, e3, gNms_wipe vs is xs σ H Q ht h⟩
end
section
variable {W : WX} {X : Cx} {e elt tg iter : Expr} {ifs : List Expr} {gi : GI} {gt : GT} {ge : GE} {scope : Scope} {own : List (Str × Nat)} {pos : Pos}
/-- the context of a block -/
abbrev dc0 (X : Cx) : DC := ⟨X.K, X.mg, W0, none⟩
theorem lc_of {t : Tg} {vs : List Nat} (hcal : X.calm = true) (ht : ∀ i ∈ t.idx, i ∈ vs) (σ : L2.St) (H : Hp) (Q : VK) (h : tD (dc X W) (gLc t vs gi gt ge) σ H Q) :
    tLc (tDI (dc X W) gi) (t.g X.K) (tDT (dc0 X) gt) (tD (dc0 X) ge) vs σ H Q := by
  rw [dc_calm hcal] at h ⊢
  obtain ⟨B, Rg, δ, S0, w⟩ := h
  refine ⟨B, Rg, δ, S0, Rn.wp_mono (Rn.wp_bind.mp w) (fun xs q J H1 s1 wk => ?_) fun _ _ q => q⟩
  intro Dp hD
  obtain ⟨G, hG, hf, hR⟩ := wk.ex
  obtain ⟨B', b1, b2, S1⟩ := S0.hold s1 hG (fun a ha => (hf a ha).imp id .inl)
  have S2 := S1.wipe vs
  have c1 : cutH H1 Dp = H1 := by
    funext b
    unfold cutH
    split
    · rename_i z; subst z; exact hD.symm
    · rfl
  refine ⟨fun i m H' => m = xs.length - i ∧ i ≤ xs.length ∧ ∃ acc vacc, H' Dp = some (.lst vacc) ∧ RepPs X.K H' acc vacc ∧ Same H1 (cutH H' Dp) ∧ SRel X.K B' Rg (L2.wipe σ vs) (cutH H' Dp) (wipeS δ vs) ∧
    ((lcL t gt ge (wipeS δ vs) (xs.drop i) acc).bind fun ys => .ok (.own (.lst ys))).wp (fun r => ∀ v H', Same H H' → RepR X.K H H' r v → Q v H') (fun cl _ => ∀ C H', X.mg cl = some (.ref C) → Same H H' → W (.ref C) none σ H'),
    ⟨xs.length, by simp, Nat.zero_le _, [], [], upd_same, rfl, by rw [cutH_upd, c1]; exact Same.refl _, by rw [cutH_upd, c1]; exact S2, by simpa using q⟩, ?_⟩
  rintro i m H2 ⟨rfl, hi, acc, vacc, eD, ra, sm, S3, w3⟩
  have S4 := S3.grow (cutH_same H2 Dp)
  have s02 : Same H H2 := s1.trans (sm.trans (cutH_same H2 Dp))
  obtain ⟨r1, r2⟩ := hR H2 (b2.trans S4.same) i
  by_cases hlt : i < xs.length
  · have ep := List.getElem?_eq_getElem hlt
    obtain ⟨go, yl⟩ := r1 _ ep
    rw [List.drop_eq_getElem_cons hlt] at w3
    refine .inr ⟨go, fun H' => ∃ acc vacc, H' Dp = some (.lst vacc) ∧ RepPs X.K H' acc vacc ∧ Same H1 (cutH H' Dp) ∧ SRel X.K B' Rg (L2.wipe σ vs) (cutH H' Dp) (wipeS δ vs) ∧
      ((lcL t gt ge (wipeS δ vs) (xs.drop (i + 1)) acc).bind fun ys => .ok (.own (.lst ys))).wp (fun r => ∀ v H', Same H H' → RepR X.K H H' r v → Q v H') (fun cl _ => ∀ C H', X.mg cl = some (.ref C) → Same H H' → W (.ref C) none σ H'),
      fun H' q => ⟨xs.length - (i + 1), by omega, rfl, hlt, q⟩, fun x H3 y => ?_⟩
    obtain ⟨s3, rp⟩ := yl x H3 y
    unfold lcL at w3
    split at w3
    · rename_i δ1 e1
      have gw := Tg.ok (K := X.K) (t := t) (d := .p xs[i]) (v := x) (gp := []) (Q := fun σ' H' => H' = H3 ∧ SRel X.K B' Rg σ' H3 δ1) S4 s3 ⟨rp, rfl⟩ List.nodup_nil (fun _ z => nomatch z) e1 fun σ' S5 => ⟨rfl, S5⟩
      have gw2 := Tg.g_wipe (vs := vs) ht gw
      refine Tg.g_mono (fun σ2 H2' ⟨ew, eh, S5⟩ => ?_) gw2
      subst eh
      refine ⟨by rw [ew, wipe_wipe], ?_⟩
      refine ⟨B', Rg, δ1, S5, Rn.wp_noErr (Rn.wp_mono (Rn.wp_bind.mp (Rn.wp_bind.mp w3)) (fun k q H4 s4 => ?_) fun _ _ q => q)⟩
      have S6 := S5.grow s4
      have s24 := s3.trans s4
      have eD4 : H4 Dp = some (.lst vacc) := s24 _ _ eD
      have smm : Same H1 (cutH H4 Dp) := sm.trans (cutH_mono s24 Dp)
      dsimp only
      cases k with
      | false =>
        rw [if_neg (by decide)] at q ⊢
        exact ⟨acc, vacc, eD4, RepPs.kt (Same.kt s24) _ _ ra, smm, S3.grow (cutH_mono s24 Dp), Rn.wp_bind.mpr q⟩
      | true =>
        rw [if_pos rfl] at q ⊢
        refine ⟨B', Rg, δ1, S6, Rn.wp_noErr (Rn.wp_mono (Rn.wp_bind.mp q) (fun r q v H5 s5 rv => ?_) fun _ _ q => q)⟩
        have s25 := s24.trans s5
        split at q
        · rename_i y ey
          split at q
          · rename_i hz
            have ry := rv.getP ey
            have ra5 := RepPs.kt (Same.kt s25) _ _ ra
            have kt5 : KT H5 (upd H5 Dp (.lst (vacc ++ [v]))) := KT.upd (s25 _ _ eD) trivial
            refine ⟨vacc, s25 _ _ eD, by rw [ra.len]; exact hz, acc ++ [y], vacc ++ [v], upd_same, RepPs.kt kt5 _ _ (RepPs.append (show RepPs X.K H5 [y] [v] from ⟨v, [], rfl, ry, rfl⟩) ra5), ?_, ?_, Rn.wp_bind.mpr q⟩
            · rw [cutH_upd]; exact sm.trans (cutH_mono s25 Dp)
            · rw [cutH_upd]; exact S3.grow (cutH_mono s25 Dp)
          · exact q.elim
        · exact q.elim
    · exact w3.elim
  · have hn : xs.length ≤ i := by omega
    rw [List.drop_eq_nil_of_le hn] at w3
    refine .inl ⟨r2 hn, w3 (.ref Dp) H2 s02 ⟨[Dp], ⟨Dp, vacc, rfl, eD, rfl, ra⟩, by simp, fun b hb => ?_⟩⟩
    obtain rfl : b = Dp := by simpa using hb
    exact s1.free hD
def DTs (W : WX) (X : Cx) (ifs : List Expr) (g : GT) : Prop := PTs X ifs (tDT (dc X W) g)
def gYes : GT := fun _ => .ok true
theorem dts_nil : DTs W X [] gYes := ⟨fun pins s σ H Q I ⟨B, Rg, δ, S0, w⟩ => pts_nil.run pins s σ H Q I (w H (Same.refl H))⟩
theorem dts_one (h : DT W X e gt) : DTs W X [e] gt := pts_one h
theorem de_lc {t : Tg} (hc : X.calm = true) (hN : X.N.Nodup) (hi : DI W X tg iter gi) (ok : BlkOk X.N X.env.scope scope own)
    (hg : ∀ (s : Shared) (H : Hp) (C : Addr) (cl : List (Str × Addr)) (fp : List Addr), PG (X.blk s H scope (compEnvC scope cl C X.env) fp) tg (t.g X.K))
    (ht : ∀ (s : Shared) (H : Hp) (C : Addr) (cl : List (Str × Addr)) (fp : List Addr), DTs W0 (X.blk s H scope (compEnvC scope cl C X.env) fp) ifs gt)
    (he : ∀ (s : Shared) (H : Hp) (C : Addr) (cl : List (Str × Addr)) (fp : List Addr), DE W0 (X.blk s H scope (compEnvC scope cl C X.env) fp) elt ge)
    (hx : ∀ i ∈ t.idx, i ∈ own.map (·.2) := by decide) (hs : ∀ x, foldedSetIterable iter X.env x = pure x := by intro _; rfl) :
    DE W X (.ListComp elt [⟨tg, iter, ifs, 0⟩] scope pos) (gLc t (own.map (·.2)) gi gt ge) :=
  PE.imp (pe_lc (tt := tDT (dc0 X) gt) (te := tD (dc0 X) ge) hc hN hi ok hg ht he hs) (lc_of hc hx)
theorem ds_setLc {i : Nat} {y : Str} {py spos : Pos} {t : Tg} (hc : X.calm = true) (hN : X.N.Nodup) (hy : X.N[i]? = some y) (hyl : X.env.scope.names.lookup y = some .local)
    (hsw : swapsWith (.ListComp elt [⟨tg, iter, ifs, 0⟩] scope pos) (some (.Name y py)) spos.line X.env = pure true) (hi : DI W X tg iter gi) (ok : BlkOk X.N X.env.scope scope own)
    (hg : ∀ (s : Shared) (H : Hp) (C : Addr) (cl : List (Str × Addr)) (fp : List Addr), PG (X.blk s H scope (compEnvC scope cl C X.env) fp) tg (t.g X.K))
    (ht : ∀ (s : Shared) (H : Hp) (C : Addr) (cl : List (Str × Addr)) (fp : List Addr), DTs W0 (X.blk s H scope (compEnvC scope cl C X.env) fp) ifs gt)
    (he : ∀ (s : Shared) (H : Hp) (C : Addr) (cl : List (Str × Addr)) (fp : List Addr), DE W0 (X.blk s H scope (compEnvC scope cl C X.env) fp) elt ge)
    (hx : ∀ i ∈ t.idx, i ∈ own.map (·.2) := by decide) (hs : ∀ x, foldedSetIterable iter X.env x = pure x := by intro _; rfl) :
    DS W X (.Assign [.Name y py] (.ListComp elt [⟨tg, iter, ifs, 0⟩] scope pos) spos) (gSet i (gLc t (own.map (·.2)) gi gt ge)) := by
  refine PS.imp (ps_setLc (tt := tDT (dc0 X) gt) (te := tD (dc0 X) ge) hc hN hy hyl hsw hi ok hg ht he hs) fun D σ H ⟨B, Rg, δ, S0, w⟩ => ?_
  refine lc_of hc hx σ H _ ?_
  refine tDS_val S0 w fun r v H1 s1 rv S1 q => ?_
  cases r with
  | own d =>
    obtain ⟨fp, q1, n, f⟩ := rv
    exact q _ _ (S0.set s1 q1 n f)
  | vw d => exact q.elim
end
end DL
/-! DLj: append, stores to places, unpacking, while, raise, defs and their calls. -/
namespace DL
open PySem PySem.Spec PyProof.Rows L2

/-! ### defs and calls -/
/-- a def as a function of data -/
abbrev Fn := List D → Rn Unit D
def startS (n : Nat) (ds : List D) : Sl := ds.map (S.bor none) ++ List.replicate (n - ds.length) S.no
def fnD (n : Nat) (g : GS) : Fn := fun ds => ((g (startS n ds)).mapErr fun _ => ()).bind fun
  | .ret d => .ok d
  | .nx _ => .ok (.p .non)
  | _ => .bad
/-- what a def promises -/
def spD (K : PySem.W.Frag) (mg : Str → Option Value) (n : Nat) (f : Fn) : Sp := fun vs H Q E => ∃ ds : List D, ds.length = n ∧ LookL K H ds vs ∧
  (f ds).wp (fun d => postR K H d Q) fun cl _ => ∀ C H', mg cl = some (.ref C) → Same H H' → E (.ref C) none H'
theorem LookL.len {K : PySem.W.Frag} {H : Hp} : ∀ {ds : List D} {vs : List V}, LookL K H ds vs → vs.length = ds.length
  | [], vs, h => by
    obtain rfl : vs = [] := h
    rfl
  | d :: ds, vs, h => by
    obtain ⟨v, r, rfl, _, h2⟩ := h
    simp [LookL.len h2]
theorem start_slots {K : PySem.W.Frag} {H : Hp} : ∀ {ds : List D} {vs : List V} (m : Nat), LookL K H ds vs → SlotsR K (ex := none) (fun t => if t = none then H else fun _ => none) H (ds.map (S.bor none) ++ List.replicate m S.no) (vs.map some ++ List.replicate m none) []
  | [], vs, m, h => by
    obtain rfl : vs = [] := h
    show SlotsR K _ H (List.replicate m S.no) (List.replicate m none) []
    induction m with
    | zero => exact ⟨rfl, rfl⟩
    | succ m ih => exact ⟨none, List.replicate m none, [], [], rfl, rfl, rfl, ih⟩
  | d :: ds, vs, m, h => by
    obtain ⟨v, r, rfl, ⟨g, q⟩, h2⟩ := h
    refine ⟨some v, r.map some ++ List.replicate m none, [], [], rfl, rfl, ⟨rfl, v, g, rfl, q, fun a ha => ?_⟩, start_slots m h2⟩
    show (if (none : Option Nat) = none then H else fun _ => none) a ≠ none
    rw [if_pos rfl]
    exact q.mem a ha
section
variable {P : Program} {w : World} {K : PySem.W.Frag} {mg : Str → Option Value} {base : Heap}
/-- a def keeps its promise -/
theorem fn_ok {x qual : Str} {st : Stmt} {f : Addr} {fd : FuncData} {N ps : List Str} {k : Nat} {g : GS} (F : Fun K x qual st f fd) (S : FnScope N ps (defScope st))
    (hb : ∀ (cdv : Value) (A : Around) (outer : List Env) (s : Shared) (H : Hp) (E : XK), Room k (A.deeper (envOfC qual (defScope st) s.heap.objs.size f cdv)) →
      DSs (fun cls d _ H => E cls d H) (cxOf (L2.CX P w) P w K mg base N qual (defScope st) f cdv A outer s H E) (defBody st) g) :
    FnOk P w K mg base (L2.CX P w) (k + 1) f fd ps (spD K mg ps.length (fnD N.length g)) := by
  refine F.okX S (fun vs H Q E ⟨ds, hl, lk, _⟩ => by rw [lk.len, hl]) fun cdv A outer s H vs Q E hr ⟨ds, hl, lk, w0⟩ => ⟨_, hb cdv A outer s H E hr, ?_⟩
  refine ⟨H, fun t => if t = none then H else fun _ => none, startS N.length ds, ⟨Same.refl H, fun t => ?_, [], ?_, List.nodup_nil, fun _ z => nomatch z⟩, ?_⟩
  · by_cases e : t = none
    · rw [if_pos e]; exact Same.refl H
    · rw [if_neg e]; exact fun _ _ z => nomatch z
  · have := start_slots (N.length - ds.length) lk
    unfold L2.start startS
    rw [lk.len]
    exact this
  · refine Rn.wp_mono (Rn.wp_mapErr.mp (Rn.wp_bind.mp w0)) (fun fl q => ?_) fun cl δ q C σ H' e S => q C H' e S.same
    cases fl with
    | ret d => exact q
    | nx δ => exact fun σ H' S => q .non H' S.same ⟨[], ⟨rfl, rfl⟩, List.nodup_nil, fun _ z => nomatch z⟩
    | bk δ => exact q.elim
    | ct δ => exact q.elim
end
/-- a def as its callers see it -/
structure FD (P : Program) (w : World) (K : PySem.W.Frag) (mg : Str → Option Value) (base : Heap) (k : Nat) (x : Str) (n : Nat) (f : Fn) : Prop where
  ex : ∃ (a : Addr) (fd : FuncData) (ps : List Str), mg x = some (.ref a) ∧ PySem.W.keepIn K (.ref a) = true ∧ Binds K fd ps [] ∧ FnOk P w K mg base (L2.CX P w) k a fd ps (spD K mg n f)
def gFn (n : Nat) (f : Fn) (gs : GA) : GE := fun δ => (gs δ).bind fun rs => if rs.length = n then (f (rs.map R.d)).bind fun d => .ok (.own d) else .bad
section
variable {W : WX} {X : Cx} {a b e tg iter : Expr} {es : List Expr} {ga gb gc : GE} {gs : GA} {gt : GT} {gi : GI} {g1 g2 : GS} {st : Stmt} {sts body : List Stmt} {pos p : Pos}
theorem de_call {x : Str} {k n : Nat} {f : Fn} (F : FD X.prog X.w X.K X.mg X.base k x n f) (hr : Room k X.A) (tk : Takes X W) (ha : DA W X (e :: es) gs)
    (hg : Gl X x := by rfl) (hdb : (x == ("__debug__" : Str)) = false := by decide) (he : starEach (e :: es) X.env = (false, eval e X.env) :: starEach es X.env := by rfl) (hpl : (backTo pos (starEach es X.env)).any (·.1) = false := by rfl) :
    DE W X (.Call (.Name x p) (e :: es) [] pos) (gFn n f gs) := by
  obtain ⟨a, fd, ps, hm, hk, hb, G⟩ := F.ex
  refine PE.imp (pe_callS G hr hg hm hk hb (fun σ => passAt tk σ) ha hdb he hpl) fun σ H Q ⟨B, Rg, δ, S0, w⟩ => ?_
  refine ⟨B, Rg, δ, S0, Rn.wp_mono (Rn.wp_bind.mp w) (fun rs q vs H1 s1 ra => ?_) fun _ _ q => q⟩
  obtain ⟨fp, r, _⟩ := ra
  split at q
  · rename_i hl
    exact ⟨rs.map R.d, by simpa using hl, r.look, Rn.wp_mono (Rn.wp_bind.mp q) (fun d q v H2 s2 ⟨fp, q1, n1, f1⟩ => q v H2 (s1.trans s2) ⟨fp, q1, n1, fun a ha => s1.free (f1 a ha)⟩) fun cl _ q C H' e s => q C H' e (s1.trans s)⟩
  · exact q.elim

/-! ### append, stores to places -/
def fApp : D → R → Option D
  | .lst xs, .own (.p x) => if xs.length < sizeLine then some (.lst (xs ++ [x])) else none
  | .lst xs, .vw (.p x) => if xs.length < sizeLine then some (.lst (xs ++ [x])) else none
  | .lst [], .own d => some (.ls [d])
  | .ls xs, .own d => if xs.length < sizeLine then some (.ls (xs ++ [d])) else none
  | _, _ => none
def D.isL : D → Bool
  | .lst _ => true
  | .ls _ => true
  | _ => false
def gApp (i : Nat) (ga : GE) : GS := fun δ => match δ[i]? with
  | some (.own d) => if d.isL = true then (lift (ga δ) δ).bind fun r => match fApp d r with
    | some d' => .ok (.nx (δ.set i (.own d')))
    | none => .bad else .bad
  | _ => .bad
theorem RepDs.append {K : PySem.W.Frag} {H : Hp} {ys : List D} {us : List V} {gp : List Addr} (hy : RepDs K H ys us gp) : ∀ {xs : List D} {vs : List V} {fp : List Addr}, RepDs K H xs vs fp → RepDs K H (xs ++ ys) (vs ++ us) (fp ++ gp)
  | [], _, _, h => by
    obtain ⟨rfl, rfl⟩ := h
    exact hy
  | x :: xs, _, _, h => by
    obtain ⟨v, r, f, g, rfl, rfl, h1, h2⟩ := h
    exact ⟨v, r ++ us, f, g ++ gp, rfl, by simp, h1, RepDs.append hy h2⟩
theorem fApp_ok {K : PySem.W.Frag} {H0 H : Hp} {d d' : D} {v u : V} {f : List Addr} {r : R} (rd : RepD K H d v f) (nf : f.Nodup) (hf : ∀ a ∈ f, H0 a ≠ none) (ru : RepR K H0 H r u) (e : fApp d r = some d') :
    ∃ a vs, v = .ref a ∧ a ∈ f ∧ H a = some (.lst vs) ∧ vs.length < sizeLine ∧ ∃ f', RepD K (upd H a (.lst (vs ++ [u]))) d' v f' ∧ f'.Nodup ∧ ∀ b ∈ f', b ∈ f ∨ H0 b = none := by
  unfold fApp at e
  have one : ∀ {xs : List P} {x : P}, RepD K H (.lst xs) v f → RepP K H x u → (if xs.length < sizeLine then some (D.lst (xs ++ [x])) else none) = some d' →
      ∃ a vs, v = .ref a ∧ a ∈ f ∧ H a = some (.lst vs) ∧ vs.length < sizeLine ∧ ∃ f', RepD K (upd H a (.lst (vs ++ [u]))) d' v f' ∧ f'.Nodup ∧ ∀ b ∈ f', b ∈ f ∨ H0 b = none := by
    intro xs x rd rx e
    split at e
    · rename_i hz
      obtain rfl := Option.some.inj e
      obtain ⟨a, vs, rfl, q, rfl, r⟩ := rd
      have kt : KT H (upd H a (.lst (vs ++ [u]))) := KT.upd q trivial
      exact ⟨a, vs, rfl, by simp, q, by rw [r.len]; exact hz, [a], ⟨a, vs ++ [u], rfl, upd_same, rfl, RepPs.kt kt _ _ (RepPs.append (show RepPs K H [x] [u] from ⟨u, [], rfl, rx, rfl⟩) r)⟩, by simp, fun b hb => .inl hb⟩
    · cases e
  split at e
  · rename_i xs x
    exact one rd (ru.getP rfl) e
  · rename_i xs x
    exact one rd (ru.getP rfl) e
  · rename_i d1 _
    obtain rfl := Option.some.inj e
    obtain ⟨a, vs, rfl, q, rfl, r⟩ := rd
    obtain rfl : vs = [] := r
    obtain ⟨g, rg, ng, fg⟩ := ru
    have kt : KT H (upd H a (.lst ([] ++ [u]))) := KT.upd q trivial
    have ha : a ∉ g := fun z => hf a (by simp) (fg a z)
    refine ⟨a, [], rfl, by simp, q, by rw [sizeLine_eq]; decide, a :: (g ++ []), ⟨a, [u], g ++ [], rfl, upd_same, rfl, u, [], g, [], rfl, rfl, RepD.kt kt _ _ _ (fun b hb o e => ?_) rg, rfl, rfl⟩, by simpa using ⟨ha, ng⟩, fun b hb => ?_⟩
    · rw [upd_ne (fun z => ha (by rw [← z]; exact hb))]; exact e
    · simp at hb
      rcases hb with rfl | hb
      · exact .inl (by simp)
      · exact .inr (fg b hb)
  · rename_i xs d1
    split at e
    · rename_i hz
      obtain rfl := Option.some.inj e
      obtain ⟨a, vs, f1, rfl, q, rfl, r⟩ := rd
      obtain ⟨g, rg, ng, fg⟩ := ru
      have kt : KT H (upd H a (.lst (vs ++ [u]))) := KT.upd q trivial
      have ha : a ∉ g := fun z => hf a (by simp) (fg a z)
      rw [List.nodup_cons] at nf
      have st : ∀ b, b ≠ a → ∀ o, H b = some o → upd H a (.lst (vs ++ [u])) b = some o := fun b hb o e => by rw [upd_ne hb]; exact e
      refine ⟨a, vs, rfl, by simp, q, by rw [r.len]; exact hz, a :: (f1 ++ (g ++ [])), ⟨a, vs ++ [u], f1 ++ (g ++ []), rfl, upd_same, rfl, RepDs.append (show RepDs K (upd H a (.lst (vs ++ [u]))) [d1] [u] (g ++ []) from ⟨u, [], g, [], rfl, rfl, RepD.kt kt _ _ _ (fun b hb => st b fun z => ha (by rw [← z]; exact hb)) rg, rfl, rfl⟩) (RepDs.kt kt _ _ _ (fun b hb => st b fun z => nf.1 (by rw [← z]; exact hb)) r)⟩, ?_, fun b hb => ?_⟩
      · rw [List.nodup_cons, List.append_nil, List.nodup_append]
        refine ⟨fun z => ?_, nf.2, ng, fun b hb b' hb' e => ?_⟩
        · rcases List.mem_append.mp z with z | z
          · exact nf.1 z
          · exact ha z
        · subst e
          exact hf b (by simp [hb]) (fg b hb')
      · rw [List.append_nil] at hb
        rcases List.mem_cons.mp hb with rfl | hb
        · exact .inl (by simp)
        · rcases List.mem_append.mp hb with z | z
          · exact .inl (by simp [z])
          · exact .inr (fg b z)
    · cases e
  · cases e
theorem ds_app {i : Nat} {x : Str} {apos cpos : Pos} (hN : X.N[i]? = some x) (hv : Vis X.env.scope x) (ha : DE W X e ga) (hd : (x == ("__debug__" : Str)) = false := by decide) (hcd : (x == ("__classdict__" : Str)) = false := by decide)
    (he : starEach (e :: []) X.env = (false, eval e X.env) :: starEach [] X.env := by rfl)
    (hbase : attributeBase (.Name x p) "append" X.env (eval (.Name x p) X.env) = eval (.Name x p) X.env := by rfl)
    (hfew : ((backTo cpos (starEach (e :: []) X.env)).all (fun x => !x.1) && (backToKw cpos (keywordEach [] X.env)).all (fun x => x.1.isSome)
      && decide ((e :: ([] : List Expr)).length + ([] : List Keyword).length + (if ([] : List Keyword).isEmpty then 0 else 1) < 30)) = true := by rfl)
    (hs : swapsWith (.Call (.Attribute (.Name x p) "append" apos) [e] [] cpos) none pos.line X.env = pure false := by rfl) (hline : (apos.endLine == cpos.line) = true := by rfl)
    (hpl : (backTo cpos (starEach ([] : List Expr) X.env)).any (·.1) = false := by rfl) :
    DS W X (.Expr (.Call (.Attribute (.Name x p) "append" apos) [e] [] cpos) pos) (gApp i ga) := by
  refine PS.imp (ps_expr (pe_bm PySem.F.plainAttrs_list PySem.F.slot_list_append PySem.F.type_list_append mt_append (pe_var hN hv hd hcd) (pa_cons ha pa_nil he) hbase hfew hline he hpl) hs) fun D σ H ⟨B, Rg, δ, S0, w⟩ => ?_
  unfold gApp at w
  split at w
  · rename_i d ed
    split at w
    · rename_i hl
      obtain ⟨v, f, e1, rd, nf, fB, k⟩ := S0.change ed
      refine ⟨v, e1, ?_⟩
      have tv : tyV X.K "list" v H := by
        cases d with
        | lst xs => obtain ⟨a, vs, rfl, q, _⟩ := rd; exact .inl ⟨rfl, vs, SqL.of q⟩
        | ls xs => obtain ⟨a, vs, _, rfl, q, _⟩ := rd; exact .inl ⟨rfl, vs, SqL.of q⟩
        | _ => cases hl
      refine ⟨tv, B, Rg, δ, S0, Rn.wp_mono (Rn.wp_mapErr.mp (Rn.wp_bind.mp w)) (fun r q u H1 s1 ru => ?_) fun cl _ q C H' e s => q C σ H' e (S0.grow s)⟩
      split at q
      · rename_i d' ea
        have rd1 := RepD.kt (Same.kt s1) d v f (fun a _ o e => s1 a o e) rd
        obtain ⟨a, vs, rfl, haf, qa, hz, f', rd', nf', hf'⟩ := fApp_ok rd1 nf rd.mem ru ea
        refine ⟨a, vs, u, rfl, rfl, qa, hz, ?_⟩
        exact q σ _ (k _ _ f' ((Same.kt s1).trans (KT.upd qa trivial)) (fun b o hb e => by rw [upd_ne (fun z => hb (by rw [z]; exact haf))]; exact s1 b o e) rd' nf' hf')
      · exact q.elim
    · exact w.elim
  · exact w.elim

/-- x[i] = e, a list or a dict in a slot -/
def putP {κ : Type} [DecidableEq κ] (kvs : List (κ × P)) (k : κ) (v : P) : List (κ × P) :=
  if (kvs.any fun kv => decide (kv.1 = k)) = true then kvs.map (fun kv => if kv.1 = k then (kv.1, v) else kv) else kvs ++ [(k, v)]
def fPut : D → P → P → Option D
  | .lst xs, .int k, v => match ixN xs.length k with
    | some j => some (.lst (xs.set j v))
    | none => none
  | .dic kvs, x, v => match keyP x with
    | some k => if kvs.length < sizeLine then some (.dic (putP kvs k v)) else none
    | none => none
  | _, _, _ => none
def gPut (i : Nat) (gk ge : GE) : GS := fun δ => match δ[i]? with
  | some (.own d) => (lift (ge δ) δ).bind fun r => (lift (gk δ) δ).bind fun k => match k.d, r.d with
    | .p x, .p v => match fPut d x v with
      | some d' => .ok (.nx (δ.set i (.own d')))
      | none => .bad
    | _, _ => .bad
  | _ => .bad
theorem map_put {K : PySem.W.Frag} {H : Hp} {κ : Type} [DecidableEq κ] {k : κ} {x : P} {v : V} (hx : RepP K H x v) : ∀ {xs : List (κ × P)} {ws : List (κ × V)}, RepKs K H xs ws →
    RepKs K H (xs.map fun kv => if kv.1 = k then (kv.1, x) else kv) (ws.map fun kv => if kv.1 = k then (kv.1, v) else kv)
  | [], ws, h => by obtain rfl : ws = [] := h; exact rfl
  | (c, y) :: xs, ws, h => by
    obtain ⟨u, r, rfl, h1, h2⟩ := h
    rw [List.map_cons, List.map_cons]
    by_cases e : c = k
    · simp only [e, if_true]
      exact ⟨v, _, rfl, hx, map_put hx h2⟩
    · simp only [e, if_false]
      exact ⟨u, _, rfl, h1, map_put hx h2⟩
theorem add_put {K : PySem.W.Frag} {H : Hp} {κ : Type} {k : κ} {x : P} {v : V} (hx : RepP K H x v) : ∀ {xs : List (κ × P)} {ws : List (κ × V)}, RepKs K H xs ws → RepKs K H (xs ++ [(k, x)]) (ws ++ [(k, v)])
  | [], ws, h => by obtain rfl : ws = [] := h; exact ⟨v, [], rfl, hx, rfl⟩
  | (c, y) :: xs, ws, h => by
    obtain ⟨u, r, rfl, h1, h2⟩ := h
    exact ⟨u, _, rfl, h1, add_put hx h2⟩
theorem RepPs.set {K : PySem.W.Frag} {H : Hp} {x : P} {v : V} (hx : RepP K H x v) : ∀ {xs : List P} {vs : List V} (j : Nat), RepPs K H xs vs → RepPs K H (xs.set j x) (vs.set j v)
  | [], vs, j, h => by
    obtain rfl : vs = [] := h
    exact rfl
  | y :: xs, vs, 0, h => by
    obtain ⟨u, r, rfl, _, h2⟩ := h
    exact ⟨v, r, rfl, hx, h2⟩
  | y :: xs, vs, j + 1, h => by
    obtain ⟨u, r, rfl, h1, h2⟩ := h
    exact ⟨u, r.set j v, rfl, h1, RepPs.set hx j h2⟩
theorem RepKs.any {K : PySem.W.Frag} {H : Hp} {κ : Type} [DecidableEq κ] {k : κ} : ∀ {xs : List (κ × P)} {ws : List (κ × V)}, RepKs K H xs ws → (xs.any fun kv => decide (kv.1 = k)) = ws.any fun kv => decide (kv.1 = k)
  | [], ws, h => by
    obtain rfl : ws = [] := h
    rfl
  | (c, x) :: xs, ws, h => by
    obtain ⟨v, r, rfl, _, h2⟩ := h
    simp only [List.any_cons, RepKs.any h2]
theorem RepKs.put {K : PySem.W.Frag} {H : Hp} {κ : Type} [DecidableEq κ] {k : κ} {x : P} {v : V} (hx : RepP K H x v) {xs : List (κ × P)} {ws : List (κ × V)} (h : RepKs K H xs ws) : RepKs K H (putP xs k x) (putK ws k v) := by
  unfold putP putK
  rw [h.any]
  split
  · exact map_put hx h
  · exact add_put hx h
theorem PSet.or {t t' : TSet} (h : PSet X t) (h' : PSet X t') : PSet X (fun o i v H Q => t o i v H Q ∨ t' o i v H Q) := by
  intro pins s σ H o i v ov iv u Q I ro ri rv q
  rcases q with q | q
  · exact h pins s σ H o i v ov iv u Q I ro ri rv q
  · exact h' pins s σ H o i v ov iv u Q I ro ri rv q
theorem ds_put {i : Nat} {x : Str} {ix : Expr} {gk : GE} {tpos : Pos} (hu : X.A.units + 1 < cLine) (hN : X.N[i]? = some x) (hv : Vis X.env.scope x) (hk : DE W X ix gk) (he : DE W X e ga)
    (hd : (x == ("__debug__" : Str)) = false := by decide) (hcd : (x == ("__classdict__" : Str)) = false := by decide)
    (ha : ∀ v, assign (.Subscript (.Name x p) ix tpos) X.env v = (do
      let ov ← holding [v] (eval (.Name x p) X.env)
      let iv ← holding [v, ov] (eval ix X.env)
      standAt tpos
      holding [v, ov, iv] (setItem ov iv v)
      release [v, ov, iv] []) := by intro _; rfl)
    (hs : swapsWithSole [.Subscript (.Name x p) ix tpos] e pos.line X.env = pure false := by rfl) (hw : swappedStores [.Subscript (.Name x p) ix tpos] e X.env = pure none := by rfl)
    (h1 : (assignEach [.Subscript (.Name x p) ix tpos] X.env).map (·.2) = [assign (.Subscript (.Name x p) ix tpos) X.env] := by rfl) :
    DS W X (.Assign [.Subscript (.Name x p) ix tpos] e pos) (gPut i gk ga) := by
  refine PS.imp (ps_asg he (pg_sub (pe_var hN hv hd hcd) hk (PSet.or set_list (set_dict hu)) ha) hs hw h1) fun D σ H ⟨B, Rg, δ, S0, w⟩ => ?_
  unfold gPut at w
  split at w
  · rename_i d ed
    refine tDS_val S0 w fun r v H1 s1 rv S1 q => ?_
    obtain ⟨ov, f, e1, rd, nf, fB, k⟩ := S1.change ed
    refine ⟨ov, e1, ?_⟩
    refine tDS_val S1 q fun r2 v2 H2 s2 rv2 S2 q => ?_
    split at q
    · rename_i x v0 ek ev
      split at q
      · rename_i d' ef
        have rd2 := RepD.kt (Same.kt s2) d ov f (fun a _ o e => s2 a o e) rd
        have rx := rv2.getP ek
        have rw' := RepP.kt (Same.kt s2) _ _ (rv.getP ev)
        cases d with
        | lst xs =>
          cases x with
          | int kk =>
            obtain rfl : v2 = .int kk := rx
            simp only [fPut] at ef
            split at ef
            · rename_i j ej
              obtain rfl := Option.some.inj ef
              obtain ⟨a, vs, rfl, qa, rfl, ra⟩ := rd2
              have kt : KT H2 (upd H2 a (.lst (vs.set j v))) := KT.upd qa trivial
              refine .inl ⟨a, vs, kk, j, rfl, rfl, qa, by rw [ra.len]; exact ej, ?_⟩
              exact q σ _ (k _ _ [a] ((Same.kt s2).trans kt) (fun b o hb e => by rw [upd_ne (by simpa using hb)]; exact s2 b o e) ⟨a, _, rfl, upd_same, rfl, RepPs.kt kt _ _ (RepPs.set rw' j ra)⟩ (by simp) fun b hb => .inl hb)
            · cases ef
          | _ => cases ef
        | dic kvs =>
          simp only [fPut] at ef
          split at ef
          · rename_i kk ekk
            split at ef
            · rename_i hz
              obtain rfl := Option.some.inj ef
              obtain rfl : v2 = kV kk := keyP_kV rx ekk
              obtain ⟨a, ws, rfl, qa, rfl, ra⟩ := rd2
              have kt : KT H2 (upd H2 a (.dK (putK ws kk v))) := KT.upd qa trivial
              refine .inr ⟨a, _, rfl, DPut.k qa (by rw [ra.len]; exact hz), ?_⟩
              exact q σ _ (k _ _ [a] ((Same.kt s2).trans kt) (fun b o hb e => by rw [upd_ne (by simpa using hb)]; exact s2 b o e) ⟨a, _, rfl, upd_same, rfl, RepKs.kt kt _ _ (RepKs.put rw' ra)⟩ (by simp) fun b hb => .inl hb)
            · cases ef
          · cases ef
        | _ => cases x <;> cases ef
      · exact q.elim
    · exact q.elim
  · exact w.elim
end
end DL
/-! DLk: unpacking, while, loops over a slot's list, raise, try, isinstance. -/
namespace DL
open PySem PySem.Spec PyProof.Rows L2
section
variable {W : WX} {X : Cx} {a b e tg iter : Expr} {es : List Expr} {ga gb gc : GE} {gs : GA} {gt : GT} {gi : GI} {g1 g2 : GS} {st : Stmt} {sts body : List Stmt} {pos p : Pos}
/-- a, b = e -/
def gUnp (t : Tg) (ga : GE) : GS := fun δ => (lift (ga δ) δ).bind fun r => match r with
  | .own d => match t.set d δ with
    | some δ' => .ok (.nx δ')
    | none => .bad
  | .vw _ => .bad
theorem ds_unp {t : Tg} (hg : PG X tg (t.g X.K)) (ha : DE W X e ga) (hs : swapsWithSole [tg] e pos.line X.env = pure false := by rfl) (hw : swappedStores [tg] e X.env = pure none := by rfl)
    (h1 : (assignEach [tg] X.env).map (·.2) = [assign tg X.env] := by rfl) : DS W X (.Assign [tg] e pos) (gUnp t ga) := by
  refine PS.imp (ps_asg ha hg hs hw h1) fun D σ H ⟨B, Rg, δ, S0, w⟩ => ?_
  refine tDS_val S0 w fun r v H1 s1 rv S1 q => ?_
  cases r with
  | own d =>
    dsimp only at q
    split at q
    · rename_i δ' e1
      obtain ⟨fp, q1, n, f⟩ := rv
      exact Tg.ok S0 s1 q1 n f e1 fun σ' S2 => q σ' H1 S2
    · exact q.elim
  | vw d => exact q.elim
/-- a, b = x, y -/
def gPar (i j : Nat) (gs : GA) : GS := fun δ => (lift (gs δ) δ).bind fun rs => match rs with
  | [.own (.p x), .own (.p y)] => .ok (.nx ((δ.set i (.own (.p x))).set j (.own (.p y))))
  | _ => .bad
theorem ds_par {i j : Nat} {x y : Str} {px py pt pt2 : Pos} {kt k2 : Nat} (hc : X.calm = true) (hN : X.N.Nodup) (hi : X.N[i]? = some x) (hj : X.N[j]? = some y) (hij : i ≠ j)
    (hx : X.env.scope.names.lookup x = some .local) (hy : X.env.scope.names.lookup y = some .local) (ha : DA W X [a, b] gs)
    (hw : swappedStores [.Tuple [.Name x px, .Name y py] kt pt] (.Tuple [a, b] k2 pt2) X.env = pure (some [x, y]))
    (hs : swapsWithSole [.Tuple [.Name x px, .Name y py] kt pt] (.Tuple [a, b] k2 pt2) pos.line X.env = pure false := by rfl) :
    DS W X (.Assign [.Tuple [.Name x px, .Name y py] kt pt] (.Tuple [a, b] k2 pt2) pos) (gPar i j gs) := by
  refine PS.imp (ps_par hc hN hi hj hij hx hy ha hw hs) fun D σ H ⟨B, Rg, δ, S0, w⟩ => ?_
  refine tDS_args S0 w fun rs vs H1 s1 ra S1 q => ?_
  split at q
  · rename_i x y
    obtain ⟨fp, r, _⟩ := ra
    obtain ⟨v, r1, f, g, rfl, rfl, h1, u, r2, f2, g2, rfl, rfl, h2, h3⟩ := r
    obtain ⟨rfl, rfl⟩ := h3
    refine ⟨v, u, rfl, ?_⟩
    exact q _ _ ((S1.set (Same.refl _) (fp := []) (d := .p x) ⟨h1.1, rfl⟩ List.nodup_nil (fun _ z => nomatch z)).set (Same.refl _) (fp := []) (d := .p y) ⟨h2.1, rfl⟩ List.nodup_nil (fun _ z => nomatch z))
  · exact q.elim

/-! ### while -/
def gWhile (gt : GT) (g : GS) : Nat → GS
  | 0, _ => .bad
  | n + 1, δ => (lift (gt δ) δ).bind fun k => if k = true then (g δ).bind fun
      | .nx δ' => gWhile gt g n δ'
      | .ct δ' => gWhile gt g n δ'
      | .bk δ' => .ok (.nx δ')
      | .ret d => .ok (.ret d)
    else .ok (.nx δ)
theorem ds_while {fuel : Sl → Nat} (hp : PassesOwn (model X.prog X.w) X.A X.env X.xe) (hc : DT W X e gt) (hb : DSs W X body g1) : DS W X (.While e body [] pos) (fun δ => gWhile gt g1 (fuel δ) δ) := by
  refine PS.imp (ps_while hp hc hb) fun D σ H ⟨B, Rg, δ, S0, w⟩ => ?_
  refine ⟨fun m σ H => ∃ δ, SRel X.K B Rg σ H δ ∧ (gWhile gt g1 m δ).wp (postF X.K B Rg D) (postE (dc X W) B Rg), ⟨fuel δ, δ, S0, w⟩, ?_⟩
  rintro m σ1 H1 ⟨δ1, S1, w1⟩
  cases m with
  | zero => exact w1.elim
  | succ m =>
    unfold gWhile at w1
    refine tDS_bool (c := dc X W) S1 w1 fun k H2 s2 S2 q => ?_
    cases k with
    | false =>
      rw [if_neg (by decide)] at q ⊢
      exact q _ _ S2
    | true =>
      rw [if_pos rfl] at q ⊢
      refine ⟨fun σ H => ∃ δ, SRel X.K B Rg σ H δ ∧ (gWhile gt g1 m δ).wp (postF X.K B Rg D) (postE (dc X W) B Rg), fun σ' H' q => ⟨m, Nat.lt_succ_self m, q⟩, ?_⟩
      refine ⟨B, Rg, δ1, S2, Rn.wp_mono (Rn.wp_bind.mp q) (fun fl q => ?_) fun _ _ q => q⟩
      cases fl with
      | nx δ' => exact fun σ H S => ⟨δ', S, q⟩
      | ct δ' => exact fun σ H S => ⟨δ', S, q⟩
      | bk δ' => exact q
      | ret d => exact q

/-! ### raise -/
structure ErrC (K : PySem.W.Frag) (mg : Str → Option Value) (c : Str) : Prop where
  ex : ∃ C, mg c = some (.ref C) ∧ PySem.W.excIn K C [.type "ValueError", .type "Exception", .type "BaseException", .type "object"] "ValueError.__new__" = true ∧ PySem.W.keepIn K (.ref C) = true ∧
    PySem.W.subIn K (.ref C) (.type "BaseException") = some true ∧ PySem.W.typeIn K (.ref C) = some (.type "type")
def gRaise (c : Str) : GS := fun δ => .err c δ
theorem ds_raise {x m : Str} {j : Nat} {p2 pos2 : Pos} (hc : X.calm = true) (tk : Takes X W) (ec : ErrC X.K X.mg x) (hg : Gl X x := by rfl) (hdb : (x == ("__debug__" : Str)) = false := by decide) :
    DS W X (.Raise (some (.Call (.Name x p) [.Constant (.str m) j p2] [] pos)) none pos2) (gRaise x) := by
  obtain ⟨C, hm, h1, h2, h3, h4⟩ := ec.ex
  refine PS.imp (ps_raise hc tk (pmk_own PySem.F.excBase_ValueError h1 hm h2 (raises_own h3 h4) hg hdb)) fun D σ H ⟨B, Rg, δ, S0, w⟩ => ?_
  exact w C σ H hm S0

/-! ### try -/
/-- what the module tells of its errors: is class c caught by a clause that names h? -/
def ErrT (K : PySem.W.Frag) (mg : Str → Option Value) (h : Value) (sub : Str → Option Bool) : Prop := ∀ c b C, sub c = some b → mg c = some (.ref C) → PySem.W.exmOne K (.ref C) h = some b
def Fl.map (f : Sl → Sl) : Fl → Fl
  | .nx δ => .nx (f δ)
  | .bk δ => .bk (f δ)
  | .ct δ => .ct (f δ)
  | .ret d => .ret d
def Rn.noErrS {ε α : Type} : Rn ε α → Rn ε α
  | .ok a => .ok a
  | .err _ _ => .bad
  | .bad => .bad
  | .pick n k => .pick n fun i => (k i).noErrS
theorem Rn.wp_noErrS {ε α : Type} {w : Rn ε α} {Q : α → Prop} {E E' : Str → ε → Prop} (h : w.noErrS.wp Q E) : w.wp Q E' := by
  induction w with
  | ok a => exact h
  | err c e => exact h.elim
  | bad => exact h
  | pick n k ih => exact fun i hi => ih i (h i hi)
def S.noExn : S → S
  | .exn => .no
  | s => s
/-- behind a suite: slot i, and what else held the exception, is empty -/
def outEx (i : Nat) (δ : Sl) : Sl := (δ.map S.noExn).set i .no
def gTryW (sub : Str → Option Bool) (i : Nat) (gsu : Str → GS) : Rn Sl Fl → Rn Sl Fl
  | .ok fl => .ok fl
  | .err c δ' => match sub c with
    | some true => ((gsu c (δ'.set i .exn)).noErrS).bind fun fl => .ok (fl.map (outEx i))
    | some false => .err c δ'
    | none => .bad
  | .bad => .bad
  | .pick n k => .pick n fun j => gTryW sub i gsu (k j)
def gTry (sub : Str → Option Bool) (i : Nat) (g : GS) (gsu : Str → GS) : GS := fun δ => gTryW sub i gsu (g δ)
theorem gTryW_wp {sub : Str → Option Bool} {i : Nat} {gsu : Str → GS} {Q : Fl → Prop} {E : Str → Sl → Prop} : ∀ {r : Rn Sl Fl}, (gTryW sub i gsu r).wp Q E →
    r.wp Q fun c δ' => (sub c = some true ∧ (((gsu c (δ'.set i .exn)).noErrS).bind fun fl => .ok (fl.map (outEx i))).wp Q E) ∨ (sub c = some false ∧ E c δ') := by
  intro r
  induction r with
  | ok fl => exact fun h => h
  | err c δ' =>
    intro h
    unfold gTryW at h
    split at h
    · rename_i e; exact .inl ⟨e, h⟩
    · rename_i e; exact .inr ⟨e, h⟩
    · exact h.elim
  | bad => exact fun h => h
  | pick n k ih => exact fun h j hj => ih j (h j hj)
end
section
variable {K : PySem.W.Frag} {B H : Hp}
theorem SlotsR.toEx {Rg : Option Nat → Hp} {a : Addr} : ∀ {δ : Sl} {σ : L2.St} {fp : List Addr}, SlotsR K (ex := none) Rg H δ σ fp → SlotsR K (ex := some a) Rg H δ σ fp
  | [], _, _, h => h
  | s :: δ, _, _, h => by
    obtain ⟨ov, r, f, g, e1, e2, h1, h2⟩ := h
    refine ⟨ov, r, f, g, e1, e2, ?_, SlotsR.toEx h2⟩
    cases s with
    | exn => obtain ⟨_, _, z, _⟩ := h1; cases z
    | no => exact h1
    | own d => exact h1
    | bor t d => exact h1
theorem SlotsR.offEx {Rg : Option Nat → Hp} {ex : Option Addr} : ∀ {δ : Sl} {σ : L2.St} {fp : List Addr}, SlotsR K (ex := ex) Rg H δ σ fp → SlotsR K (ex := none) Rg H (δ.map S.noExn) σ fp
  | [], _, _, h => h
  | s :: δ, _, _, h => by
    obtain ⟨ov, r, f, g, e1, e2, h1, h2⟩ := h
    refine ⟨ov, r, f, g, e1, e2, ?_, SlotsR.offEx h2⟩
    cases s with
    | exn => exact h1.1
    | no => exact h1
    | own d => exact h1
    | bor t d => exact h1
theorem SlotsR.setExn {Rg : Option Nat → Hp} {a : Addr} : ∀ {δ : Sl} {σ : L2.St} {fp : List Addr} (i : Nat), SlotsR K (ex := some a) Rg H δ σ fp → fp.Nodup → ∃ fp', SlotsR K (ex := some a) Rg H (δ.set i .exn) (σ.set i (some (.ref a))) fp' ∧ fp'.Nodup ∧ ∀ b ∈ fp', b ∈ fp
  | [], _, _, i, h, n => ⟨_, by obtain ⟨rfl, rfl⟩ := h; exact ⟨rfl, rfl⟩, n, fun _ z => z⟩
  | s :: δ, _, _, 0, h, n => by
    obtain ⟨ov, r, f, g, rfl, rfl, h1, h2⟩ := h
    rw [List.nodup_append] at n
    exact ⟨g, ⟨_, r, [], g, rfl, rfl, ⟨rfl, a, rfl, rfl⟩, h2⟩, n.2.1, fun a ha => by simp [ha]⟩
  | s :: δ, _, _, i + 1, h, n => by
    obtain ⟨ov, r, f, g, rfl, rfl, h1, h2⟩ := h
    rw [List.nodup_append] at n
    obtain ⟨fp', q1, q2, q3⟩ := SlotsR.setExn i h2 n.2.1
    refine ⟨f ++ fp', ⟨ov, _, f, fp', rfl, rfl, h1, q1⟩, ?_, fun a ha => ?_⟩
    · rw [List.nodup_append]
      exact ⟨n.1, q2, fun a ha b hb e => n.2.2 a ha b (q3 b hb) e⟩
    · rcases List.mem_append.mp ha with z | z
      · simp [z]
      · simp [q3 a z]
theorem SRel.outEx {Rg : Option Nat → Hp} {ex : Option Addr} {σ : L2.St} {δ : Sl} (i : Nat) (S0 : SRel K B (ex := ex) Rg σ H δ) : SRel K B (ex := none) Rg (σ.set i none) H (outEx i δ) := by
  obtain ⟨b, u, fp, q, n, f⟩ := S0
  obtain ⟨fp', q1, q2, q3⟩ := SlotsR.wipe1 i (v := none) q.offEx n
  exact ⟨b, u, fp', q1, q2, fun a ha => f a (q3 a ha)⟩
end
section
variable {W : WX} {X : Cx} {body suite : List Stmt} {b₀ : Stmt} {g1 : GS} {pos p np pos' : Pos}
/-- the wish of a try's body -/
theorem try_of {sub : Str → Option Bool} {i : Nat} {gsu : Str → GS} {c : Value} {ts : Addr → Value → Option Addr → TS}
    (hts : ts = fun a cls d D σ H => ∃ cl C, X.mg cl = some (.ref C) ∧ cls = .ref C ∧ d = none ∧ tDS ⟨X.K, X.mg, W0, some a⟩ (gsu cl) D σ H) (et : ErrT X.K X.mg c sub) (hc : X.calm = true)
    (D : Ends) (σ : L2.St) (H : Hp) (h : tDS (dc X W) (gTry sub i g1 gsu) D σ H) : tDS ⟨X.K, X.mg, wAs X.K c i ts W D, none⟩ g1 D σ H := by
  rw [dc_calm hc] at h
  obtain ⟨B, Rg, δ, S0, w⟩ := h
  refine ⟨B, Rg, δ, S0, Rn.wp_mono (gTryW_wp w) (fun _ q => q) fun cl δ' q C σ1 H1 hm S1 => ?_⟩
  rcases q with ⟨e, q⟩ | ⟨e, q⟩
  · refine ⟨true, et cl true C e hm, fun _ a ha => ?_, fun z => Bool.noConfusion z⟩
    subst hts
    refine ⟨cl, C, hm, rfl, rfl, ?_⟩
    obtain ⟨b, u, fp, r, n, f⟩ := S1
    obtain ⟨fp', q1, q2, q3⟩ := SlotsR.setExn i (r.toEx (a := a)) n
    refine ⟨B, Rg, δ'.set i .exn, ⟨b, u, fp', q1, q2, fun a ha => f a (q3 a ha)⟩, Rn.wp_noErrS (Rn.wp_mono (Rn.wp_bind.mp q) (fun fl q => ?_) fun _ _ q => q)⟩
    cases fl with
    | nx δ2 => exact fun σ2 H2 S2 => q _ _ (S2.outEx i)
    | bk δ2 => exact fun σ2 H2 S2 => q _ _ (S2.outEx i)
    | ct δ2 => exact fun σ2 H2 S2 => q _ _ (S2.outEx i)
    | ret d => exact q
  · exact ⟨false, et cl false C e hm, fun z => Bool.noConfusion z, fun _ => q C σ1 H1 hm S1⟩
theorem ds_tryAs {x n : Str} {c : Value} {sub : Str → Option Bool} {i : Nat} {gsu : Str → GS} (hs : X.stack = X.env :: X.outer) (hf : X.env.frame = some X.env.locals) (hcal : X.calm = true) (hN : X.N.Nodup) (hi : X.N[i]? = some n) (hln : X.env.kindOf n = some .local)
    (hc : Names X x c) (et : ErrT X.K X.mg c sub) (tk : Takes X W)
    (hb : ∀ (W' : WX) (pn : List (Addr × Obj)) (xe : Value → Shared → Prop), Takes (X.tr pn xe) W' → PassesOwn (model X.prog X.w) X.A X.env xe → DSs W' (X.tr pn xe) body g1)
    (hsu : ∀ (cl : Str) (C a : Addr) (oe : Obj) (pn : List (Addr × Obj)), X.mg cl = some (.ref C) → Zc (.ref C) none oe → (∃ vs, oe.data = .fields vs) → DSs W0 (X.suite a ((a, oe) :: pn)) (b₀ :: suite) (gsu cl)) :
    DS W X (.Try body [.ExceptHandler (some (.Name x np)) (some n) (b₀ :: suite) pos'] [] [] pos) (gTry sub i g1 gsu) := by
  refine PS.imp (ps_try_as (Wout := W) (tb := fun W' => tDS ⟨X.K, X.mg, W', none⟩ g1) (ts := fun a cls d D σ H => ∃ cl C, X.mg cl = some (.ref C) ∧ cls = .ref C ∧ d = none ∧ tDS ⟨X.K, X.mg, W0, some a⟩ (gsu cl) D σ H)
    hs hf hN hi hln hc tk (fun W' pn xe t1 t2 => ?_) fun a oe cls d pn hz hv => ?_) fun D σ H h => try_of rfl et hcal D σ H h
  · have := hb W' pn xe t1 t2
    unfold DSs at this
    rw [dc_calm (X := X.tr pn xe) hcal] at this
    exact this
  · refine ⟨fun pins s σ H D I ⟨cl, C, hm, e1, e2, h⟩ => ?_⟩
    subst e1 e2
    exact (hsu cl C a oe pn hm hz hv).run pins s σ H D I h
end
end DL
/-! DLl: in, isinstance, join, built-ins in short. -/
namespace DL
open PySem PySem.Spec PyProof.Rows L2
def P.flat : P → Bool
  | .tup _ => false
  | .fl _ => false
  | _ => true
def P.eqF : P → P → Bool
  | .non, .non => true
  | .bl a, .bl b => a == b
  | .bl a, .int b => (if a then 1 else 0) == b
  | .int a, .bl b => a == (if b then 1 else 0)
  | .int a, .int b => a == b
  | .str a, .str b => a == b
  | _, _ => false
def inP (x : P) (xs : List P) : Bool := xs.any fun y => P.eqF y x
def fIn (neg : Bool) : D → D → Rn Unit Bool
  | .p (.str x), .p (.str z) => match x.cps.toList with
    | [c] => .ok (if neg then !decide (c ∈ z.cps.toList) else decide (c ∈ z.cps.toList))
    | _ => .ok (if neg then !(!(Builtin.Str.occurrences z x 0 z.length 1).isEmpty) else !(Builtin.Str.occurrences z x 0 z.length 1).isEmpty)
  | .p x, .p (.tup xs) => if x.flat = true ∧ xs.all P.flat = true then .ok (if neg then !inP x xs else inP x xs) else .bad
  | .p x, .p (.fl ns) => if x.flat = true then .ok (if neg then !inP x (ns.map P.int) else inP x (ns.map P.int)) else .bad
  | .p x, .lst xs => if x.flat = true ∧ xs.all P.flat = true then .ok (if neg then !inP x xs else inP x xs) else .bad
  | .p x, .dic kvs => match keyP x with
    | some k => .ok (if neg then !(valP kvs k).isSome else (valP kvs k).isSome)
    | none => .bad
  | _, _ => .bad
section
variable {K : PySem.W.Frag} {H : Hp}
theorem flat_ok {x : P} {v : V} (r : RepP K H x v) (h : x.flat = true) : flatV v = true := by
  cases x <;> first | (cases h; done) | (obtain rfl := (r : v = _); rfl)
theorem eqF_ok {x y : P} {v u : V} (r : RepP K H x v) (r' : RepP K H y u) (h : x.flat = true) (h' : y.flat = true) : eqV v u = P.eqF x y := by
  cases x <;> cases y <;> first
    | (cases h; done)
    | (cases h'; done)
    | (obtain rfl := (r : v = _); obtain rfl := (r' : u = _); rfl)
theorem inP_ok {x : P} {v : V} (rx : RepP K H x v) (hx : x.flat = true) : ∀ {xs : List P} {vs : List V}, RepPs K H xs vs → xs.all P.flat = true → vs.all flatV = true ∧ inV v vs = inP x xs
  | [], vs, h, _ => by
    obtain rfl : vs = [] := h
    exact ⟨rfl, rfl⟩
  | y :: xs, vs, h, hf => by
    obtain ⟨u, r, rfl, h1, h2⟩ := h
    simp only [List.all_cons, Bool.and_eq_true] at hf
    obtain ⟨z1, z2⟩ := inP_ok rx hx h2 hf.2
    unfold inV at z2 ⊢
    unfold inP at z2 ⊢
    simp only [List.all_cons, List.any_cons, flat_ok h1 hf.1, z1, z2, eqF_ok h1 rx hf.1 hx, Bool.and_self, true_and]
end
theorem flat_ints (ns : List Int) : (ns.map P.int).all P.flat = true := by simp [P.flat]
theorem op_in_dict {X : Cx} (hu : X.A.units + 1 < cLine) : OpR X (compareOp .In) (fun x y H Q => ∃ a o, y = .ref a ∧ DGet H a x o ∧ Q (.bl o.isSome) H) := by
  intro pins s σ H x y v u Q I rx ry h
  obtain ⟨a, o, rfl, g, q⟩ := h
  obtain rfl : u = Value.ref a := ry
  exact d_in hu I g rx fun s3 I3 => ⟨.bl o.isSome, H, I3, rfl, q⟩
theorem op_notIn_dict {X : Cx} (hu : X.A.units + 1 < cLine) : OpR X (compareOp .NotIn) (fun x y H Q => ∃ a o, y = .ref a ∧ DGet H a x o ∧ Q (.bl (!o.isSome)) H) := by
  intro pins s σ H x y v u Q I rx ry h
  obtain ⟨a, o, rfl, g, q⟩ := h
  obtain rfl : u = Value.ref a := ry
  exact d_notIn hu I g rx fun s3 I3 => ⟨.bl (!o.isSome), H, I3, rfl, q⟩
def rInA (K : PySem.W.Frag) : R2 := fun x y H Q => rIn K false x y H Q ∨ (∃ a o, y = .ref a ∧ DGet H a x o ∧ Q (.bl o.isSome) H) ∨ (∃ (c : Nat) (z : Str), x = .str ⟨#[c]⟩ ∧ y = .str z ∧ Q (.bl (decide (c ∈ z.cps.toList))) H) ∨ ∃ i j, x = .str i ∧ y = .str j ∧ Q (.bl (!(Builtin.Str.occurrences j i 0 j.length 1).isEmpty)) H
def rNiA (K : PySem.W.Frag) : R2 := fun x y H Q => rIn K true x y H Q ∨ (∃ a o, y = .ref a ∧ DGet H a x o ∧ Q (.bl (!o.isSome)) H) ∨ (∃ (c : Nat) (z : Str), x = .str ⟨#[c]⟩ ∧ y = .str z ∧ Q (.bl (!decide (c ∈ z.cps.toList))) H) ∨ ∃ i j, x = .str i ∧ y = .str j ∧ Q (.bl (!(!(Builtin.Str.occurrences j i 0 j.length 1).isEmpty))) H
theorem op_inA {X : Cx} (hu : X.A.units + 1 < cLine) : OpR X (compareOp .In) (rInA X.K) := op_in_seq.or ((op_in_dict hu).or (op_in_sign.or op_in_str))
theorem op_niA {X : Cx} (hu : X.A.units + 1 < cLine) : OpR X (compareOp .NotIn) (rNiA X.K) := op_notIn_seq.or ((op_notIn_dict hu).or (op_notIn_sign.or op_notIn_str))
theorem one_sign {x : Str} {c : Nat} (h : x.cps.toList = [c]) : x = ⟨#[c]⟩ := by
  obtain ⟨a⟩ := x
  have : a = #[c] := by
    have := congrArg List.toArray h
    simpa using this
  rw [this]
theorem og_in {K : PySem.W.Frag} : OpG K (rInA K) (fB (fIn false)) := by
  intro H x y v u fx fy Q E rx ry h
  have h' := Rn.wp_bind.mp h
  unfold fIn at h'
  split at h'
  · rename_i x z
    obtain rfl : v = .str x := rx.1
    obtain rfl : u = .str z := ry.1
    split at h'
    · rename_i c e
      obtain rfl := one_sign e
      exact .inr (.inr (.inl ⟨c, z, rfl, rfl, RepP.up h' rfl⟩))
    · exact .inr (.inr (.inr ⟨x, z, rfl, rfl, RepP.up h' rfl⟩))
  · rename_i x xs _
    split at h'
    · rename_i hf
      obtain ⟨⟨a, vs, rfl, q, r⟩, _⟩ := ry
      obtain ⟨z1, z2⟩ := inP_ok rx.1 hf.1 r hf.2
      exact .inl ⟨a, vs, rfl, .inr q, flat_ok rx.1 hf.1, z1, by rw [z2]; exact RepP.up h' rfl⟩
    · exact h'.elim
  · rename_i x ns
    split at h'
    · rename_i hf
      obtain ⟨⟨a, o, rfl, q⟩, _⟩ := ry
      obtain ⟨z1, z2⟩ := inP_ok rx.1 hf (RepPs.ofInt (K := K) (H := H) ns) (flat_ints ns)
      exact .inl ⟨a, _, rfl, .inl (.inl (.inr ⟨o, q⟩)), flat_ok rx.1 hf, z1, by rw [z2]; exact RepP.up h' rfl⟩
    · exact h'.elim
  · rename_i x xs
    split at h'
    · rename_i hf
      obtain ⟨a, vs, rfl, q, _, r⟩ := ry
      obtain ⟨z1, z2⟩ := inP_ok rx.1 hf.1 r hf.2
      exact .inl ⟨a, vs, rfl, .inl (SqL.of q), flat_ok rx.1 hf.1, z1, by rw [z2]; exact RepP.up h' rfl⟩
    · exact h'.elim
  · rename_i x kvs
    split at h'
    · rename_i k ek
      obtain ⟨a, ws, rfl, q, _, r⟩ := ry
      obtain rfl : v = kV k := keyP_kV rx.1 ek
      have g := RepKs.get (k := k) r
      refine .inr (.inl ⟨a, _, rfl, DGet.k q, ?_⟩)
      cases e : valP kvs k with
      | none => rw [e] at g h'; rw [g]; exact RepP.up h' rfl
      | some x => rw [e] at g h'; obtain ⟨w, e2, _⟩ := g; rw [e2]; exact RepP.up h' rfl
    · exact h'.elim
  · exact h'.elim
theorem og_ni {K : PySem.W.Frag} : OpG K (rNiA K) (fB (fIn true)) := by
  intro H x y v u fx fy Q E rx ry h
  have h' := Rn.wp_bind.mp h
  unfold fIn at h'
  split at h'
  · rename_i x z
    obtain rfl : v = .str x := rx.1
    obtain rfl : u = .str z := ry.1
    split at h'
    · rename_i c e
      obtain rfl := one_sign e
      exact .inr (.inr (.inl ⟨c, z, rfl, rfl, RepP.up h' rfl⟩))
    · exact .inr (.inr (.inr ⟨x, z, rfl, rfl, RepP.up h' rfl⟩))
  · rename_i x xs _
    split at h'
    · rename_i hf
      obtain ⟨⟨a, vs, rfl, q, r⟩, _⟩ := ry
      obtain ⟨z1, z2⟩ := inP_ok rx.1 hf.1 r hf.2
      exact .inl ⟨a, vs, rfl, .inr q, flat_ok rx.1 hf.1, z1, by rw [z2]; exact RepP.up h' rfl⟩
    · exact h'.elim
  · rename_i x ns
    split at h'
    · rename_i hf
      obtain ⟨⟨a, o, rfl, q⟩, _⟩ := ry
      obtain ⟨z1, z2⟩ := inP_ok rx.1 hf (RepPs.ofInt (K := K) (H := H) ns) (flat_ints ns)
      exact .inl ⟨a, _, rfl, .inl (.inl (.inr ⟨o, q⟩)), flat_ok rx.1 hf, z1, by rw [z2]; exact RepP.up h' rfl⟩
    · exact h'.elim
  · rename_i x xs
    split at h'
    · rename_i hf
      obtain ⟨a, vs, rfl, q, _, r⟩ := ry
      obtain ⟨z1, z2⟩ := inP_ok rx.1 hf.1 r hf.2
      exact .inl ⟨a, vs, rfl, .inl (SqL.of q), flat_ok rx.1 hf.1, z1, by rw [z2]; exact RepP.up h' rfl⟩
    · exact h'.elim
  · rename_i x kvs
    split at h'
    · rename_i k ek
      obtain ⟨a, ws, rfl, q, _, r⟩ := ry
      obtain rfl : v = kV k := keyP_kV rx.1 ek
      have g := RepKs.get (k := k) r
      refine .inr (.inl ⟨a, _, rfl, DGet.k q, ?_⟩)
      cases e : valP kvs k with
      | none => rw [e] at g h'; rw [g]; exact RepP.up h' rfl
      | some x => rw [e] at g h'; obtain ⟨w, e2, _⟩ := g; rw [e2]; exact RepP.up h' rfl
    · exact h'.elim
  · exact h'.elim
/-! ### isinstance -/
def D.ty? : D → Option String
  | .p .non => some "NoneType"
  | .p (.bl _) => some "bool"
  | .p (.int _) => some "int"
  | .p (.str _) => some "str"
  | .p (.tup _) => some "tuple"
  | .lst _ => some "list"
  | .ls _ => some "list"
  | .tp _ => some "tuple"
  | .dic _ => some "dict"
  | .dit _ => some "dict"
  | _ => none
/-- is a a kind of b -/
def tyB (a b : String) : Bool := a == b || (a == "bool" && b == "int")
def tyOkB (b : String) : Bool := ["NoneType", "bool", "int", "str", "tuple", "list", "dict"].all fun a => kitB a b == some (tyB a b)
theorem D.ty_ok {K : PySem.W.Frag} {H : Hp} {d : D} {v : V} {fp : List Addr} {t : String} (r : RepD K H d v fp) (e : d.ty? = some t) : TyX K H v (.type t) ∧ t ∈ ["NoneType", "bool", "int", "str", "tuple", "list", "dict"] := by
  have tupT : ∀ {a : Addr} {vs : List V}, SqT K H a vs → TyX K H (.ref a) (.type "tuple") := fun {a vs} q => by
    rcases q with (q | ⟨o, q⟩) | ⟨o, its, n, q, c, _⟩
    · exact .base (.tup q)
    · exact .fTuple q
    · exact .kTuple q c
  cases d with
  | p x =>
    cases x with
    | non => obtain rfl := Option.some.inj e; obtain rfl : v = .non := r.1; exact ⟨.base .non, by simp⟩
    | bl b => obtain rfl := Option.some.inj e; obtain rfl : v = .bl b := r.1; exact ⟨.base (.bl b), by simp⟩
    | int b => obtain rfl := Option.some.inj e; obtain rfl : v = .int b := r.1; exact ⟨.base (.int b), by simp⟩
    | str b => obtain rfl := Option.some.inj e; obtain rfl : v = .str b := r.1; exact ⟨.base (.str b), by simp⟩
    | tup xs =>
      obtain rfl := Option.some.inj e
      obtain ⟨⟨a, vs, rfl, q, _⟩, _⟩ := r
      exact ⟨tupT q, by simp⟩
    | fl ns => cases e
  | lst xs => obtain rfl := Option.some.inj e; obtain ⟨a, vs, rfl, q, _⟩ := r; exact ⟨.base (.lst q), by simp⟩
  | ls xs => obtain rfl := Option.some.inj e; obtain ⟨a, vs, _, rfl, q, _⟩ := r; exact ⟨.base (.lst q), by simp⟩
  | tp xs => obtain rfl := Option.some.inj e; obtain ⟨a, vs, rfl, q, _⟩ := r; exact ⟨tupT q, by simp⟩
  | dic xs => obtain rfl := Option.some.inj e; obtain ⟨a, vs, rfl, q, _⟩ := r; exact ⟨.base (.dK q), by simp⟩
  | dit xs => obtain rfl := Option.some.inj e; obtain ⟨a, vs, rfl, q, _⟩ := r; exact ⟨.base (.dT q), by simp⟩
  | orc => cases e
  | scr ns => cases e
def gIsi (T : String) (ga : GE) : GE := fun δ => (ga δ).bind fun r => match r.d.ty? with
  | some t => .ok (.own (.p (.bl (tyB t T))))
  | none => .bad
section
variable {W : WX} {X : Cx} {a b e tg iter : Expr} {es : List Expr} {ga gb gc : GE} {gs : GA} {gt : GT} {gi : GI} {pos p p2 : Pos}
theorem de_isi {T : String} {x : Str} (hm : X.mg "isinstance" = none) (hm2 : X.mg x = none) (ha : DE W X e ga) (hv : bootBuiltins x = some (.type T)) (hT : tyOkB T = true) (hg2 : Gl X x := by rfl) (hg : Gl X "isinstance" := by rfl)
    (hn : x ≠ "__name__" := by decide) (hdb : (x == ("__debug__" : Str)) = false := by decide)
    (he : starEach [e, .Name x p2] X.env = (false, eval e X.env) :: starEach [.Name x p2] X.env := by rfl) (he2 : starEach [.Name x p2] X.env = (false, eval (.Name x p2) X.env) :: starEach [] X.env := by rfl) (hpl : (backTo pos (starEach [.Name x p2] X.env)).any (·.1) = false := by rfl) :
    DE W X (.Call (.Name "isinstance" p) [e, .Name x p2] [] pos) (gIsi T ga) := by
  refine PE.imp (pe_callB call_isi hg hm (by decide +kernel) (pa_cons ha (pa_cons (pe_bltn (v := .ty T) hg2 hm2 hv rfl hn hdb) pa_nil he2) he) (by decide) (by decide) he hpl) fun σ H Q ⟨B, Rg, δ, S0, w⟩ => ?_
  refine ⟨B, Rg, δ, S0, Rn.wp_mono (Rn.wp_bind.mp w) (fun r q v H1 s1 rv => ?_) fun _ _ q => q⟩
  split at q
  · rename_i t et
    obtain ⟨fp, rd⟩ := rv.look
    obtain ⟨ty, hm⟩ := D.ty_ok rd et
    refine ⟨v, .ty T, .type t, .type T, tyB t T, rfl, .ty T, ty, kit_ty ?_, q _ H1 s1 (RepR.plain rfl)⟩
    have := List.all_eq_true.mp hT t hm
    simpa using this
  · exact q.elim
/-- isinstance(e, x) of the exception that the suite handles -/
def gIsE (i : Nat) (ob : Option Bool) : GE := fun δ => match δ[i]?, ob with
  | some .exn, some b => .ok (.own (.p (.bl b)))
  | _, _ => .bad
/-- what the module tells of isinstance(e, x) -/
structure IsT (K : PySem.W.Frag) (mg : Str → Option Value) (x : Str) (sub : Str → Option Bool) : Prop where
  ex : ∃ C', mg x = some (.ref C') ∧ ∀ c b C, sub c = some b → mg c = some (.ref C) → ExcC K C ∧ PySem.W.kitOne K (.ref C) (.ref C') = some b
theorem de_isE {x y cl : Str} {C a : Addr} {oe : Obj} {pn : List (Addr × Obj)} {i : Nat} {sub : Str → Option Bool} {py : Pos} (it : IsT X.K X.mg x sub) (hcl : X.mg cl = some (.ref C)) (hz : Zc (.ref C) none oe) (hf : ∃ vs, oe.data = .fields vs)
    (hm : X.mg "isinstance" = none) (hN : X.N[i]? = some y) (hv : Vis X.env.scope y) (hg2 : Gl X x := by rfl) (hg : Gl X "isinstance" := by rfl)
    (hdb : (x == ("__debug__" : Str)) = false := by decide) (hdy : (y == ("__debug__" : Str)) = false := by decide) (hcd : (y == ("__classdict__" : Str)) = false := by decide)
    (he : starEach [.Name y py, .Name x p2] X.env = (false, eval (.Name y py) X.env) :: starEach [.Name x p2] X.env := by rfl) (he2 : starEach [.Name x p2] X.env = (false, eval (.Name x p2) X.env) :: starEach [] X.env := by rfl) (hpl : (backTo pos (starEach [.Name x p2] X.env)).any (·.1) = false := by rfl) :
    DE W0 (X.suite a ((a, oe) :: pn)) (.Call (.Name "isinstance" p) [.Name y py, .Name x p2] [] pos) (gIsE i (sub cl)) := by
  obtain ⟨C', hx, hk⟩ := it.ex
  cases eb : sub cl with
  | none => exact ⟨fun pins s σ H Q I ⟨B, Rg, δ, S0, w⟩ => by
      unfold gIsE at w
      split at w
      · rename_i z; cases z
      · exact w.elim⟩
  | some b =>
    obtain ⟨ec, hkit⟩ := hk cl b C eb hcl
    refine PE.imp (pe_callB (X := X.suite a ((a, oe) :: pn)) (call_isE ec hz hf) hg hm (by decide +kernel) (pa_cons (pe_var (i := i) hN hv hdy hcd) (pa_cons (pe_glob (v := .ref C') hg2 hx rfl hdb) pa_nil he2) he) (by decide) (by decide) he hpl) fun σ H Q ⟨B, Rg, δ, S0, w⟩ => ?_
    unfold gIsE at w
    split at w
    · rename_i b' e1 e2
      cases e2
      obtain ⟨b0, u, fp, q, n, f⟩ := S0
      obtain ⟨ov, f1, e3, r, _⟩ := q.get e1
      obtain ⟨_, a', ea, rfl⟩ := r
      obtain rfl : a = a' := Option.some.inj ea
      exact ⟨_, e3, .ref C', .ref C', b, rfl, fun u h => h, hkit, w _ H (Same.refl H) (RepR.plain rfl)⟩
    · exact w.elim

/-! ### join and other methods of texts -/
def fJoin (a : Str) : D → Rn Unit R
  | .lst xs => match pStrs xs with
    | some ys => if (ys.map (·.length)).sum + ys.length * a.length ≤ 16777216 then .ok (.own (.p (.str (Txt.join a ys)))) else .bad
    | none => .bad
  | .p (.tup xs) => match pStrs xs with
    | some ys => if (ys.map (·.length)).sum + ys.length * a.length ≤ 16777216 then .ok (.own (.p (.str (Txt.join a ys)))) else .bad
    | none => .bad
  | _ => .bad
def gJoin (go ge : GE) : GE := fun δ => (go δ).bind fun s => match s.d with
  | .p (.str a) => (ge δ).bind fun r => fJoin a r.d
  | _ => .bad
end
end DL
/-! DLm: join; built-ins in short. -/
namespace DL
open PySem PySem.Spec PyProof.Rows L2
section
variable {W : WX} {X : Cx} {a b e o tg iter : Expr} {es : List Expr} {ga gb gc go ge : GE} {gs : GA} {gt : GT} {gi : GI} {pos p p2 : Pos}
theorem de_join {apos : Pos} (ho : DE W X o go) (he : DE W X e ge) (hs : starEach [e] X.env = [(false, eval e X.env)] := by rfl) (hbase : attributeBase o "join" X.env (eval o X.env) = eval o X.env := by rfl) (hline : (apos.endLine == pos.line) = true := by rfl) :
    DE W X (.Call (.Attribute o "join" apos) [e] [] pos) (gJoin go ge) := by
  refine PE.imp (pe_join ho he hs hbase hline) fun σ H Q ⟨B, Rg, δ, S0, w⟩ => ?_
  refine tD_val S0 w fun r1 v1 H1 s1 rv1 S1 w1 => ?_
  split at w1
  · rename_i a ea
    obtain rfl : v1 = .str a := rv1.getP ea
    refine ⟨⟨a, rfl⟩, ?_⟩
    refine tD_val S1 w1 fun r2 v2 H2 s2 rv2 S2 w2 => ?_
    obtain ⟨fp, rd⟩ := rv2.look
    generalize r2.d = d at rd w2
    unfold fJoin at w2
    split at w2
    · rename_i xs
      split at w2
      · rename_i ys ey
        split at w2
        · rename_i hz
          obtain ⟨q, vs, rfl, hq, _, r⟩ := rd
          obtain rfl := pStrs_ok ey
          obtain rfl := r.str
          exact ⟨a, q, ys, rfl, rfl, .inl (SqL.of hq), hz, RepP.up w2 rfl⟩
        · exact w2.elim
      · exact w2.elim
    · rename_i xs
      split at w2
      · rename_i ys ey
        split at w2
        · rename_i hz
          obtain ⟨⟨q, vs, rfl, hq, r⟩, _⟩ := rd
          obtain rfl := pStrs_ok ey
          obtain rfl := r.str
          exact ⟨a, q, ys, rfl, rfl, .inr hq, hz, RepP.up w2 rfl⟩
        · exact w2.elim
      · exact w2.elim
    · exact w2.elim
  · exact w1.elim
theorem de_abs (hm : X.mg "abs" = none) (ha : DA W X (e :: es) gs) (hg : Gl X "abs" := by rfl) (he : starEach (e :: es) X.env = (false, eval e X.env) :: starEach es X.env := by rfl) (hpl : (backTo pos (starEach es X.env)).any (·.1) = false := by rfl) : DE W X (.Call (.Name "abs" p) (e :: es) [] pos) (gCall fAbs gs) :=
  de_callB call_abs cg_abs hm (by decide +kernel) ha hg (he := he) (hpl := hpl)
theorem de_max (hc : X.calm = true) (hm : X.mg "max" = none) (ha : DA W X (e :: es) gs) (hg : Gl X "max" := by rfl) (he : starEach (e :: es) X.env = (false, eval e X.env) :: starEach es X.env := by rfl) (hpl : (backTo pos (starEach es X.env)).any (·.1) = false := by rfl) : DE W X (.Call (.Name "max" p) (e :: es) [] pos) (gCall fMaxL gs) :=
  de_callB ((cr_max hc).or (call_max2 hc)) cg_max hm (by decide +kernel) ha hg (he := he) (hpl := hpl)
theorem de_min (hc : X.calm = true) (hm : X.mg "min" = none) (ha : DA W X (e :: es) gs) (hg : Gl X "min" := by rfl) (he : starEach (e :: es) X.env = (false, eval e X.env) :: starEach es X.env := by rfl) (hpl : (backTo pos (starEach es X.env)).any (·.1) = false := by rfl) : DE W X (.Call (.Name "min" p) (e :: es) [] pos) (gCall fMinL gs) :=
  de_callB ((cr_min hc).or (call_min2 hc)) cg_min hm (by decide +kernel) ha hg (he := he) (hpl := hpl)
theorem de_sum (hc : X.calm = true) (hm : X.mg "sum" = none) (ha : DA W X (e :: es) gs) (hg : Gl X "sum" := by rfl) (he : starEach (e :: es) X.env = (false, eval e X.env) :: starEach es X.env := by rfl) (hpl : (backTo pos (starEach es X.env)).any (·.1) = false := by rfl) : DE W X (.Call (.Name "sum" p) (e :: es) [] pos) (gCall fSum gs) :=
  de_callB (cr_sum hc) cg_sum hm (by decide +kernel) ha hg (he := he) (hpl := hpl)
theorem de_any (hc : X.calm = true) (hm : X.mg "any" = none) (ha : DA W X (e :: es) gs) (hg : Gl X "any" := by rfl) (he : starEach (e :: es) X.env = (false, eval e X.env) :: starEach es X.env := by rfl) (hpl : (backTo pos (starEach es X.env)).any (·.1) = false := by rfl) : DE W X (.Call (.Name "any" p) (e :: es) [] pos) (gCall (fAnyAll fun bs => bs.any id) gs) :=
  de_callB (cr_any hc) cg_any hm (by decide +kernel) ha hg (he := he) (hpl := hpl)
theorem de_all (hc : X.calm = true) (hm : X.mg "all" = none) (ha : DA W X (e :: es) gs) (hg : Gl X "all" := by rfl) (he : starEach (e :: es) X.env = (false, eval e X.env) :: starEach es X.env := by rfl) (hpl : (backTo pos (starEach es X.env)).any (·.1) = false := by rfl) : DE W X (.Call (.Name "all" p) (e :: es) [] pos) (gCall (fAnyAll fun bs => bs.all id) gs) :=
  de_callB (cr_all hc) cg_all hm (by decide +kernel) ha hg (he := he) (hpl := hpl)
theorem de_tuple (hm : X.mg "tuple" = none) (ha : DA W X (e :: es) gs) (hg : Gl X "tuple" := by rfl) (he : starEach (e :: es) X.env = (false, eval e X.env) :: starEach es X.env := by rfl) (hpl : (backTo pos (starEach es X.env)).any (·.1) = false := by rfl) : DE W X (.Call (.Name "tuple" p) (e :: es) [] pos) (gCall fTuple gs) :=
  de_callTy call_tuple_of cg_tuple hm (by decide +kernel) ha hg (he := he) (hpl := hpl)
theorem de_list (hm : X.mg "list" = none) (ha : DA W X (e :: es) gs) (hg : Gl X "list" := by rfl) (he : starEach (e :: es) X.env = (false, eval e X.env) :: starEach es X.env := by rfl) (hpl : (backTo pos (starEach es X.env)).any (·.1) = false := by rfl) : DE W X (.Call (.Name "list" p) (e :: es) [] pos) (gCall fList gs) :=
  de_callTy call_list_of cg_list hm (by decide +kernel) ha hg (he := he) (hpl := hpl)
theorem de_intc (hm : X.mg "int" = none) (ha : DA W X (e :: es) gs) (hg : Gl X "int" := by rfl) (he : starEach (e :: es) X.env = (false, eval e X.env) :: starEach es X.env := by rfl) (hpl : (backTo pos (starEach es X.env)).any (·.1) = false := by rfl) : DE W X (.Call (.Name "int" p) (e :: es) [] pos) (gCall fInt1 gs) :=
  de_callTy call_int1 cg_int hm (by decide +kernel) ha hg (he := he) (hpl := hpl)
end
end DL
/-! DLn: a loop over the list of a slot; words for the printer. -/
namespace DL
open PySem PySem.Spec PyProof.Rows L2
/-- what is lent of slot i's goes -/
def S.offT (i : Nat) : S → S
  | .bor (some j) d => if j = i then .no else .bor (some j) d
  | s => s
/-- slot i's list, lent while a loop walked it, is one's own again -/
def outV (i : Nat) (δ : Sl) : Sl := match δ[i]? with
  | some (.bor (some j) (.lst xs)) => if j = i then (δ.map (S.offT i)).set i (.own (.lst xs)) else δ.map (S.offT i)
  | _ => δ.map (S.offT i)
def Rn.outS (f : Sl → Sl) : Rn Sl Fl → Rn Sl Fl
  | .ok fl => .ok (fl.map f)
  | .err c δ => .err c (f δ)
  | .bad => .bad
  | .pick n k => .pick n fun j => (k j).outS f
theorem Rn.wp_outS {f : Sl → Sl} {Q : Fl → Prop} {E : Str → Sl → Prop} : ∀ {w : Rn Sl Fl}, (w.outS f).wp Q E → w.wp (fun fl => Q (fl.map f)) (fun c δ => E c (f δ)) := by
  intro w
  induction w with
  | ok a => exact fun h => h
  | err c e => exact fun h => h
  | bad => exact fun h => h
  | pick n k ih => exact fun h i hi => ih i (h i hi)
def notBor (i : Nat) (δ : Sl) : Bool := δ.all fun s => match s with
  | .bor (some j) _ => j != i
  | _ => true
/-- for t in x, x the name in slot i -/
def gForV (t : Tg) (i : Nat) (g : GS) : GS := fun δ => match δ[i]? with
  | some (.own (.lst xs)) => if notBor i δ = true then (gForL t g xs (δ.set i (.bor (some i) (.lst xs)))).outS (outV i) else .bad
  | some (.own (.p x)) => match (R.own (.p x)).items with
    | some xs => gForL t g xs δ
    | none => .bad
  | some (.bor _ (.p x)) => match (R.own (.p x)).items with
    | some xs => gForL t g xs δ
    | none => .bad
  | some (.bor _ (.lst xs)) => gForL t g xs δ
  | _ => .bad

section
variable {K : PySem.W.Frag} {B H H' : Hp} {ex : Option Addr} {Rg : Rgs ex}
/-- H at the addresses f alone -/
def onlyH (H : Hp) (f : List Addr) : Hp := fun b => if b ∈ f then H b else none
def lendRg (Rg : Rgs ex) (i : Nat) (G : Hp) : Rgs ex := fun t => if t = some i then G else Rg t
theorem SlotR.lend {i : Nat} {G : Hp} {s : S} {ov : Option V} {fp : List Addr} (h : SlotR K Rg H s ov fp) (hn : ∀ d, s ≠ .bor (some i) d) : SlotR K (lendRg Rg i G) H s ov fp := by
  cases s with
  | no => exact h
  | exn => exact h
  | own d => exact h
  | bor t d =>
    obtain ⟨e, v, g, e1, r, q⟩ := h
    refine ⟨e, v, g, e1, r, fun a ha => ?_⟩
    show (if t = some i then G else Rg t) a ≠ none
    rw [if_neg (fun z => hn d (by rw [z]))]
    exact q a ha
theorem SlotsR.lend0 {i : Nat} {G : Hp} : ∀ {δ : Sl} {σ : L2.St} {fp : List Addr}, SlotsR K Rg H δ σ fp → notBor i δ = true → SlotsR K (lendRg Rg i G) H δ σ fp
  | [], _, _, h, _ => h
  | s :: δ, _, _, h, n => by
    obtain ⟨ov, r, f, g, e1, e2, h1, h2⟩ := h
    unfold notBor at n
    rw [List.all_cons, Bool.and_eq_true] at n
    refine ⟨ov, r, f, g, e1, e2, h1.lend fun d z => ?_, SlotsR.lend0 h2 n.2⟩
    subst z
    simp at n
theorem SlotsR.lend {d : D} {i : Nat} : ∀ {δ : Sl} {σ : L2.St} {fp : List Addr} (j : Nat), SlotsR K Rg H δ σ fp → fp.Nodup → notBor i δ = true → δ[j]? = some (.own d) →
    ∃ v f, σ[j]? = some (some v) ∧ RepD K H d v f ∧ (∀ a ∈ f, a ∈ fp) ∧ ∃ fp', SlotsR K (lendRg Rg i (onlyH H f)) H (δ.set j (.bor (some i) d)) σ fp' ∧ fp'.Nodup ∧ ∀ b ∈ fp', b ∈ fp ∧ b ∉ f
  | [], _, _, j, _, _, _, e => by simp at e
  | s :: δ, _, _, 0, h, n, nb, e => by
    obtain ⟨ov, r, f, g, rfl, rfl, h1, h2⟩ := h
    obtain rfl : s = .own d := by simpa using e
    obtain ⟨v, rfl, rd⟩ := h1
    rw [List.nodup_append] at n
    unfold notBor at nb
    rw [List.all_cons, Bool.and_eq_true] at nb
    refine ⟨v, f, rfl, rd, fun a ha => by simp [ha], g, ⟨some v, r, [], g, rfl, rfl, ⟨rfl, v, f, rfl, rd, fun a ha => ?_⟩, SlotsR.lend0 h2 nb.2⟩, n.2.1, fun b hb => ⟨by simp [hb], fun z => n.2.2 b z b hb rfl⟩⟩
    show (if some i = some i then onlyH H f else Rg (some i)) a ≠ none
    rw [if_pos rfl]
    unfold onlyH
    rw [if_pos ha]
    exact rd.mem a ha
  | s :: δ, _, _, j + 1, h, n, nb, e => by
    obtain ⟨ov, r, f, g, rfl, rfl, h1, h2⟩ := h
    rw [List.nodup_append] at n
    unfold notBor at nb
    rw [List.all_cons, Bool.and_eq_true] at nb
    obtain ⟨v, fj, e1, rd, sub, fp', q1, q2, q3⟩ := SlotsR.lend (i := i) j h2 n.2.1 nb.2 (by simpa using e)
    refine ⟨v, fj, by simpa using e1, rd, fun a ha => by simp [sub a ha], f ++ fp', ⟨ov, r, f, fp', rfl, rfl, h1.lend fun d z => ?_, q1⟩, ?_, fun b hb => ?_⟩
    · subst z
      simp at nb
    · rw [List.nodup_append]
      exact ⟨n.1, q2, fun a ha b hb e => n.2.2 a ha b (q3 b hb).1 e⟩
    · rcases List.mem_append.mp hb with z | z
      · exact ⟨by simp [z], fun y => n.2.2 b z b (sub b y) rfl⟩
      · exact ⟨by simp [(q3 b z).1], (q3 b z).2⟩
theorem SlotR.off {i : Nat} {G : Hp} {s : S} {ov : Option V} {fp : List Addr} (h : SlotR K (lendRg Rg i G) H s ov fp) : SlotR K Rg H (s.offT i) ov fp := by
  cases s with
  | no => exact h
  | exn => exact h
  | own d => exact h
  | bor t d =>
    obtain ⟨e, v, g, e1, r, q⟩ := h
    cases t with
    | none => exact ⟨e, v, g, e1, r, fun a ha => q a ha⟩
    | some j =>
      unfold S.offT
      split
      · rename_i c d' e0
        cases e0
        split
        · exact e
        · rename_i hj
          refine ⟨e, v, g, e1, r, fun a ha => ?_⟩
          have := q a ha
          unfold lendRg at this
          rw [if_neg (fun z => hj (Option.some.inj z))] at this
          exact this
      · rename_i z; exact absurd rfl (z j d)
theorem SlotsR.off {i : Nat} {G : Hp} : ∀ {δ : Sl} {σ : L2.St} {fp : List Addr}, SlotsR K (lendRg Rg i G) H δ σ fp → SlotsR K Rg H (δ.map (S.offT i)) σ fp
  | [], _, _, h => h
  | s :: δ, _, _, h => by
    obtain ⟨ov, r, f, g, e1, e2, h1, h2⟩ := h
    exact ⟨ov, r, f, g, e1, e2, h1.off, SlotsR.off h2⟩
theorem SlotsR.putBack {s : S} {ov : Option V} {f' : List Addr} (hs : SlotR K Rg H s ov f') : ∀ {δ : Sl} {σ : L2.St} {fp : List Addr} (i : Nat), σ[i]? = some ov → SlotsR K Rg H δ σ fp → fp.Nodup → f'.Nodup → (∀ a ∈ f', a ∉ fp) →
    ∃ fp', SlotsR K Rg H (δ.set i s) σ fp' ∧ fp'.Nodup ∧ ∀ a ∈ fp', a ∈ fp ∨ a ∈ f' := fun {δ σ fp} i ei h n n' dj => by
  have hi : i < δ.length := by rw [h.len]; exact (List.getElem?_eq_some_iff.mp ei).1
  obtain ⟨fp', q1, q2, q3⟩ := SlotsR.set hs i hi h n n' dj
  have e : σ.set i ov = σ := by
    obtain ⟨h1, h2⟩ := List.getElem?_eq_some_iff.mp ei
    rw [← h2]; exact List.set_getElem_self h1
  rw [e] at q1
  exact ⟨fp', q1, q2, q3⟩
end
section
variable {W : WX} {X : Cx} {tg : Expr} {body : List Stmt} {g1 : GS} {pos p : Pos}
theorem ds_forV {t : Tg} {i : Nat} {x : Str} (hN : X.N[i]? = some x) (hv : Vis X.env.scope x) (hp : PassesOwn (model X.prog X.w) X.A X.env X.xe) (hc : X.calm = true) (hg : PG X tg (t.g X.K)) (hb : DSs W X body g1)
    (hd : (x == ("__debug__" : Str)) = false := by decide) (hcd : (x == ("__classdict__" : Str)) = false := by decide)
    (hs : ∀ y, foldedSetIterable (.Name x p) X.env y = pure y := by intro _; rfl) : DS W X (.For tg (.Name x p) body [] pos) (gForV t i g1) := by
  refine PS.imp (ps_for hp hc (pi_seq (pe_var hN hv hd hcd)) hg hb hs) fun D σ H ⟨B, Rg, δ, S0, w⟩ => ?_
  -- nothing of the slots changes
  have fin : ∀ {J : It} {G : Hp} {xs : List P}, Same G H → (∀ b, G b ≠ none → Fast H b ∨ B b ≠ none) → Runs X.K G J xs → (gForL t g1 xs δ).wp (postF X.K B Rg D) (postE (dc X W) B Rg) →
      ∃ W1 : Nat → Nat → L2.St → Hp → Prop, (∃ m, W1 0 m σ H) ∧ ∀ i m σ H, W1 i m σ H → (J.stop i H ∧ D.nx σ H) ∨
        (J.go i H ∧ ∃ N : L2.St → Hp → Prop, (∀ σ' H', N σ' H' → ∃ m', m' < m ∧ W1 (i + 1) m' σ' H') ∧ ∀ x H', J.yld i H x H' → t.g X.K x σ H' fun σ2 H2 => tDS (dc X W) g1 { nx := N, rt := D.rt, ct := N, bk := D.nx } σ2 H2) := by
    intro J G xs g1' g2 g3 w
    obtain ⟨B', b1, b2, S1⟩ := S0.hold (Same.refl H) g1' (fun a ha => .inr (g2 a ha))
    exact loop_core (c := dc X W) b2 g3 S1 (Rn.wp_mono w (fun fl q => postF_hold b1 S0.sub q) fun cl δ q => postE_hold b1 S0.sub q)
  have ofWalk : ∀ {J : It} {xs : List P}, Walk X.K (fun _ => some (.lst [])) H J xs → ∃ G, Same G H ∧ (∀ b, G b ≠ none → Fast H b ∨ B b ≠ none) ∧ Runs X.K G J xs := fun wk => by
    obtain ⟨G, z1, z2, z3⟩ := wk.ex
    exact ⟨G, z1, fun b hb => .inl ((z2 b hb).resolve_left fun z => nomatch z), z3⟩
  have plain : ∀ {x : P} {v : V} {xs : List P}, RepP X.K H x v → (R.own (.p x)).items = some xs → (gForL t g1 xs δ).wp (postF X.K B Rg D) (postE (dc X W) B Rg) → σ[i]? = some (some v) →
      tFor (iSeq X.K (tVar i)) (t.g X.K) (tDS (dc X W) g1) D σ H := by
    intro x v xs r ei w e1
    refine ⟨v, e1, ?_⟩
    unfold R.items at ei
    split at ei
    · rename_i e0; cases e0
      obtain rfl := Option.some.inj ei
      obtain ⟨a, vs, rfl, qa, ra⟩ := r
      obtain ⟨G, z1, z2, z3⟩ := ofWalk (.tup qa ra)
      exact .inr (.inl ⟨a, rfl, ⟨vs, qa⟩, fin z1 z2 z3 w⟩)
    · rename_i e0; cases e0
    · rename_i z e0; cases e0
      obtain rfl := Option.some.inj ei
      obtain rfl : v = .str z := r
      obtain ⟨G, z1, z2, z3⟩ := ofWalk (.str z)
      exact .inr (.inr ⟨z, rfl, fin z1 z2 z3 w⟩)
    · rename_i e0; cases e0
    · rename_i e0; cases e0
    · cases ei
  unfold gForV at w
  split at w
  · rename_i xs es
    split at w
    · rename_i nb
      obtain ⟨bs, bu, fp, q, n, f⟩ := S0
      obtain ⟨v, f1, e1, rd, sub, fp', q1, q2, q3⟩ := SlotsR.lend (i := i) i q n nb es
      have fB : ∀ a ∈ f1, B a = none := fun a ha => f a (sub a ha)
      -- B with the list
      have S1 : SRel X.K (fun b => if b ∈ f1 then H b else B b) (lendRg Rg i (onlyH H f1)) σ H (δ.set i (.bor (some i) (.lst xs))) := by
        refine ⟨fun b o e => ?_, fun tt b o e => ?_, fp', q1, q2, fun b hb => ?_⟩
        · have e' : (if b ∈ f1 then H b else B b) = some o := e
          split at e'
          · exact e'
          · exact bs b o e'
        · show (if b ∈ f1 then H b else B b) = some o
          have e' : (if tt = some i then onlyH H f1 else Rg tt) b = some o := e
          split at e'
          · unfold onlyH at e'
            split at e'
            · rename_i hm; rw [if_pos hm]; exact e'
            · cases e'
          · have z := bu tt b o e'
            split
            · rename_i hm; rw [fB b hm] at z; cases z
            · exact z
        · show (if b ∈ f1 then H b else B b) = none
          rw [if_neg (q3 b hb).2]
          exact f b (q3 b hb).1
      have bB : Same B (fun b => if b ∈ f1 then H b else B b) := fun b o e => by
        show (if b ∈ f1 then H b else B b) = some o
        split
        · exact bs b o e
        · exact e
      obtain ⟨a, vs, rfl, qa, rfl, ra⟩ := rd
      obtain ⟨G, z1, z2, z3⟩ := runs_list (K := X.K) qa ra
      obtain ⟨B', b1, b2, S2⟩ := S1.hold (Same.refl H) z1 (fun b hb => .inr ((z2 b hb).elim (fun e => .inr (by
        subst e
        show (if b ∈ [b] then H b else B b) ≠ none
        rw [if_pos (by simp), qa]; exact fun z => nomatch z)) .inl))
      have back : ∀ {σ' : L2.St} {H' : Hp} {δ' : Sl}, SRel X.K B' (lendRg Rg i (onlyH H [a])) σ' H' δ' → SRel X.K B Rg σ' H' (outV i δ') := by
        intro σ' H' δ' S3
        obtain ⟨cs, cu, gp, p1, p2, p3⟩ := S3
        have BB : Same B B' := bB.trans b1
        have p1' := p1.off
        unfold outV
        split
        · rename_i j ys ej
          split
          · rename_i hj
            subst hj
            obtain ⟨ov, gf, w1, w2, _⟩ := p1.get ej
            obtain ⟨_, u, g, rfl, rg, hg⟩ := w2
            obtain ⟨a', us, rfl, qa', rfl, ra'⟩ := rg
            have ha' : (if (some j : Option Nat) = some j then onlyH H [a] else Rg (some j)) a' ≠ none := hg a' (by simp)
            rw [if_pos rfl] at ha'
            unfold onlyH at ha'
            split at ha'
            · rename_i hm
              obtain rfl : a' = a := by simpa using hm
              have nB : B a' = none := fB a' (by simp)
              obtain ⟨fp2, r1, r2, r3⟩ := SlotsR.putBack (s := .own (.lst ys)) (f' := [a']) ⟨_, rfl, a', us, rfl, qa', rfl, ra'⟩ j w1 p1' p2 (by simp) (fun b hb hc => by
                obtain rfl : b = a' := by simpa using hb
                have := p3 b hc
                have z : B' b = some (.lst vs) := b1 b _ (by show (if b ∈ [b] then H b else B b) = _; rw [if_pos (by simp)]; exact qa)
                rw [this] at z; cases z)
              refine ⟨BB.trans cs, bu, fp2, r1, r2, fun b hb => ?_⟩
              rcases r3 b hb with z | z
              · exact BB.free (p3 b z)
              · obtain rfl : b = a' := by simpa using z
                exact nB
            · exact absurd rfl ha'
          · exact ⟨BB.trans cs, bu, gp, p1', p2, fun b hb => BB.free (p3 b hb)⟩
        · exact ⟨BB.trans cs, bu, gp, p1', p2, fun b hb => BB.free (p3 b hb)⟩
      refine ⟨_, e1, .inl ⟨a, rfl, ⟨vs, SqL.of qa⟩, ?_⟩⟩
      refine loop_core (c := dc X W) b2 z3 S2 (Rn.wp_mono (Rn.wp_outS w) (fun fl q => ?_) fun cl δ q C σ' H' e S => q C σ' H' e (back S))
      cases fl with
      | nx δ' => exact fun σ' H' S => q σ' H' (back S)
      | bk δ' => exact fun σ' H' S => q σ' H' (back S)
      | ct δ' => exact fun σ' H' S => q σ' H' (back S)
      | ret d => exact fun v H' s ⟨fp, r, n, f⟩ => q v H' ((bB.trans b1).trans s) ⟨fp, r, n, fun a ha => (bB.trans b1).free (f a ha)⟩
    · exact w.elim
  · rename_i x es
    split at w
    · rename_i xs ex
      obtain ⟨v, g, e1, r⟩ := S0.slot es (.inl rfl)
      exact plain r.1 ex w e1
    · exact w.elim
  · rename_i tt x es
    split at w
    · rename_i xs ex
      obtain ⟨v, g, e1, r⟩ := S0.slot es (.inr ⟨tt, rfl⟩)
      exact plain r.1 ex w e1
    · exact w.elim
  · rename_i tt xs es
    obtain ⟨bs, bu, fp, q, n, f⟩ := id S0
    obtain ⟨ov, f1, e1, r, _⟩ := q.get es
    obtain ⟨_, v, g, rfl, rd, hg⟩ := r
    obtain ⟨a, vs, rfl, qa, rfl, ra⟩ := rd
    obtain ⟨G, z1, z2, z3⟩ := runs_list (K := X.K) qa ra
    refine ⟨_, e1, .inl ⟨a, rfl, ⟨vs, SqL.of qa⟩, fin z1 (fun b hb => (z2 b hb).elim (fun e => .inr ?_) .inl) z3 w⟩⟩
    subst e
    cases z : Rg tt b with
    | none => exact absurd z (hg b (by simp))
    | some o => rw [bu tt b o z]; exact fun z => nomatch z
  · exact w.elim
end
end DL
/-! DLo: the draws of a law: what _law_begin and _law_take promise, the list of draws hidden. -/
namespace DL
open PySem PySem.Spec PyProof.Rows L2
theorem iteTT {c : Bool} {A B : Prop} (hc : c = true) (h : A) : if c = true then A else B := by rw [if_pos hc]; exact h
theorem iteFF {c : Bool} {A B : Prop} (hc : c = false) (h : B) : if c = true then A else B := by rw [hc, if_neg (by decide)]; exact h
section
variable {P : Program} {w : World} {K : PySem.W.Frag} {mg : Str → Option Value} {base : Heap} {H : Hp} {h : Heap} {a s : Addr}
theorem hok_swap {o o' : HO} (ok : HOk P w H h) (ea : H a = some o) (n1 : ∀ x, o ≠ .own x) (n2 : ∀ xs, o ≠ .tup xs) (new : ObjOk P w (upd H a o') h a o') : HOk P w (upd H a o') h := fun b u e => by
  by_cases hb : b = a
  · subst hb; rw [upd_same] at e; cases e; exact new
  · rw [upd_ne hb] at e
    refine (ok b u e).stay (fun c v _ q => q) (fun c q => ?_) fun c xs q => ?_
    · rw [upd_ne (fun z => by subst z; rw [ea] at q; exact n1 _ (Option.some.inj q))]; exact q
    · rw [upd_ne (fun z => by subst z; rw [ea] at q; exact n2 _ (Option.some.inj q))]; exact q
theorem orc_hide {i b z : Int} (ok : HOk P w H h) (ea : H a = some (.lst [.ref s, .int i, .int b, .int z])) (hi : 0 ≤ i) (hb : 0 ≤ b) (hz : 0 ≤ z) (hz2 : z < 2147483647) : HOk P w (upd H a (.ext (OrcAt a s))) h := by
  obtain ⟨_, its, n, r, e⟩ := ok a _ ea
  refine hok_swap ok ea (fun _ z => by cases z) (fun _ z => by cases z) ?_
  cases r with
  | cons r1 r =>
    cases r with
    | cons r2 r =>
      cases r with
      | cons r3 r =>
        cases r with
        | cons r4 r =>
          cases r
          obtain rfl := (r1 : _ = Value.ref s)
          obtain ⟨t2, rfl⟩ := r2
          obtain ⟨t3, rfl⟩ := r3
          obtain ⟨t4, rfl⟩ := r4
          refine ⟨⟨i, b, z, t2, t3, t4, n, e, hi, hb, hz, hz2⟩, ⟨_, e⟩, fun h1 h2 ⟨i, b, z, t2, t3, t4, n, e, q⟩ k => ⟨i, b, z, t2, t3, t4, n, k _ e, q⟩⟩
theorem orc_show (ok : HOk P w H h) (ea : H a = some (.ext (OrcAt a s))) : ∃ i b z : Int, HOk P w (upd H a (.lst [.ref s, .int i, .int b, .int z])) h ∧ 0 ≤ i ∧ 0 ≤ b ∧ 0 ≤ z ∧ z < 2147483647 := by
  obtain ⟨⟨i, b, z, t2, t3, t4, n, e, q⟩, _⟩ := ok a _ ea
  refine ⟨i, b, z, hok_swap ok ea (fun _ z => by cases z) (fun _ z => by cases z) ?_, q⟩
  exact ⟨by rw [sizeLine_eq]; show 4 ≤ 16777216; decide, _, n, .cons rfl (.cons ⟨t2, rfl⟩ (.cons ⟨t3, rfl⟩ (.cons ⟨t4, rfl⟩ .nil))), e⟩
/-- the draws' list as a list of values: _law_take -/
def spTakeL : Sp := fun vs H Q _ => ∃ (a s : Addr) (i b z many : Int) (ns : List Int), vs = [.ref a, .int many] ∧ H a = some (.lst [.ref s, .int i, .int b, .int z]) ∧ H s = some (.lst (ns.map V.int)) ∧
  0 < many ∧ many.natAbs.log2 < 9000 ∧ 0 ≤ i ∧ 0 ≤ b ∧ 0 ≤ z ∧ z < 2147483647 ∧
  ∀ r i' b' z' : Int, 0 ≤ r → r < many → 0 ≤ i' → 0 ≤ b' → 0 ≤ z' → z' < 2147483647 → Q (.int r) (upd H a (.lst [.ref s, .int i', .int b', .int z']))
/-- _law_begin -/
def spBegL (K : PySem.W.Frag) : Sp := fun vs H Q _ => ∃ (p : Addr) (ns : List Int), vs = [.ref p] ∧ ns.length ≤ 63 ∧ SqL K H p (ns.map V.int) ∧
  ∀ (a s : Addr) (z : Int) (H' : Hp), Same H H' → H a = none → H s = none → a ≠ s → H' a = some (.lst [.ref s, .int 0, .int 0, .int z]) → H' s = some (.lst (ns.map V.int)) → 0 ≤ z → z < 2147483647 → Q (.ref a) H'
/-- a draw -/
def takeF : Fn
  | [.orc, .p (.int n)] => if 0 < n ∧ n.natAbs.log2 < 9000 then .pick n.toNat fun i => .ok (.p (.int (i : Int))) else .bad
  | _ => .bad
def beginF : Fn
  | [.scr ns] => if ns.length ≤ 63 then .ok .orc else .bad
  | _ => .bad
theorem take_hide {k : Nat} {f : Addr} {fd : FuncData} {ps : List Str} (F : FnOk P w K mg base CX0 k f fd ps spTakeL) (hp : ps.length = 2) : FnOk P w K mg base (L2.CX P w) k f fd ps (spD K mg 2 takeF) := by
  refine ⟨fun vs H Q E ⟨ds, hl, lk, _⟩ => by rw [lk.len, hl, hp], fun A outer st H args us vs Q E hr e0 hb r ⟨ds, hl, lk, wpv⟩ => ?_⟩
  unfold takeF at wpv
  split at wpv
  · rename_i n
    split at wpv
    · rename_i hn
      obtain ⟨v, u, fp, gp, rfl, r1, r2⟩ := lk.two
      obtain ⟨a, s, ns, rfl, _, ea, es⟩ := r1
      obtain rfl : u = .int n := r2.1
      obtain ⟨i, b, z, ok1, hi, hb', hz, hz2⟩ := orc_show e0.hok ea
      have ne : ∀ {c : Addr}, H c = none → c ≠ a := fun q z => by subst z; rw [ea] at q; cases q
      have nes : s ≠ a := fun z => by subst z; rw [es] at ea; cases ea
      have e1 : Env0 P w K mg base A outer st (upd H a (.lst [.ref s, .int i, .int b, .int z])) := ⟨e0.frames, e0.mod, fun c o q => ⟨(e0.bs c o q).1, by rw [upd_ne (ne (e0.bs c o q).2)]; exact (e0.bs c o q).2⟩, e0.bsz, e0.funs,
        fun c hc => by rw [upd_ne (ne (e0.frf c hc))]; exact e0.frf c hc, ok1, e0.bare⟩
      refine codeAny_mono (F.run A outer st _ args us _ (fun v H2 => ∃ r i' b' z' : Int, v = .int r ∧ 0 ≤ r ∧ r < n ∧ 0 ≤ i' ∧ 0 ≤ b' ∧ 0 ≤ z' ∧ z' < 2147483647 ∧ H2 = upd (upd H a (.lst [.ref s, .int i, .int b, .int z])) a (.lst [.ref s, .int i', .int b', .int z'])) (fun _ _ _ => False) hr e1 hb r
        ⟨a, s, i, b, z, n, ns, rfl, upd_same, by rw [upd_ne nes]; exact es, hn.1, hn.2, hi, hb', hz, hz2, fun r i' b' z' h1 h2 h3 h4 h5 h6 => ⟨r, i', b', z', rfl, h1, h2, h3, h4, h5, h6, rfl⟩⟩) fun res s' hq => ?_
      cases res with
      | error e => exact False.elim hq
      | ok fl =>
        cases fl with
        | next => exact False.elim hq
        | brk => exact False.elim hq
        | cont => exact False.elim hq
        | ret u =>
          obtain ⟨v, H2, os, bare, un, hok, rv, r, i', b', z', rfl, h1, h2, h3, h4, h5, h6, rfl⟩ := hq
          have back : upd (upd (upd H a (.lst [.ref s, .int i, .int b, .int z])) a (.lst [.ref s, .int i', .int b', .int z'])) a (.ext (OrcAt a s)) = H := by
            rw [upd_upd, upd_upd]
            funext c
            by_cases hc : c = a
            · subst hc; rw [upd_same, ea]
            · rw [upd_ne hc]
          have hok2 := orc_hide hok upd_same h3 h4 h5 h6
          rw [back] at hok2
          refine ⟨.int r, H, os, bare, ⟨fun c o e n hx he => un.keep c o e (by rw [upd_ne (ne n)]; exact n) hx he, fun c o e n hx he => un.slot c o e (by rw [upd_ne (ne n)]; exact n) hx he, fun c o e n he => n, un.there, fun c xs q => q, fun c o u q => q, fun c ps q => ⟨#[], by rw [q]; simp⟩⟩, hok2, rv, ?_⟩
          have := wpv r.toNat (by omega)
          dsimp only [Rn.wp] at this
          rw [show ((r.toNat : Nat) : Int) = r by omega] at this
          exact this (.int r) H (Same.refl H) ⟨[], ⟨rfl, rfl⟩, List.nodup_nil, fun _ z => nomatch z⟩
    · exact wpv.elim
  · exact wpv.elim
theorem begin_hide {k : Nat} {f : Addr} {fd : FuncData} {ps : List Str} (F : FnOk P w K mg base CX0 k f fd ps (spBegL K)) (hp : ps.length = 1) : FnOk P w K mg base (L2.CX P w) k f fd ps (spD K mg 1 beginF) := by
  refine ⟨fun vs H Q E ⟨ds, hl, lk, _⟩ => by rw [lk.len, hl, hp], fun A outer st H args us vs Q E hr e0 hb r ⟨ds, hl, lk, wpv⟩ => ?_⟩
  unfold beginF at wpv
  split at wpv
  · rename_i ns
    split at wpv
    · rename_i hn
      obtain ⟨v, fp, rfl, r1⟩ := lk.one
      obtain ⟨_, p, rfl, hp'⟩ := r1
      have sq : SqL K H p (ns.map V.int) := hp'.elim (fun ⟨o, q⟩ => .inl (.inr ⟨o, q⟩)) .inr
      refine codeAny_mono (F.run A outer st H args us _ (fun v H2 => ∃ (a s : Addr) (z : Int), v = .ref a ∧ Same H H2 ∧ H a = none ∧ H s = none ∧ a ≠ s ∧ H2 a = some (.lst [.ref s, .int 0, .int 0, .int z]) ∧ H2 s = some (.lst (ns.map V.int)) ∧ 0 ≤ z ∧ z < 2147483647) (fun _ _ _ => False) hr e0 hb r
        ⟨p, ns, rfl, hn, sq, fun a s z H' h1 h2 h3 h4 h5 h6 h7 h8 => ⟨a, s, z, rfl, h1, h2, h3, h4, h5, h6, h7, h8⟩⟩) fun res s' hq => ?_
      cases res with
      | error e => exact False.elim hq
      | ok fl =>
        cases fl with
        | next => exact False.elim hq
        | brk => exact False.elim hq
        | cont => exact False.elim hq
        | ret u =>
          obtain ⟨v, H2, os, bare, un, hok, rv, a, s, z, rfl, sm, na, ns', nas, ea, es, hz, hz2⟩ := hq
          have ne : ∀ {c : Addr} {o : Option HO}, H2 c = o → o ≠ some (.lst [.ref s, .int 0, .int 0, .int z]) → c ≠ a := fun q d z => by subst z; rw [ea] at q; exact d q.symm
          refine ⟨.ref a, upd H2 a (.ext (OrcAt a s)), os, bare, ⟨un.keep, un.slot, fun c o e n he => ?_, un.there, fun c xs q => ?_, fun c o u q => ?_, fun c ps q => ?_⟩, orc_hide hok ea (by omega) (by omega) hz hz2, rv, ?_⟩
          · have q := un.free c o e n he
            rw [upd_ne (ne q (fun z => nomatch z))]; exact q
          · have q := un.tups c xs q
            rw [upd_ne (ne q (fun z => by cases z))]; exact q
          · have q := un.frzs c o u q
            rw [upd_ne (ne q (fun z => by cases z))]; exact q
          · obtain ⟨more, q⟩ := un.tbls c ps q
            exact ⟨more, by rw [upd_ne (ne q (fun z => by cases z))]; exact q⟩
          · have sm2 : Same H (upd H2 a (.ext (OrcAt a s))) := fun c o e => by
              rw [upd_ne (fun z => by subst z; rw [na] at e; cases e)]; exact sm c o e
            refine wpv (.ref a) _ sm2 ⟨[a, s], ⟨a, s, ns, rfl, rfl, upd_same, by rw [upd_ne nas.symm]; exact es⟩, by simp [nas], fun c hc => ?_⟩
            rcases List.mem_cons.mp hc with rfl | hc
            · exact na
            · obtain rfl : c = s := by simpa using hc
              exact ns'
    · exact wpv.elim
  · exact wpv.elim
/-! ### reading -/
theorem rd_ix {σ : L2.St} {Q : VK} {xs : List V} {i : Int} {v : V} (h0 : σ[0]? = some (some (.ref a))) (hH : H a = some (.lst xs)) (e : atI xs i = some v) (q : Q v H) :
    tOp (rIxL K) (tVar 0) (tC (.int i)) σ H Q := ⟨_, h0, a, xs, i, v, rfl, rfl, SqL.of hH, e, q⟩
end
end DL
/-! DLp: short words for the printer. -/
namespace DL
open PySem PySem.Spec PyProof.Rows L2
/-- a def as the top leaves it -/
structure DefT (K : PySem.W.Frag) (mg : Str → Option Value) (x : Str) (st : Stmt) (ps : List Str) : Prop where
  ex : ∃ (a : Addr) (fd : FuncData), mg x = some (.ref a) ∧ Fun K x x st a fd ∧ Binds K fd ps []
/-- a class that a clause names -/
structure CatchC (K : PySem.W.Frag) (mg : Str → Option Value) (x : Str) (sub : Str → Option Bool) : Prop where
  ex : ∃ C, mg x = some (.ref C) ∧ ErrT K mg (.ref C) sub
section
variable {P : Program} {w : World} {K : PySem.W.Frag} {mg : Str → Option Value} {base : Heap}
theorem fd_of {x : Str} {st : Stmt} {ps : List Str} {k : Nat} {f : Fn} (T : DefT K mg x st ps) (h : ∀ (a : Addr) (fd : FuncData), Fun K x x st a fd → FnOk P w K mg base (L2.CX P w) k a fd ps (spD K mg ps.length f)) : FD P w K mg base k x ps.length f := by
  obtain ⟨a, fd, e, F, b⟩ := T.ex
  exact ⟨a, fd, ps, e, F.2, b, h a fd F⟩
theorem FD.mono {x : Str} {j k n : Nat} {f : Fn} (F : FD P w K mg base j x n f) (h : j ≤ k) : FD P w K mg base k x n f := by
  obtain ⟨a, fd, ps, e, kp, b, g⟩ := F.ex
  exact ⟨a, fd, ps, e, kp, b, g.mono h⟩
end
section
variable {W : WX} {X : Cx} {a b c e tg iter : Expr} {es : List Expr} {ga gb gc : GE} {gs : GA} {gt : GT} {gi : GI} {g1 g2 : GS} {st : Stmt} {sts body : List Stmt} {pos p p2 : Pos}
theorem dv (i : Nat) {x : Str} (hN : X.N[i]? = some x := by rfl) (hv : Vis X.env.scope x := by first | exact Or.inl rfl | exact Or.inr (Or.inl rfl) | exact Or.inr (Or.inr rfl)) (hd : (x == ("__debug__" : Str)) = false := by decide) (hcd : (x == ("__classdict__" : Str)) = false := by decide) : DE W X (.Name x pos) (gVar i) := de_var hN hv hd hcd
theorem op_eqA (hu : X.A.units + 64 < cLine) : OpR X (compareOp .Eq) (rEqA X.K) := op_eq.or (op_eqD hu)
theorem op_neA (hu : X.A.units + 64 < cLine) : OpR X (compareOp .NotEq) (rNeA X.K) := op_ne.or (op_neD hu)
theorem hu64 {A : Around} {k : Nat} (hr : Room k A) : A.units + 64 < cLine := Nat.lt_of_le_of_lt (Nat.add_le_add_left (by omega) _) hr.units
theorem ds_tryC {x n : Str} {b₀ : Stmt} {suite : List Stmt} {np pos' : Pos} {sub : Str → Option Bool} {i : Nat} {gsu : Str → GS} (cc : CatchC X.K X.mg x sub) (hs : X.stack = X.env :: X.outer) (hf : X.env.frame = some X.env.locals) (hcal : X.calm = true) (hN : X.N.Nodup) (tk : Takes X W)
    (hb : ∀ (W' : WX) (pn : List (Addr × Obj)) (xe : Value → Shared → Prop), Takes (X.tr pn xe) W' → PassesOwn (model X.prog X.w) X.A X.env xe → DSs W' (X.tr pn xe) body g1)
    (hsu : ∀ (cl : Str) (C a : Addr) (oe : Obj) (pn : List (Addr × Obj)), X.mg cl = some (.ref C) → Zc (.ref C) none oe → (∃ vs, oe.data = .fields vs) → DSs W0 (X.suite a ((a, oe) :: pn)) (b₀ :: suite) (gsu cl))
    (hi : X.N[i]? = some n := by rfl) (hln : X.env.kindOf n = some .local := by rfl) (hg : Gl X x := by rfl) (hdb : (x == ("__debug__" : Str)) = false := by decide) :
    DS W X (.Try body [.ExceptHandler (some (.Name x np)) (some n) (b₀ :: suite) pos'] [] [] pos) (gTry sub i g1 gsu) := by
  obtain ⟨C, hC, et⟩ := cc.ex
  exact ds_tryAs hs hf hcal hN hi hln ⟨hg, hdb, .inl hC⟩ et tk hb hsu
/-- the table of a class -/
def tabS (t : List (Str × Bool)) : Str → Option Bool := fun c => t.lookup c
theorem tab_mem : ∀ {t : List (Str × Bool)} {c : Str} {b : Bool}, tabS t c = some b → (c, b) ∈ t := by
  intro t
  induction t with
  | nil => intro c b h; cases h
  | cons p t ih =>
    intro c b h
    obtain ⟨x, v⟩ := p
    unfold tabS at h
    rw [List.lookup_cons] at h
    split at h
    · rename_i e
      have e' : c = x := by simpa using e
      have h' : v = b := Option.some.inj h
      rw [e', h']
      exact List.mem_cons_self
    · exact List.mem_cons_of_mem _ (ih h)
end
/-! ### what the top tells -/
section
variable {K : PySem.W.Frag} {mg : Str → Option Value}
/-- a class of errors as the top leaves it -/
structure ClsT (K : PySem.W.Frag) (mg : Str → Option Value) (x : Str) (C : Addr) : Prop where
  mg : mg x = some (.ref C)
  ex : PySem.W.excIn K C [.type "ValueError", .type "Exception", .type "BaseException", .type "object"] "ValueError.__new__" = true
  kp : PySem.W.keepIn K (.ref C) = true
  hs : PySem.W.subIn K (.ref C) (.type "BaseException") = some true
  ty : PySem.W.typeIn K (.ref C) = some (.type "type")
  hg : PySem.W.findIn K (.ref C) "__getattribute__" = some (some (.builtin "BaseException.__getattribute__"))
  hk : PySem.W.findIn K (.ref C) "__getattr__" = some none
  hd : PySem.W.hasDictIn K C = true
  ha : PySem.W.findIn K (.ref C) "__class__" = some (some (.builtin "object.__class__"))
  hm : PySem.W.mroIn K C (.type "object") = some true
theorem ClsT.err {x : Str} {C : Addr} (T : ClsT K mg x C) : ErrC K mg x := ⟨C, T.mg, T.ex, T.kp, T.hs, T.ty⟩
structure ObjT (K : PySem.W.Frag) : Prop where
  hn : PySem.W.specialIn K (.builtin "object.__class__") "__get__" = some (some (.builtin "getset_descriptor.__get__"))
  ht : PySem.W.takesIn K (.builtin "object.__class__") = some true
theorem ClsT.excC {x : Str} {C : Addr} (T : ClsT K mg x C) (O : ObjT K) : ExcC K C := ⟨T.hg, T.hk, T.hs, T.hd, T.ha, O.hn, O.ht, T.hm⟩
/-- which classes are kinds of the class at C -/
inductive SubT (K : PySem.W.Frag) (mg : Str → Option Value) (C : Addr) : List (Str × Bool) → Prop
  | nil : SubT K mg C []
  | cons {x : Str} {D : Addr} {b : Bool} {t : List (Str × Bool)} (T : ClsT K mg x D) (h : PySem.W.subIn K (.ref D) (.ref C) = some b) (r : SubT K mg C t) : SubT K mg C ((x, b) :: t)
theorem SubT.get {C : Addr} : ∀ {t : List (Str × Bool)} {x : Str} {b : Bool}, SubT K mg C t → (x, b) ∈ t → ∃ D, ClsT K mg x D ∧ PySem.W.subIn K (.ref D) (.ref C) = some b
  | _, _, _, .nil, h => by cases h
  | _, x, b, .cons T h r, hm => by
    rcases List.mem_cons.mp hm with e | e
    · cases e; exact ⟨_, T, h⟩
    · exact SubT.get r e
theorem catch_of {x : Str} {C : Addr} {t : List (Str × Bool)} (T : ClsT K mg x C) (S : SubT K mg C t) : CatchC K mg x (tabS t) := by
  refine ⟨C, T.mg, fun c b D e hm => ?_⟩
  obtain ⟨D', T', h⟩ := S.get (tab_mem e)
  have : D' = D := by have := T'.mg.symm.trans hm; exact Value.ref.inj (Option.some.inj this)
  subst this
  exact PySem.W.exm_ref T.hs T.hd T.ty h
theorem kit_ref {C D : Addr} {b : Bool} (hd : PySem.W.hasDictIn K C = true) (ht : PySem.W.typeIn K (.ref C) = some (.type "type")) (h : PySem.W.subIn K (.ref D) (.ref C) = some b) (he : D = C → b = true) : PySem.W.kitOne K (.ref D) (.ref C) = some b := by
  unfold PySem.W.kitOne
  by_cases e : (Value.ref D == Value.ref C) = true
  · rw [if_pos e]
    have := Value.ref.inj (beq_iff_eq.mp e)
    rw [he this]
  · rw [if_neg e]
    obtain ⟨cd, hc, _⟩ := PySem.W.any_some hd
    show (if ((PySem.W.clsIn K C).isSome && PySem.W.typeIn K (.ref C) == some (.type "type")) = true then PySem.W.subIn K (.ref D) (.ref C) else none) = some b
    rw [hc, ht]
    exact h
theorem isT_of {x : Str} {C : Addr} {t : List (Str × Bool)} (T : ClsT K mg x C) (O : ObjT K) (S : SubT K mg C t) (hx : (x, true) ∈ t) (hself : PySem.W.subIn K (.ref C) (.ref C) = some true) : IsT K mg x (tabS t) := by
  refine ⟨C, T.mg, fun c b D e hm => ?_⟩
  obtain ⟨D', T', h⟩ := S.get (tab_mem e)
  have : D' = D := by have := T'.mg.symm.trans hm; exact Value.ref.inj (Option.some.inj this)
  subst this
  refine ⟨T'.excC O, kit_ref T.hd T.ty h fun e => ?_⟩
  subst e
  rw [hself] at h
  exact (Option.some.inj h).symm
/-- a constant of the top stands for plain data -/
inductive RepK (K : PySem.W.Frag) : Value → P → Prop
  | non : RepK K .none .non
  | bl (b : Bool) : RepK K (.bool b) (.bl b)
  | int {i : Int} {t : Tok} : RepK K (.int i t) (.int i)
  | str {x : Str} {t : Tok} : RepK K (.str x t) (.str x)
  | tup {a : Addr} {od : Option Addr} {its : List Value} {n : Nat} {sl : Array (Option Value)} {xs : List P} (l : K.lookup a = some ⟨.type "tuple", od, .seq its.toArray n, sl⟩) (hz : its.length ≤ 1000) (h : PySem.Paired (RepK K) its xs) : RepK K (.ref a) (.tup xs)
mutual
theorem RepK.ok : ∀ {u : Value} {p : P}, RepK K u p → ∃ v, RelV v u ∧ ∀ H, RepP K H p v
  | _, _, .non => ⟨.non, rfl, fun _ => rfl⟩
  | _, _, .bl b => ⟨.bl b, rfl, fun _ => rfl⟩
  | _, _, .int (i := i) (t := t) => ⟨.int i, ⟨t, rfl⟩, fun _ => rfl⟩
  | _, _, .str (x := x) (t := t) => ⟨.str x, ⟨t, rfl⟩, fun _ => rfl⟩
  | _, _, .tup (a := a) (its := its) (n := n) l hz h => by
    obtain ⟨vs, r, q⟩ := RepK.oks h
    exact ⟨.ref a, rfl, fun H => ⟨a, vs, rfl, .inr ⟨_, its.toArray, n, l, rfl, rfl, by rw [sizeLine_eq]; simp; omega, by simpa using r⟩, q H⟩⟩
theorem RepK.oks : ∀ {us : List Value} {ps : List P}, PySem.Paired (RepK K) us ps → ∃ vs, Vals vs us ∧ ∀ H, RepPs K H ps vs
  | _, _, .nil => ⟨[], .nil, fun _ => rfl⟩
  | _, _, .cons h t => by
    obtain ⟨v, r, q⟩ := RepK.ok h
    obtain ⟨vs, r', q'⟩ := RepK.oks t
    exact ⟨v :: vs, .cons r r', fun H => ⟨v, vs, rfl, q H, q' H⟩⟩
end
theorem gc_of {x : Str} {u : Value} {p : P} (e : mg x = some u) (h : RepK K u p) : GC K mg x p := by
  obtain ⟨v, r, q⟩ := h.ok
  exact ⟨u, v, e, r, q⟩
end
end DL
/-! DLq: the law's own head. -/
namespace DL
open PySem PySem.Spec PyProof.Rows L2
theorem tk0 {X : Cx} : Takes X W0 := fun _ _ ⟨_, _, _, _, _, _, _, _, _, _, _, _, _, _, _, _, w⟩ => w.elim
theorem cx_never {P : Program} {w : World} {H : Hp} {s : Shared} {e : Value} {s' : Shared} (h : L2.CX P w [] H s (fun _ _ _ => False) e s') : False := by
  obtain ⟨_, _, _, _, _, _, _, _, _, _, _, _, h⟩ := h
  exact h
/-- the promise of a law that raises nothing -/
def spAny (f : Fn) (K : PySem.W.Frag) : Sp := fun vs H Q E => ∃ ds : List D, ds.length = 1 ∧ LookL K H ds vs ∧ (f ds).wp (fun d => postR K H d Q) fun _ _ => False
theorem spAny_of {P : Program} {w : World} {K : PySem.W.Frag} {mg : Str → Option Value} {k : Nat} {fa : Addr} {f : Fn} {x : Str} {Z : Heap → Prop}
    (h : ∃ fd : FuncData, (∀ (s : Shared) (v : Value), BindsTo s fd ⟨[v], []⟩ [(x, v)]) ∧ ∀ base : Heap, K.In base → Z base → FnOk P w K mg base (L2.CX P w) k fa fd [x] (spD K mg 1 f)) :
    ∃ fd : FuncData, (∀ (s : Shared) (v : Value), BindsTo s fd ⟨[v], []⟩ [(x, v)]) ∧ ∀ base : Heap, K.In base → Z base → FnOk P w K mg base (L2.CX P w) k fa fd [x] (spAny f K) := by
  obtain ⟨fd, h1, h2⟩ := h
  exact ⟨fd, h1, fun base a b => (h2 base a b).imp fun vs H Q E ⟨ds, h1, h2, h3⟩ => ⟨ds, h1, h2, Rn.wp_mono h3 (fun _ q => q) fun _ _ z => z.elim⟩⟩
theorem law_sp {K : PySem.W.Frag} {H : Hp} {a : Addr} {ns : List Int} {f : Fn} (hl : ns.length ≤ 63) (hO : Only H) (hS : SqL K H a (ns.map V.int))
    (h : ∀ ns : List Int, ns.length ≤ 63 → (f [.scr ns]).wp (fun d => d = .p (.bl true)) fun _ _ => False) : spAny f K [.ref a] H (fun v _ => v = .bl true) fun _ _ _ => False := by
  have hr : RepD K H (.scr ns) (.ref a) [] := by
    refine ⟨rfl, a, rfl, ?_⟩
    rcases hS with (q | q) | q
    · rcases hO a with z | ⟨o, xs, z⟩
      · rw [z] at q; cases q
      · rw [z] at q; cases q
    · exact .inl q
    · exact .inr q
  refine ⟨[.scr ns], rfl, ⟨.ref a, [], rfl, ⟨[], hr⟩, rfl⟩, Rn.wp_mono (h ns hl) (fun d e => ?_) fun _ _ z => z⟩
  subst e
  intro v H' s r
  obtain ⟨fp, r, _⟩ := r
  have : v = .bl true := r.1
  exact this
end DL
/-! DLr: reading the mirrors. -/
namespace DL
open PySem PySem.Spec PyProof.Rows L2
section
variable {ε ε' α β : Type} {c : Prop} [Decidable c]
theorem Rn.bind_ite {a b : Rn ε α} {f : α → Rn ε β} : (if c then a else b).bind f = if c then a.bind f else b.bind f := by split <;> rfl
theorem Rn.mapErr_ite {a b : Rn ε α} {f : ε → ε'} : (if c then a else b).mapErr f = if c then a.mapErr f else b.mapErr f := by split <;> rfl
theorem Rn.wp_ite {a b : Rn ε α} {Q : α → Prop} {E : Str → ε → Prop} : (if c then a else b).wp Q E ↔ (c → a.wp Q E) ∧ (¬ c → b.wp Q E) := by
  by_cases h : c
  · rw [if_pos h]; exact ⟨fun x => ⟨fun _ => x, fun z => absurd h z⟩, fun x => x.1 h⟩
  · rw [if_neg h]; exact ⟨fun x => ⟨fun z => absurd z h, fun _ => x⟩, fun x => x.2 h⟩
theorem Rn.bind_ok {a : α} {f : α → Rn ε β} : (Rn.ok a).bind f = f a := rfl
theorem Rn.bind_err {s : Str} {e : ε} {f : α → Rn ε β} : (Rn.err s e : Rn ε α).bind f = .err s e := rfl
theorem Rn.bind_pick {n : Nat} {k : Nat → Rn ε α} {f : α → Rn ε β} : (Rn.pick n k).bind f = .pick n fun i => (k i).bind f := rfl
end
theorem tryW_ok {sub : Str → Option Bool} {i : Nat} {gsu : Str → GS} {fl : Fl} : gTryW sub i gsu (.ok fl) = .ok fl := rfl
theorem tryW_err {sub : Str → Option Bool} {i : Nat} {gsu : Str → GS} {c : Str} {δ : Sl} : gTryW sub i gsu (.err c δ) = match sub c with
    | some true => ((gsu c (δ.set i .exn)).noErrS).bind fun fl => .ok (fl.map (outEx i))
    | some false => .err c δ
    | none => .bad := rfl
theorem tryW_ite {sub : Str → Option Bool} {i : Nat} {gsu : Str → GS} {c : Prop} [Decidable c] {a b : Rn Sl Fl} : gTryW sub i gsu (if c then a else b) = if c then gTryW sub i gsu a else gTryW sub i gsu b := by split <;> rfl
theorem take_ok {n : Int} (h0 : 0 < n) (h1 : n < 2 ^ 64) : takeF [.orc, .p (.int n)] = .pick n.toNat fun i => .ok (.p (.int (i : Int))) := by
  unfold takeF
  refine if_pos ⟨h0, ?_⟩
  have h : n.natAbs < 2 ^ 64 := by omega
  by_cases hz : n.natAbs = 0
  · omega
  · have := (Nat.log2_lt hz).mpr h
    omega
theorem begin_ok {ns : List Int} (h : ns.length ≤ 63) : beginF [.scr ns] = .ok .orc := if_pos h
/-- a run keeps its wish (a wall before the reader's eyes: nothing unfolds it) -/
structure Wp {ε α : Type} (w : Rn ε α) (Q : α → Prop) (E : Str → ε → Prop) : Prop where
  r : w.wp Q E
section
variable {ε α β : Type} {Q : α → Prop} {E : Str → ε → Prop}
theorem wp_ok {a : α} : Wp (.ok a : Rn ε α) Q E ↔ Q a := ⟨fun h => h.r, fun h => ⟨h⟩⟩
theorem wp_err {c : Str} {e : ε} : Wp (.err c e : Rn ε α) Q E ↔ E c e := ⟨fun h => h.r, fun h => ⟨h⟩⟩
theorem wp_bad : Wp (.bad : Rn ε α) Q E ↔ False := ⟨fun h => h.r, fun h => h.elim⟩
theorem wp_pick {n : Nat} {k : Nat → Rn ε α} : Wp (.pick n k) Q E ↔ ∀ i, i < n → Wp (k i) Q E := ⟨fun h i hi => ⟨h.r i hi⟩, fun h => ⟨fun i hi => (h i hi).r⟩⟩
theorem wp_ite {c : Prop} [Decidable c] {a b : Rn ε α} : Wp (if c then a else b) Q E ↔ (c → Wp a Q E) ∧ (¬ c → Wp b Q E) :=
  ⟨fun h => ⟨fun x => ⟨(Rn.wp_ite.mp h.r).1 x⟩, fun x => ⟨(Rn.wp_ite.mp h.r).2 x⟩⟩, fun h => ⟨Rn.wp_ite.mpr ⟨fun x => (h.1 x).r, fun x => (h.2 x).r⟩⟩⟩
theorem wp_imp {w : Rn ε α} {Q' : α → Prop} {E' : Str → ε → Prop} (h : Wp w Q E) (k : ∀ a, Q a → Q' a) (e : ∀ c x, E c x → E' c x) : Wp w Q' E' := ⟨Rn.wp_mono h.r k e⟩
end
/-- what is wanted after a statement -/
def Nx (K : Sl → Prop) (Q : Fl → Prop) : Fl → Prop
  | .nx δ => K δ
  | fl => Q fl
/-- what is wanted after a loop's turn -/
def Tn (I : Sl → Prop) (Q : Fl → Prop) : Fl → Prop
  | .nx δ => I δ
  | .ct δ => I δ
  | .bk δ => Q (.nx δ)
  | .ret d => Q (.ret d)
def Fn.out (Q : D → Prop) : Fl → Prop
  | .ret d => Q d
  | .nx _ => Q (.p .non)
  | _ => False
section
variable {a b : GS} {δ δ' : Sl} {Q : Fl → Prop} {E : Str → Sl → Prop}
theorem seq_ok (h1 : a δ = .ok (.nx δ')) (h2 : Wp (b δ') Q E) : Wp (gSeq a b δ) Q E := ⟨by
  unfold gSeq; rw [h1]; exact h2.r⟩
theorem seq_ret {d : D} (h1 : a δ = .ok (.ret d)) (h2 : Q (.ret d)) : Wp (gSeq a b δ) Q E := ⟨by
  unfold gSeq; rw [h1]; exact h2⟩
theorem seq_wp (R : Sl → Prop) (h1 : Wp (a δ) (Nx R Q) E) (h2 : ∀ δ', R δ' → Wp (b δ') Q E) : Wp (gSeq a b δ) Q E := ⟨by
  unfold gSeq
  refine Rn.wp_bind.mpr (Rn.wp_mono h1.r (fun fl r => ?_) fun _ _ z => z)
  cases fl with
  | nx δ' => exact (h2 δ' r).r
  | bk δ' => exact r
  | ct δ' => exact r
  | ret d => exact r⟩
theorem forL_inv (I : List P → Sl → Prop) {t : Tg} {g : GS} (h : ∀ x xs δ, I (x :: xs) δ → ∃ δ1, t.set (.p x) δ = some δ1 ∧ Wp (g δ1) (Tn (I xs) Q) E) (hq : ∀ δ, I [] δ → Q (.nx δ)) : ∀ (xs : List P) (δ : Sl), I xs δ → Wp (gForL t g xs δ) Q E
  | [], δ, h0 => ⟨hq δ h0⟩
  | x :: xs, δ, h0 => ⟨by
    obtain ⟨δ1, e, w⟩ := h x xs δ h0
    unfold gForL
    rw [e]
    refine Rn.wp_bind.mpr (Rn.wp_mono w.r (fun fl r => ?_) fun _ _ z => z)
    cases fl with
    | nx δ' => exact (forL_inv I h hq xs δ' r).r
    | ct δ' => exact (forL_inv I h hq xs δ' r).r
    | bk δ' => exact r
    | ret d => exact r⟩
theorem forL_cons {t : Tg} {g : GS} {x : P} {xs : List P} {δ1 : Sl} (e : t.set (.p x) δ = some δ1) (w : g δ1 = .ok (.nx δ')) (k : Wp (gForL t g xs δ') Q E) : Wp (gForL t g (x :: xs) δ) Q E := ⟨by
  unfold gForL
  rw [e]
  show ((g δ1).bind _).wp Q E
  rw [w]
  exact k.r⟩
theorem forL_nil {t : Tg} {g : GS} (k : Q (.nx δ)) : Wp (gForL t g [] δ) Q E := ⟨k⟩
theorem for_wp {t : Tg} {gi : GI} {g : GS} {xs : List P} (e : gi δ = .ok xs) (h : Wp (gForL t g xs δ) Q E) : Wp (gFor t gi g δ) Q E := ⟨by
  unfold gFor lift; rw [e]; exact h.r⟩
theorem for_pick {t : Tg} {gi : GI} {g : GS} (R : List P → Prop) (e : Wp (gi δ) R (fun _ _ => False)) (h : ∀ xs, R xs → Wp (gForL t g xs δ) Q E) : Wp (gFor t gi g δ) Q E := ⟨by
  unfold gFor lift
  exact Rn.wp_bind.mpr (Rn.wp_mapErr.mpr (Rn.wp_mono e.r (fun xs r => (h xs r).r) fun _ _ z => z.elim))⟩
theorem if_tt {t : GT} (h : t δ = .ok true) (k : Wp (a δ) Q E) : Wp (gIfS t a b δ) Q E := ⟨by unfold gIfS lift; rw [h]; exact k.r⟩
theorem if_ff {t : GT} (h : t δ = .ok false) (k : Wp (b δ) Q E) : Wp (gIfS t a b δ) Q E := ⟨by unfold gIfS lift; rw [h]; exact k.r⟩
end
theorem fn_wp {n : Nat} {g : GS} {ds : List D} {Q : D → Prop} {E : Str → Unit → Prop} (h : Wp (g (startS n ds)) (Fn.out Q) (fun c _ => E c ())) : Wp (fnD n g ds) Q E := ⟨by
  unfold fnD
  refine Rn.wp_bind.mpr (Rn.wp_mapErr.mpr (Rn.wp_mono h.r (fun fl r => ?_) fun _ _ z => z))
  cases fl <;> exact r⟩
theorem range_5 : rangeP 0 5 = [.int 0, .int 1, .int 2, .int 3, .int 4] := by rfl
theorem range_4 : rangeP 0 4 = [.int 0, .int 1, .int 2, .int 3] := by rfl
theorem range_3 : rangeP 0 3 = [.int 0, .int 1, .int 2] := by rfl
theorem range_2 : rangeP 0 2 = [.int 0, .int 1] := by rfl
end DL
/-! DLs: comprehensions over a name's list. -/
namespace DL
open PySem PySem.Spec PyProof.Rows L2
structure Walk2 (K : PySem.W.Frag) (H : Hp) (J : It) (xs : List P) : Prop where
  ex : ∃ G, Same G H ∧ Runs K G J xs
def tDI2 (c : DC) (g : GI) : TI := fun σ H R => ∃ (B : Hp) (Rg : Rgs c.ex) (δ : Sl), SRel c.K B Rg σ H δ ∧
  (g δ).wp (fun xs => ∀ J H', Same H H' → Walk2 c.K H' J xs → R J H') fun cl _ => ∀ C H', c.mg cl = some (.ref C) → Same H H' → c.W (.ref C) none σ H'
def DI2 (W : WX) (X : Cx) (tg iter : Expr) (g : GI) : Prop := PI X tg iter (tDI2 (dc X W) g)
theorem DI.two {W : WX} {X : Cx} {tg iter : Expr} {g : GI} (h : DI W X tg iter g) : DI2 W X tg iter g := PI.imp h fun σ H R ⟨B, Rg, δ, S0, w⟩ =>
  ⟨B, Rg, δ, S0, Rn.wp_mono w (fun xs q J H' s wk => q J H' s (by obtain ⟨G, g1, _, g3⟩ := wk.ex; exact ⟨G, g1, g3⟩)) fun _ _ q => q⟩
def R.itemsL : R → Option (List P)
  | .own (.p (.tup xs)) => some xs
  | .vw (.p (.tup xs)) => some xs
  | .own (.p (.fl ns)) => some (ns.map P.int)
  | .vw (.p (.fl ns)) => some (ns.map P.int)
  | .own (.p (.str z)) => some (signs z)
  | .vw (.p (.str z)) => some (signs z)
  | .own (.lst xs) => some xs
  | .vw (.lst xs) => some xs
  | _ => none
def gSeqL (ga : GE) : GI := fun δ => (ga δ).bind fun r => match r.itemsL with
  | some xs => .ok xs
  | none => .bad
theorem di2_seq {W : WX} {X : Cx} {tg e : Expr} {ga : GE} (ha : DE W X e ga) : DI2 W X tg e (gSeqL ga) := by
  have two : ∀ {H0 H : Hp} {J : It} {xs : List P}, Walk X.K H0 H J xs → Walk2 X.K H J xs := fun wk => by obtain ⟨G, g1, _, g3⟩ := wk.ex; exact ⟨G, g1, g3⟩
  refine PI.imp (pi_seq ha) fun σ H Rk ⟨B, Rg, δ, S0, w⟩ => ?_
  refine ⟨B, Rg, δ, S0, Rn.wp_mono (Rn.wp_bind.mp w) (fun r q v H1 s1 rv => ?_) fun _ _ q => q⟩
  split at q
  · rename_i xs e
    unfold R.itemsL at e
    split at e
    · obtain rfl := Option.some.inj e
      obtain ⟨a, vs, rfl, qa, ra⟩ := rv.getP rfl
      exact .inr (.inl ⟨a, rfl, ⟨vs, qa⟩, q _ H1 s1 (two (H0 := H) (.tup qa ra))⟩)
    · obtain rfl := Option.some.inj e
      obtain ⟨a, vs, rfl, qa, ra⟩ := rv.getP rfl
      exact .inr (.inl ⟨a, rfl, ⟨vs, qa⟩, q _ H1 s1 (two (H0 := H) (.tup qa ra))⟩)
    · rename_i ns
      obtain rfl := Option.some.inj e
      obtain ⟨a, o, rfl, qa⟩ := rv.getP rfl
      exact .inl ⟨a, rfl, ⟨_, .inl (.inr ⟨o, qa⟩)⟩, q _ H1 s1 (two (H0 := H) (.frz qa (RepPs.ofInt ns)))⟩
    · rename_i ns
      obtain rfl := Option.some.inj e
      obtain ⟨a, o, rfl, qa⟩ := rv.getP rfl
      exact .inl ⟨a, rfl, ⟨_, .inl (.inr ⟨o, qa⟩)⟩, q _ H1 s1 (two (H0 := H) (.frz qa (RepPs.ofInt ns)))⟩
    · rename_i z
      obtain rfl := Option.some.inj e
      obtain rfl : v = .str z := rv.getP rfl
      exact .inr (.inr ⟨z, rfl, q _ H1 s1 (two (H0 := H) (.str z))⟩)
    · rename_i z
      obtain rfl := Option.some.inj e
      obtain rfl : v = .str z := rv.getP rfl
      exact .inr (.inr ⟨z, rfl, q _ H1 s1 (two (H0 := H) (.str z))⟩)
    · obtain rfl := Option.some.inj e
      obtain ⟨fp, ⟨a, vs, rfl, qa, rfl, ra⟩, n, f⟩ := rv
      obtain ⟨G, g1, g2, g3⟩ := runs_list qa ra
      exact .inl ⟨a, rfl, ⟨vs, SqL.of qa⟩, q _ H1 s1 ⟨G, g1, g3⟩⟩
    · obtain rfl := Option.some.inj e
      obtain ⟨fp, ⟨a, vs, rfl, qa, rfl, ra⟩⟩ := rv
      obtain ⟨G, g1, g2, g3⟩ := runs_list qa ra
      exact .inl ⟨a, rfl, ⟨vs, SqL.of qa⟩, q _ H1 s1 ⟨G, g1, g3⟩⟩
    · cases e
  · exact q.elim
section
variable {W : WX} {X : Cx} {e elt tg iter : Expr} {ifs : List Expr} {gi : GI} {gt : GT} {ge : GE} {scope : Scope} {own : List (Str × Nat)} {pos : Pos}
theorem lc_of2 {t : Tg} {vs : List Nat} (hcal : X.calm = true) (ht : ∀ i ∈ t.idx, i ∈ vs) (σ : L2.St) (H : Hp) (Q : VK) (h : tD (dc X W) (gLc t vs gi gt ge) σ H Q) :
    tLc (tDI2 (dc X W) gi) (t.g X.K) (tDT (dc0 X) gt) (tD (dc0 X) ge) vs σ H Q := by
  rw [dc_calm hcal] at h ⊢
  obtain ⟨B, Rg, δ, S0, w⟩ := h
  refine ⟨B, Rg, δ, S0, Rn.wp_mono (Rn.wp_bind.mp w) (fun xs q J H1 s1 wk => ?_) fun _ _ q => q⟩
  intro Dp hD
  obtain ⟨G, hG, hR⟩ := wk.ex
  have S1 := S0.grow s1
  have S2 := S1.wipe vs
  have c1 : cutH H1 Dp = H1 := by
    funext b
    unfold cutH
    split
    · rename_i z; subst z; exact hD.symm
    · rfl
  refine ⟨fun i m H' => m = xs.length - i ∧ i ≤ xs.length ∧ ∃ acc vacc, H' Dp = some (.lst vacc) ∧ RepPs X.K H' acc vacc ∧ Same H1 (cutH H' Dp) ∧ SRel X.K B Rg (L2.wipe σ vs) (cutH H' Dp) (wipeS δ vs) ∧
    ((lcL t gt ge (wipeS δ vs) (xs.drop i) acc).bind fun ys => .ok (.own (.lst ys))).wp (fun r => ∀ v H', Same H H' → RepR X.K H H' r v → Q v H') (fun cl _ => ∀ C H', X.mg cl = some (.ref C) → Same H H' → W (.ref C) none σ H'),
    ⟨xs.length, by simp, Nat.zero_le _, [], [], upd_same, rfl, by rw [cutH_upd, c1]; exact Same.refl _, by rw [cutH_upd, c1]; exact S2, by simpa using q⟩, ?_⟩
  rintro i m H2 ⟨rfl, hi, acc, vacc, eD, ra, sm, S3, w3⟩
  have S4 := S3.grow (cutH_same H2 Dp)
  have s02 : Same H H2 := s1.trans (sm.trans (cutH_same H2 Dp))
  obtain ⟨r1, r2⟩ := hR H2 (hG.trans (sm.trans (cutH_same H2 Dp))) i
  by_cases hlt : i < xs.length
  · have ep := List.getElem?_eq_getElem hlt
    obtain ⟨go, yl⟩ := r1 _ ep
    rw [List.drop_eq_getElem_cons hlt] at w3
    refine .inr ⟨go, fun H' => ∃ acc vacc, H' Dp = some (.lst vacc) ∧ RepPs X.K H' acc vacc ∧ Same H1 (cutH H' Dp) ∧ SRel X.K B Rg (L2.wipe σ vs) (cutH H' Dp) (wipeS δ vs) ∧
      ((lcL t gt ge (wipeS δ vs) (xs.drop (i + 1)) acc).bind fun ys => .ok (.own (.lst ys))).wp (fun r => ∀ v H', Same H H' → RepR X.K H H' r v → Q v H') (fun cl _ => ∀ C H', X.mg cl = some (.ref C) → Same H H' → W (.ref C) none σ H'),
      fun H' q => ⟨xs.length - (i + 1), by omega, rfl, hlt, q⟩, fun x H3 y => ?_⟩
    obtain ⟨s3, rp⟩ := yl x H3 y
    unfold lcL at w3
    split at w3
    · rename_i δ1 e1
      have gw := Tg.ok (K := X.K) (t := t) (d := .p xs[i]) (v := x) (gp := []) (Q := fun σ' H' => H' = H3 ∧ SRel X.K B Rg σ' H3 δ1) S4 s3 ⟨rp, rfl⟩ List.nodup_nil (fun _ z => nomatch z) e1 fun σ' S5 => ⟨rfl, S5⟩
      have gw2 := Tg.g_wipe (vs := vs) ht gw
      refine Tg.g_mono (fun σ2 H2' ⟨ew, eh, S5⟩ => ?_) gw2
      subst eh
      refine ⟨by rw [ew, wipe_wipe], ?_⟩
      refine ⟨B, Rg, δ1, S5, Rn.wp_noErr (Rn.wp_mono (Rn.wp_bind.mp (Rn.wp_bind.mp w3)) (fun k q H4 s4 => ?_) fun _ _ q => q)⟩
      have S6 := S5.grow s4
      have s24 := s3.trans s4
      have eD4 : H4 Dp = some (.lst vacc) := s24 _ _ eD
      have smm : Same H1 (cutH H4 Dp) := sm.trans (cutH_mono s24 Dp)
      dsimp only
      cases k with
      | false =>
        rw [if_neg (by decide)] at q ⊢
        exact ⟨acc, vacc, eD4, RepPs.kt (Same.kt s24) _ _ ra, smm, S3.grow (cutH_mono s24 Dp), Rn.wp_bind.mpr q⟩
      | true =>
        rw [if_pos rfl] at q ⊢
        refine ⟨B, Rg, δ1, S6, Rn.wp_noErr (Rn.wp_mono (Rn.wp_bind.mp q) (fun r q v H5 s5 rv => ?_) fun _ _ q => q)⟩
        have s25 := s24.trans s5
        split at q
        · rename_i y ey
          split at q
          · rename_i hz
            have ry := rv.getP ey
            have ra5 := RepPs.kt (Same.kt s25) _ _ ra
            have kt5 : KT H5 (upd H5 Dp (.lst (vacc ++ [v]))) := KT.upd (s25 _ _ eD) trivial
            refine ⟨vacc, s25 _ _ eD, by rw [ra.len]; exact hz, acc ++ [y], vacc ++ [v], upd_same, RepPs.kt kt5 _ _ (RepPs.append (show RepPs X.K H5 [y] [v] from ⟨v, [], rfl, ry, rfl⟩) ra5), ?_, ?_, Rn.wp_bind.mpr q⟩
            · rw [cutH_upd]; exact sm.trans (cutH_mono s25 Dp)
            · rw [cutH_upd]; exact S3.grow (cutH_mono s25 Dp)
          · exact q.elim
        · exact q.elim
    · exact w3.elim
  · have hn : xs.length ≤ i := by omega
    rw [List.drop_eq_nil_of_le hn] at w3
    refine .inl ⟨r2 hn, w3 (.ref Dp) H2 s02 ⟨[Dp], ⟨Dp, vacc, rfl, eD, rfl, ra⟩, by simp, fun b hb => ?_⟩⟩
    obtain rfl : b = Dp := by simpa using hb
    exact s1.free hD
end
section
variable {W : WX} {X : Cx} {e elt tg iter : Expr} {ifs : List Expr} {gi : GI} {gt : GT} {ge : GE} {scope : Scope} {own : List (Str × Nat)} {pos : Pos}
theorem de_lc2 {t : Tg} (hc : X.calm = true) (hN : X.N.Nodup) (hi : DI2 W X tg iter gi) (ok : BlkOk X.N X.env.scope scope own)
    (hg : ∀ (s : Shared) (H : Hp) (C : Addr) (cl : List (Str × Addr)) (fp : List Addr), PG (X.blk s H scope (compEnvC scope cl C X.env) fp) tg (t.g X.K))
    (ht : ∀ (s : Shared) (H : Hp) (C : Addr) (cl : List (Str × Addr)) (fp : List Addr), DTs W0 (X.blk s H scope (compEnvC scope cl C X.env) fp) ifs gt)
    (he : ∀ (s : Shared) (H : Hp) (C : Addr) (cl : List (Str × Addr)) (fp : List Addr), DE W0 (X.blk s H scope (compEnvC scope cl C X.env) fp) elt ge)
    (hx : ∀ i ∈ t.idx, i ∈ own.map (·.2) := by decide) (hs : ∀ x, foldedSetIterable iter X.env x = pure x := by intro _; rfl) :
    DE W X (.ListComp elt [⟨tg, iter, ifs, 0⟩] scope pos) (gLc t (own.map (·.2)) gi gt ge) :=
  PE.imp (pe_lc (tt := tDT (dc0 X) gt) (te := tD (dc0 X) ge) hc hN hi ok hg ht he hs) (lc_of2 hc hx)
theorem ds_setLc2 {i : Nat} {y : Str} {py spos : Pos} {t : Tg} (hc : X.calm = true) (hN : X.N.Nodup) (hy : X.N[i]? = some y) (hyl : X.env.scope.names.lookup y = some .local)
    (hsw : swapsWith (.ListComp elt [⟨tg, iter, ifs, 0⟩] scope pos) (some (.Name y py)) spos.line X.env = pure true) (hi : DI2 W X tg iter gi) (ok : BlkOk X.N X.env.scope scope own)
    (hg : ∀ (s : Shared) (H : Hp) (C : Addr) (cl : List (Str × Addr)) (fp : List Addr), PG (X.blk s H scope (compEnvC scope cl C X.env) fp) tg (t.g X.K))
    (ht : ∀ (s : Shared) (H : Hp) (C : Addr) (cl : List (Str × Addr)) (fp : List Addr), DTs W0 (X.blk s H scope (compEnvC scope cl C X.env) fp) ifs gt)
    (he : ∀ (s : Shared) (H : Hp) (C : Addr) (cl : List (Str × Addr)) (fp : List Addr), DE W0 (X.blk s H scope (compEnvC scope cl C X.env) fp) elt ge)
    (hx : ∀ i ∈ t.idx, i ∈ own.map (·.2) := by decide) (hs : ∀ x, foldedSetIterable iter X.env x = pure x := by intro _; rfl) :
    DS W X (.Assign [.Name y py] (.ListComp elt [⟨tg, iter, ifs, 0⟩] scope pos) spos) (gSet i (gLc t (own.map (·.2)) gi gt ge)) := by
  refine PS.imp (ps_setLc (tt := tDT (dc0 X) gt) (te := tD (dc0 X) ge) hc hN hy hyl hsw hi ok hg ht he hs) fun D σ H ⟨B, Rg, δ, S0, w⟩ => ?_
  refine lc_of2 hc hx σ H _ ?_
  refine tDS_val S0 w fun r v H1 s1 rv S1 q => ?_
  cases r with
  | own d =>
    obtain ⟨fp, q1, n, f⟩ := rv
    exact q _ _ (S0.set s1 q1 n f)
  | vw d => exact q.elim
end
end DL
/-! DLt: reversed(tuple), x[::-1], tuples of ints by <. -/
namespace DL
open PySem PySem.Spec PyProof.Rows L2
/-- < of ints and of tuples of ints -/
def fLtA : D → D → Rn Unit Bool := fun x y => match x, y with
    | .p (.int i), .p (.int j) => .ok (decide (i < j))
    | .p (.tup xs), .p (.tup ys) => match pInts xs, pInts ys with
      | some ns, some ms => .ok (HT.lexLt ns ms)
      | _, _ => .bad
    | _, _ => .bad
section
variable {K : PySem.W.Frag} {H0 H : Hp}
theorem Walk.rtup {a : Addr} {vs : List V} {xs : List P} (h : SqT K H a vs) (r : RepPs K H xs vs) : Walk K H0 H (RT.ItvT K a vs.length) xs.reverse := by
  refine ⟨tupG H, tupG_same H, fun b hb => .inr (tupG_rd hb), fun H' s i => ?_⟩
  have kt : KT H H' := tupG_kt s
  have ha := kt.sqt h
  have r' := RepPs.kt kt _ _ r
  have hl : vs.length = xs.length := r.len
  refine ⟨fun p ep => ?_, fun hi => ?_⟩
  · have hi : i < xs.length := by
      have := (List.getElem?_eq_some_iff.mp ep).1
      simpa using this
    rw [List.getElem?_reverse hi] at ep
    obtain ⟨w, e2, q⟩ := r'.get ep
    rw [← hl] at e2
    refine ⟨⟨by omega, vs, w, ha, e2⟩, fun x H'' y => ?_⟩
    obtain ⟨rfl, y⟩ := y
    have e := y vs ha
    rw [e] at e2
    obtain rfl := Option.some.inj e2
    exact ⟨Same.refl _, q⟩
  · rw [List.length_reverse] at hi
    show vs.length ≤ i
    omega
theorem og_ltA : OpG K (fun x y H Q => rI0 (fun i j => .bl (decide (i < j))) x y H Q ∨ rLtT K x y H Q) (fB fLtA) := by
  intro H x y v u fx fy Q E rx ry h
  have h' := Rn.wp_bind.mp h
  unfold fLtA at h'
  split at h'
  · rename_i i j
    obtain rfl : v = .int i := rx.1
    obtain rfl : u = .int j := ry.1
    exact .inl ⟨i, j, rfl, rfl, RepP.up h' rfl⟩
  · rename_i xs ys
    split at h'
    · rename_i ns ms e1 e2
      obtain rfl := pInts_ok e1
      obtain rfl := pInts_ok e2
      obtain ⟨a, vs, rfl, q1, r1⟩ := rx.1
      obtain ⟨b, us, rfl, q2, r2⟩ := ry.1
      obtain rfl := r1.int
      obtain rfl := r2.int
      exact .inr ⟨a, b, ns, ms, rfl, rfl, q1, q2, RepP.up h' rfl⟩
    · exact h'.elim
  · exact h'.elim
end
def gRevI (ga : GE) : GI := fun δ => (ga δ).bind fun r => match r.d with
  | .p (.tup xs) => .ok xs.reverse
  | _ => .bad
def gRevL (ga : GE) : GE := fun δ => (ga δ).bind fun r => match r.d with
  | .lst xs => .ok (.own (.lst xs.reverse))
  | _ => .bad
section
variable {W : WX} {X : Cx} {e tg : Expr} {ga : GE} {p pos p1 p2 p3 : Pos}
theorem op_ltA (hu : X.A.units < cLine) : OpR X (compareOp .Lt) (fun x y H Q => rI0 (fun i j => .bl (decide (i < j))) x y H Q ∨ rLtT X.K x y H Q) := op_lt.or (op_ltT hu)
theorem di_rev (hm : X.mg "reversed" = none) (ha : DE W X e ga) (hg : Gl X "reversed" := by rfl) (hs : starEach [e] X.env = (false, eval e X.env) :: starEach [] X.env := by rfl) : DI W X tg (.Call (.Name "reversed" p) [e] [] pos) (gRevI ga) := by
  refine PI.imp (RT.pi_revA hg hm ha hs) fun σ H Rk ⟨B, Rg, δ, S0, w⟩ => ?_
  refine ⟨B, Rg, δ, S0, Rn.wp_mono (Rn.wp_bind.mp w) (fun r q v H1 s1 rv => ?_) fun _ _ q => q⟩
  split at q
  · rename_i xs ed
    obtain ⟨a, vs, rfl, qa, ra⟩ := rv.getP ed
    exact ⟨a, vs, rfl, .inr ⟨qa, q _ H1 s1 (Walk.rtup qa ra)⟩⟩
  · exact q.elim
theorem RepPs.rev {K : PySem.W.Frag} {H : Hp} : ∀ {xs : List P} {vs : List V}, RepPs K H xs vs → RepPs K H xs.reverse vs.reverse
  | [], vs, h => by
    obtain rfl : vs = [] := h
    exact rfl
  | x :: xs, vs, h => by
    obtain ⟨v, us, rfl, q, r⟩ := h
    rw [List.reverse_cons, List.reverse_cons]
    exact RepPs.append (show RepPs K H [x] [v] from ⟨v, [], rfl, q, rfl⟩) (RepPs.rev r)
theorem de_rev {k : Nat} (ha : DE W X e ga) : DE W X (.Subscript e (.Slice none none (some (.UnaryOp .USub (.Constant (.int 1) k p1) p2)) p3) pos) (gRevL ga) := by
  refine PE.imp (pe_revL ha) fun σ H Q ⟨B, Rg, δ, S0, w⟩ => ?_
  refine ⟨B, Rg, δ, S0, Rn.wp_mono (Rn.wp_bind.mp w) (fun r q v H1 s1 rv => ?_) fun _ _ q => q⟩
  split at q
  · rename_i xs ed
    obtain ⟨fp, rd⟩ := rv.look
    rw [ed] at rd
    obtain ⟨a, vs, rfl, qa, _, ra⟩ := rd
    refine ⟨a, vs, rfl, SqL.of qa, fun l nl => ?_⟩
    have s2 : Same H1 (upd H1 l (.lst vs.reverse)) := fun b o eb => by
      rw [upd_ne (fun z => by subst z; rw [nl] at eb; cases eb)]; exact eb
    refine q _ _ (s1.trans s2) ⟨[l], ⟨l, vs.reverse, rfl, upd_same, rfl, RepPs.kt (Same.kt s2) _ _ (RepPs.rev ra)⟩, by simp, fun b hb => ?_⟩
    obtain rfl : b = l := by simpa using hb
    exact s1.free nl
  · exact q.elim
end
end DL
/-! DLu: sorted(ints); draws from large ranges. -/
namespace DL
open PySem PySem.Spec PyProof.Rows L2
def insI (x : Int) : List Int → List Int
  | [] => [x]
  | y :: l => if x ≤ y then x :: y :: l else y :: insI x l
def srtI : List Int → List Int
  | [] => []
  | x :: l => insI x (srtI l)
theorem insI_perm (x : Int) : ∀ l : List Int, (insI x l).Perm (x :: l)
  | [] => .refl _
  | y :: l => by
    unfold insI
    split
    · exact .refl _
    · exact ((insI_perm x l).cons y).trans (.swap x y l)
theorem srtI_perm : ∀ l : List Int, (srtI l).Perm l
  | [] => .refl _
  | x :: l => (insI_perm x (srtI l)).trans ((srtI_perm l).cons x)
theorem insI_sorted (x : Int) : ∀ l : List Int, l.Pairwise (· ≤ ·) → (insI x l).Pairwise (· ≤ ·)
  | [], _ => by simp [insI]
  | y :: l, h => by
    obtain ⟨h1, h2⟩ := List.pairwise_cons.mp h
    unfold insI
    split
    · rename_i hx
      refine List.pairwise_cons.mpr ⟨fun z hz => ?_, h⟩
      rcases List.mem_cons.mp hz with rfl | hz
      · exact hx
      · have := h1 z hz
        omega
    · rename_i hx
      refine List.pairwise_cons.mpr ⟨fun z hz => ?_, insI_sorted x l h2⟩
      rcases List.mem_cons.mp ((insI_perm x l).mem_iff.mp hz) with rfl | hz
      · omega
      · exact h1 z hz
theorem srtI_sorted : ∀ l : List Int, (srtI l).Pairwise (· ≤ ·)
  | [] => .nil
  | x :: l => insI_sorted x _ (srtI_sorted l)
theorem sorted_unique : ∀ {l m : List Int}, l.Perm m → l.Pairwise (· ≤ ·) → m.Pairwise (· ≤ ·) → l = m
  | [], m, p, _, _ => p.nil_eq
  | x :: l, [], p, _, _ => by
    have := p.length_eq
    simp at this
  | x :: l, y :: m, p, h1, h2 => by
    obtain ⟨a1, a2⟩ := List.pairwise_cons.mp h1
    obtain ⟨b1, b2⟩ := List.pairwise_cons.mp h2
    have e : x = y := by
      have hx : x ∈ y :: m := p.mem_iff.mp (by simp)
      have hy : y ∈ x :: l := p.mem_iff.mpr (by simp)
      rcases List.mem_cons.mp hx with e | hx
      · exact e
      · rcases List.mem_cons.mp hy with e | hy
        · exact e.symm
        · have := a1 y hy
          have := b1 x hx
          omega
    subst e
    rw [sorted_unique p.cons_inv a2 b2]
def fSorted : List D → Rn Unit R
  | [.lst xs] => match pInts xs with
    | some ns => .ok (.own (.lst ((srtI ns).map .int)))
    | none => .bad
  | _ => .bad
theorem RepPs.ints {K : PySem.W.Frag} {H : Hp} : ∀ ns : List Int, RepPs K H (ns.map P.int) (ns.map V.int)
  | [] => rfl
  | n :: ns => ⟨.int n, ns.map V.int, rfl, rfl, RepPs.ints ns⟩
theorem cg_sorted {K : PySem.W.Frag} : CallG K (rSortedI K) fSorted := by
  intro H ds vs Q E hl h
  unfold fSorted at h
  split at h
  · rename_i xs
    split at h
    · rename_i ns e
      obtain rfl := pInts_ok e
      obtain ⟨v, fp, rfl, r⟩ := hl.one
      obtain ⟨a, vs, rfl, q, _, r⟩ := r
      obtain rfl := r.int
      refine ⟨a, ns, rfl, SqL.of q, fun ns' p h1 h2 hp => ?_⟩
      obtain rfl : ns' = srtI ns := sorted_unique (h1.trans (srtI_perm ns).symm) h2 (srtI_sorted ns)
      exact up_lst h (RepPs.ints _) hp
    · exact h.elim
  · exact h.elim
section
variable {W : WX} {X : Cx} {e : Expr} {es : List Expr} {gs : GA} {p pos : Pos}
theorem de_sorted (hm : X.mg "sorted" = none) (ha : DA W X (e :: es) gs) (hg : Gl X "sorted" := by rfl) (he : starEach (e :: es) X.env = (false, eval e X.env) :: starEach es X.env := by rfl) (hpl : (backTo pos (starEach es X.env)).any (·.1) = false := by rfl) : DE W X (.Call (.Name "sorted" p) (e :: es) [] pos) (gCall fSorted gs) :=
  de_callB cr_sortedI cg_sorted hm (by decide +kernel) ha hg (he := he) (hpl := hpl)
end
theorem take_big {n : Int} (h0 : 0 < n) (h1 : n < 2 ^ 250) : takeF [.orc, .p (.int n)] = .pick n.toNat fun i => .ok (.p (.int (i : Int))) := by
  unfold takeF
  refine if_pos ⟨h0, ?_⟩
  by_cases hz : n.natAbs = 0
  · rw [hz]; decide
  · have : n.natAbs < 2 ^ 250 := by
      have e : ((2 ^ 250 : Nat) : Int) = (2 : Int) ^ 250 := by rw [Int.natCast_pow]; rfl
      rw [← e] at h1
      generalize (2 ^ 250 : Nat) = T at h1 ⊢
      omega
    have := (Nat.log2_lt hz).mpr this
    omega
end DL
/-! DLv: rules for runs; gcd; try without a name; isinstance of an error by a built-in class. -/
namespace DL
open PySem PySem.Spec PyProof.Rows L2
section
variable {ε ε' α β : Type} {E : Str → ε → Prop}
theorem wp_bind {w : Rn ε α} {f : α → Rn ε β} {Q : β → Prop} : Wp (w.bind f) Q E ↔ Wp w (fun a => Wp (f a) Q E) E :=
  ⟨fun h => ⟨Rn.wp_mono (Rn.wp_bind.mp h.r) (fun _ q => ⟨q⟩) fun _ _ q => q⟩, fun h => ⟨Rn.wp_bind.mpr (Rn.wp_mono h.r (fun _ q => q.r) fun _ _ q => q)⟩⟩
theorem wp_mapErr {w : Rn ε α} {f : ε → ε'} {Q : α → Prop} {E : Str → ε' → Prop} (h : Wp w Q (fun c e => E c (f e))) : Wp (w.mapErr f) Q E := ⟨Rn.wp_mapErr.mpr h.r⟩
end
section
variable {a b : GE} {δ : Sl} {f : D → D → Rn Unit R} {Q : R → Prop} {E : Str → Unit → Prop} {R' : Fl → Prop} {F : Str → Sl → Prop}
theorem w_op2 (h : Wp (a δ) (fun x => Wp (b δ) (fun y => Wp (f x.d y.d) Q E) E) E) : Wp (gOp2 f a b δ) Q E := by
  unfold gOp2
  exact wp_bind.mpr (wp_imp h (fun _ q => wp_bind.mpr q) fun _ _ z => z)
theorem w_op1 {f : D → Rn Unit R} (h : Wp (a δ) (fun x => Wp (f x.d) Q E) E) : Wp (gOp1 f a δ) Q E := wp_bind.mpr h
theorem w_fn {n : Nat} {f : Fn} {gs : GA} {rs : List R} (h1 : gs δ = .ok rs) (h2 : rs.length = n) (h3 : Wp (f (rs.map R.d)) (fun d => Q (.own d)) E) : Wp (gFn n f gs δ) Q E := by
  unfold gFn
  rw [h1]
  show Wp (if rs.length = n then _ else _) Q E
  rw [if_pos h2]
  exact wp_bind.mpr (wp_imp h3 (fun _ q => wp_ok.mpr q) fun _ _ z => z)
theorem w_fnW {n : Nat} {f : Fn} {gs : GA} (h : Wp (gs δ) (fun rs => rs.length = n ∧ Wp (f (rs.map R.d)) (fun d => Q (.own d)) E) E) : Wp (gFn n f gs δ) Q E := by
  unfold gFn
  refine wp_bind.mpr (wp_imp h (fun rs q => ?_) fun _ _ z => z)
  rw [if_pos q.1]
  exact wp_bind.mpr (wp_imp q.2 (fun _ q => wp_ok.mpr q) fun _ _ z => z)
theorem w_call {f : List D → Rn Unit R} {gs : GA} (h : Wp (gs δ) (fun rs => Wp (f (rs.map R.d)) Q E) E) : Wp (gCall f gs δ) Q E := wp_bind.mpr h
theorem w_cons {gs : GA} {T : List R → Prop} (h : Wp (a δ) (fun r => Wp (gs δ) (fun rs => T (r :: rs)) E) E) : Wp (gCons a gs δ) T E :=
  wp_bind.mpr (wp_imp h (fun _ q => wp_bind.mpr (wp_imp q (fun _ q => wp_ok.mpr q) fun _ _ z => z)) fun _ _ z => z)
theorem w_set {i : Nat} (h : Wp (a δ) (fun r => ∃ d, r = .own d ∧ R' (.nx (δ.set i (.own d)))) (fun c _ => F c δ)) : Wp (gSet i a δ) R' F := by
  unfold gSet lift
  refine wp_bind.mpr (wp_mapErr (wp_imp h (fun r q => ?_) fun _ _ z => z))
  obtain ⟨d, rfl, q⟩ := q
  exact wp_ok.mpr q
theorem w_ret (h : Wp (a δ) (fun r => ∃ d, r = .own d ∧ R' (.ret d)) (fun c _ => F c δ)) : Wp (gRet a δ) R' F := by
  unfold gRet lift
  refine wp_bind.mpr (wp_mapErr (wp_imp h (fun r q => ?_) fun _ _ z => z))
  obtain ⟨d, rfl, q⟩ := q
  exact wp_ok.mpr q
theorem w_if {t : GT} {g1 g2 : GS} (h : Wp (t δ) (fun k => Wp (if k = true then g1 δ else g2 δ) R' F) (fun c _ => F c δ)) : Wp (gIfS t g1 g2 δ) R' F := by
  unfold gIfS lift
  exact wp_bind.mpr (wp_mapErr (wp_imp h (fun _ q => q) fun _ _ z => z))
theorem w_tb {T : Bool → Prop} (h : Wp (a δ) (fun r => ∃ k, r.d = .p (.bl k) ∧ T k) E) : Wp (gTB a δ) T E := by
  unfold gTB
  refine wp_bind.mpr (wp_imp h (fun r q => ?_) fun _ _ z => z)
  obtain ⟨k, e, q⟩ := q
  unfold D.bool?
  rw [e]
  exact wp_ok.mpr q
theorem w_tru {T : Bool → Prop} (h : Wp (a δ) (fun r => ∃ k, r.d = .p (.bl k) ∧ T k) E) : Wp (gTru a δ) T E := by
  unfold gTru
  refine wp_bind.mpr (wp_imp h (fun r q => ?_) fun _ _ z => z)
  obtain ⟨k, e, q⟩ := q
  rw [e]
  exact wp_ok.mpr q
theorem w_of {α : Type} {ε : Type} {w : Rn ε α} {v : α} {Q : α → Prop} {E : Str → ε → Prop} (e : w = .ok v) (q : Q v) : Wp w Q E := by
  rw [e]; exact wp_ok.mpr q
theorem eq_ints (i j : Int) : fB (fEqB false) (.p (.int i)) (.p (.int j)) = .ok (.own (.p (.bl (decide (i = j))))) := by
  simp [fB, fEqB, P.scal, P.seq, Rn.bind]
theorem ne_ints (i j : Int) : fB (fEqB true) (.p (.int i)) (.p (.int j)) = .ok (.own (.p (.bl (decide (i ≠ j))))) := by
  simp [fB, fEqB, P.scal, P.seq, Rn.bind]
end
theorem fn_eq {n : Nat} {g : GS} {ds : List D} {d : D} (h : g (startS n ds) = .ok (.ret d)) : fnD n g ds = .ok d := by
  unfold fnD
  rw [h]
  rfl
theorem fn_eqN {n : Nat} {g : GS} {ds : List D} {δ' : Sl} (h : g (startS n ds) = .ok (.nx δ')) : fnD n g ds = .ok (.p .non) := by
  unfold fnD
  rw [h]
  rfl
theorem fn_eqE {n : Nat} {g : GS} {ds : List D} {c : Str} {δ' : Sl} (h : g (startS n ds) = .err c δ') : fnD n g ds = .err c () := by
  unfold fnD
  rw [h]
  rfl
theorem seq_eq {a b : GS} {δ δ' : Sl} {r : Rn Sl Fl} (h1 : a δ = .ok (.nx δ')) (h2 : b δ' = r) : gSeq a b δ = r := by
  unfold gSeq
  rw [h1]
  exact h2
theorem seq_eqr {a b : GS} {δ : Sl} {d : D} (h1 : a δ = .ok (.ret d)) : gSeq a b δ = .ok (.ret d) := by
  unfold gSeq
  rw [h1]
  rfl
theorem seq_eqE {a b : GS} {δ δ' : Sl} {c : Str} (h1 : a δ = .err c δ') : gSeq a b δ = .err c δ' := by
  unfold gSeq
  rw [h1]
  rfl
theorem for_eq {t : Tg} {gi : GI} {g : GS} {δ : Sl} {xs : List P} {r : Rn Sl Fl} (e : gi δ = .ok xs) (h : gForL t g xs δ = r) : gFor t gi g δ = r := by
  unfold gFor lift
  rw [e]
  exact h
theorem if_eqT {t : GT} {a b : GS} {δ : Sl} {r : Rn Sl Fl} (h : t δ = .ok true) (k : a δ = r) : gIfS t a b δ = r := by
  unfold gIfS lift
  rw [h]
  exact k
theorem if_eqF {t : GT} {a b : GS} {δ : Sl} {r : Rn Sl Fl} (h : t δ = .ok false) (k : b δ = r) : gIfS t a b δ = r := by
  unfold gIfS lift
  rw [h]
  exact k
theorem gRange_ok {f : List D → Rn Unit (List P)} {gs : GA} {δ : Sl} {rs : List R} {r : Rn Unit (List P)} (h1 : gs δ = .ok rs) (h2 : f (rs.map R.d) = r) : gRangeI f gs δ = r := by
  unfold gRangeI
  rw [h1]
  exact h2
theorem range1_ok {n : Int} (h0 : -1000000 ≤ n) (h : n ≤ 1000000) : fRange1 [.p (.int n)] = .ok (rangeP 0 n) := by
  have hh : -(2 ^ 62) ≤ n ∧ n < 2 ^ 62 := by omega
  unfold fRange1
  simp only [hh, and_self, if_true]
theorem eq_self {x : P} (n : Bool) (h1 : P.scal x x = false) (h2 : SeqAt.shaped x.py = true) : fEqB n (.p x) (.p x) = .ok (!n) := by
  have c : x.py.canLay0 = true := by
    unfold SeqAt.shaped at h2
    simp only [Bool.and_eq_true] at h2
    exact h2.1
  unfold fEqB
  dsimp only
  rw [if_neg (by rw [h1]; decide), if_pos ⟨h2, h2⟩, show PyData.eqv x.py x.py = true from SeqAt.eqv_refl _ c]
  cases n <;> rfl
theorem eq_selfD {d : D} {x : P} (n : Bool) (e : d = .p x) (h1 : P.scal x x = false) (h2 : SeqAt.shaped x.py = true) : fEqB n d d = .ok (!n) := by
  subst e
  exact eq_self n h1 h2
theorem op2_eq {f : D → D → Rn Unit R} {a b : GE} {δ : Sl} {x y : R} {r : Rn Unit R} (h1 : a δ = .ok x) (h2 : b δ = .ok y) (h3 : f x.d y.d = r) : gOp2 f a b δ = r := by
  unfold gOp2
  rw [h1, Rn.bind_ok, h2]
  exact h3
theorem tb_eq {a : GE} {δ : Sl} {k : Bool} (h : a δ = .ok (.own (.p (.bl k)))) : gTB a δ = .ok k := by
  unfold gTB
  rw [h]
  rfl
theorem fB_eq {f : D → D → Rn Unit Bool} {x y : D} {k : Bool} (h : f x y = .ok k) : fB f x y = .ok (.own (.p (.bl k))) := by
  unfold fB
  rw [h]
  rfl
theorem forL_eq {t : Tg} {g : GS} {x : P} {xs : List P} {δ δ1 δ' : Sl} {r : Rn Sl Fl} (e : t.set (.p x) δ = some δ1) (w : g δ1 = .ok (.nx δ')) (k : gForL t g xs δ' = r) : gForL t g (x :: xs) δ = r := by
  unfold gForL
  rw [e]
  show ((g δ1).bind _) = r
  rw [w]
  exact k
def fuelAt (i k : Nat) : Sl → Nat := fun δ => match δ[i]? with
  | some (S.own (D.p (P.int b))) => b.natAbs + k
  | some (S.bor _ (D.p (P.int b))) => b.natAbs + k
  | _ => 0
/-! ### gcd -/
def fGcd : List D → Rn Unit R
  | [.p (.int a), .p (.int b)] => .ok (.own (.p (.int ((Nat.gcd a.natAbs b.natAbs : Nat) : Int))))
  | _ => .bad
theorem cg_gcd {K : PySem.W.Frag} : CallG K rGcd fGcd := by
  intro H ds vs Q E hl h
  unfold fGcd at h
  split at h
  · obtain ⟨v, u, fp, gp, rfl, r1, r2⟩ := hl.two
    obtain rfl : v = .int _ := r1.1
    obtain rfl : u = .int _ := r2.1
    exact ⟨_, _, rfl, RepP.up h rfl⟩
  · exact h.elim
section
variable {W : WX} {X : Cx} {e : Expr} {es : List Expr} {gs : GA} {p pos p2 : Pos}
theorem de_gcd {x : Str} (hm : X.mg x = some (.builtin "math.gcd")) (ha : DA W X (e :: es) gs) (hg : Gl X x := by rfl) (hdb : (x == ("__debug__" : Str)) = false := by decide) (he : starEach (e :: es) X.env = (false, eval e X.env) :: starEach es X.env := by rfl) (hpl : (backTo pos (starEach es X.env)).any (·.1) = false := by rfl) : DE W X (.Call (.Name x p) (e :: es) [] pos) (gCall fGcd gs) :=
  PE.imp (pe_callBfun cr_gcd hg hm ha hdb he hpl) fun σ H Q h => call_of cg_gcd σ H Q h
end
/-! ### try without a name -/
def outEx0 (δ : Sl) : Sl := δ.map S.noExn
def gTryOW (sub : Str → Option Bool) (gsu : Str → GS) : Rn Sl Fl → Rn Sl Fl
  | .ok fl => .ok fl
  | .err c δ' => match sub c with
    | some true => ((gsu c δ').noErrS).bind fun fl => .ok (fl.map outEx0)
    | some false => .err c δ'
    | none => .bad
  | .bad => .bad
  | .pick n k => .pick n fun j => gTryOW sub gsu (k j)
def gTryO (sub : Str → Option Bool) (g : GS) (gsu : Str → GS) : GS := fun δ => gTryOW sub gsu (g δ)
theorem gTryOW_wp {sub : Str → Option Bool} {gsu : Str → GS} {Q : Fl → Prop} {E : Str → Sl → Prop} : ∀ {r : Rn Sl Fl}, (gTryOW sub gsu r).wp Q E →
    r.wp Q fun c δ' => (sub c = some true ∧ (((gsu c δ').noErrS).bind fun fl => .ok (fl.map outEx0)).wp Q E) ∨ (sub c = some false ∧ E c δ') := by
  intro r
  induction r with
  | ok fl => exact fun h => h
  | err c δ' =>
    intro h
    unfold gTryOW at h
    split at h
    · rename_i e; exact .inl ⟨e, h⟩
    · rename_i e; exact .inr ⟨e, h⟩
    · exact h.elim
  | bad => exact fun h => h
  | pick n k ih => exact fun h j hj => ih j (h j hj)
section
variable {K : PySem.W.Frag} {B H : Hp}
theorem SRel.outEx0 {Rg : Option Nat → Hp} {ex : Option Addr} {σ : L2.St} {δ : Sl} (S0 : SRel K B (ex := ex) Rg σ H δ) : SRel K B (ex := none) Rg σ H (outEx0 δ) := by
  obtain ⟨b, u, fp, q, n, f⟩ := S0
  exact ⟨b, u, fp, q.offEx, n, f⟩
end
section
variable {W : WX} {X : Cx} {body suite : List Stmt} {b₀ : Stmt} {g1 : GS} {pos p np pos' : Pos}
theorem try_ofO {sub : Str → Option Bool} {gsu : Str → GS} {c : Value} {ts : Addr → Value → Option Addr → TS}
    (hts : ts = fun a cls d D σ H => ∃ cl C, X.mg cl = some (.ref C) ∧ cls = .ref C ∧ d = none ∧ tDS ⟨X.K, X.mg, W0, some a⟩ (gsu cl) D σ H) (et : ErrT X.K X.mg c sub) (hc : X.calm = true)
    (D : Ends) (σ : L2.St) (H : Hp) (h : tDS (dc X W) (gTryO sub g1 gsu) D σ H) : tDS ⟨X.K, X.mg, wOnly X.K c ts W D, none⟩ g1 D σ H := by
  rw [dc_calm hc] at h
  obtain ⟨B, Rg, δ, S0, w⟩ := h
  refine ⟨B, Rg, δ, S0, Rn.wp_mono (gTryOW_wp w) (fun _ q => q) fun cl δ' q C σ1 H1 hm S1 => ?_⟩
  rcases q with ⟨e, q⟩ | ⟨e, q⟩
  · refine ⟨true, et cl true C e hm, fun _ a ha => ?_, fun z => Bool.noConfusion z⟩
    subst hts
    refine ⟨cl, C, hm, rfl, rfl, ?_⟩
    obtain ⟨b, u, fp, r, n, f⟩ := S1
    refine ⟨B, Rg, δ', ⟨b, u, fp, r.toEx (a := a), n, f⟩, Rn.wp_noErrS (Rn.wp_mono (Rn.wp_bind.mp q) (fun fl q => ?_) fun _ _ q => q)⟩
    cases fl with
    | nx δ2 => exact fun σ2 H2 S2 => q _ _ S2.outEx0
    | bk δ2 => exact fun σ2 H2 S2 => q _ _ S2.outEx0
    | ct δ2 => exact fun σ2 H2 S2 => q _ _ S2.outEx0
    | ret d => exact q
  · exact ⟨false, et cl false C e hm, fun z => Bool.noConfusion z, fun _ => q C σ1 H1 hm S1⟩
theorem ds_tryOnly {x : Str} {c : Value} {sub : Str → Option Bool} {gsu : Str → GS} (hs : X.stack = X.env :: X.outer) (hf : X.env.frame = some X.env.locals) (hcal : X.calm = true)
    (hc : Names X x c) (et : ErrT X.K X.mg c sub) (tk : Takes X W)
    (hb : ∀ (W' : WX) (pn : List (Addr × Obj)) (xe : Value → Shared → Prop), Takes (X.tr pn xe) W' → PassesOwn (model X.prog X.w) X.A X.env xe → DSs W' (X.tr pn xe) body g1)
    (hsu : ∀ (cl : Str) (C a : Addr) (oe : Obj) (pn : List (Addr × Obj)), X.mg cl = some (.ref C) → Zc (.ref C) none oe → (∃ vs, oe.data = .fields vs) → DSs W0 (X.suite a ((a, oe) :: pn)) (b₀ :: suite) (gsu cl)) :
    DS W X (.Try body [.ExceptHandler (some (.Name x np)) none (b₀ :: suite) pos'] [] [] pos) (gTryO sub g1 gsu) := by
  refine PS.imp (ps_try_only (Wout := W) (tb := fun W' => tDS ⟨X.K, X.mg, W', none⟩ g1) (ts := fun a cls d D σ H => ∃ cl C, X.mg cl = some (.ref C) ∧ cls = .ref C ∧ d = none ∧ tDS ⟨X.K, X.mg, W0, some a⟩ (gsu cl) D σ H)
    hs hf hc tk (fun W' pn xe t1 t2 => ?_) fun a oe cls d pn hz hv => ?_) fun D σ H h => try_ofO rfl et hcal D σ H h
  · have := hb W' pn xe t1 t2
    unfold DSs at this
    rw [dc_calm (X := X.tr pn xe) hcal] at this
    exact this
  · refine ⟨fun pins s σ H D I ⟨cl, C, hm, e1, e2, h⟩ => ?_⟩
    subst e1 e2
    exact (hsu cl C a oe pn hm hz hv).run pins s σ H D I h
theorem ds_tryOC {x : Str} {sub : Str → Option Bool} {gsu : Str → GS} (cc : CatchC X.K X.mg x sub) (hs : X.stack = X.env :: X.outer) (hf : X.env.frame = some X.env.locals) (hcal : X.calm = true) (tk : Takes X W)
    (hb : ∀ (W' : WX) (pn : List (Addr × Obj)) (xe : Value → Shared → Prop), Takes (X.tr pn xe) W' → PassesOwn (model X.prog X.w) X.A X.env xe → DSs W' (X.tr pn xe) body g1)
    (hsu : ∀ (cl : Str) (C a : Addr) (oe : Obj) (pn : List (Addr × Obj)), X.mg cl = some (.ref C) → Zc (.ref C) none oe → (∃ vs, oe.data = .fields vs) → DSs W0 (X.suite a ((a, oe) :: pn)) (b₀ :: suite) (gsu cl))
    (hg : Gl X x := by rfl) (hdb : (x == ("__debug__" : Str)) = false := by decide) :
    DS W X (.Try body [.ExceptHandler (some (.Name x np)) none (b₀ :: suite) pos'] [] [] pos) (gTryO sub g1 gsu) := by
  obtain ⟨C, hC, et⟩ := cc.ex
  exact ds_tryOnly hs hf hcal ⟨hg, hdb, .inl hC⟩ et tk hb hsu
end
/-! ### isinstance of an error by a built-in class -/
structure IsTB (K : PySem.W.Frag) (mg : Str → Option Value) (T : String) (sub : Str → Option Bool) : Prop where
  ex : ∀ c b C, sub c = some b → mg c = some (.ref C) → ExcC K C ∧ PySem.W.kitOne K (.ref C) (.type T) = some b
/-- which classes are kinds of a built-in class -/
inductive SubTB (K : PySem.W.Frag) (mg : Str → Option Value) (T : String) : List (Str × Bool) → Prop
  | nil : SubTB K mg T []
  | cons {x : Str} {D : Addr} {b : Bool} {t : List (Str × Bool)} (C : ClsT K mg x D) (h : PySem.W.subIn K (.ref D) (.type T) = some b) (r : SubTB K mg T t) : SubTB K mg T ((x, b) :: t)
theorem SubTB.get {K : PySem.W.Frag} {mg : Str → Option Value} {T : String} : ∀ {t : List (Str × Bool)} {x : Str} {b : Bool}, SubTB K mg T t → (x, b) ∈ t → ∃ D, ClsT K mg x D ∧ PySem.W.subIn K (.ref D) (.type T) = some b
  | _, _, _, .nil, h => by cases h
  | _, x, b, .cons C h r, hm => by
    rcases List.mem_cons.mp hm with e | e
    · cases e; exact ⟨_, C, h⟩
    · exact SubTB.get r e
theorem isTB_of {K : PySem.W.Frag} {mg : Str → Option Value} {T : String} {t : List (Str × Bool)} (O : ObjT K) (hk : PySem.W.kitMeta T = true)
    (S : SubTB K mg T t) : IsTB K mg T (tabS t) := by
  refine ⟨fun c b C e hm => ?_⟩
  obtain ⟨D', T', h⟩ := S.get (tab_mem e)
  have : D' = C := by have := T'.mg.symm.trans hm; exact Value.ref.inj (Option.some.inj this)
  subst this
  refine ⟨T'.excC O, ?_⟩
  unfold PySem.W.kitOne
  rw [if_neg (by simp)]
  show (if PySem.W.kitMeta T = true then PySem.W.subIn K (.ref D') (.type T) else none) = some b
  rw [if_pos hk]
  exact h
section
variable {W : WX} {X : Cx} {p pos p2 : Pos}
theorem de_isEB {T : String} {x y cl : Str} {C a : Addr} {oe : Obj} {pn : List (Addr × Obj)} {i : Nat} {sub : Str → Option Bool} {py : Pos} (it : IsTB X.K X.mg T sub) (hm2 : X.mg x = none) (hcl : X.mg cl = some (.ref C)) (hz : Zc (.ref C) none oe) (hf : ∃ vs, oe.data = .fields vs)
    (hm : X.mg "isinstance" = none) (hN : X.N[i]? = some y) (hv : Vis X.env.scope y) (hb : bootBuiltins x = some (.type T)) (hn : x ≠ "__name__" := by decide) (hg2 : Gl X x := by rfl) (hg : Gl X "isinstance" := by rfl)
    (hdb : (x == ("__debug__" : Str)) = false := by decide) (hdy : (y == ("__debug__" : Str)) = false := by decide) (hcd : (y == ("__classdict__" : Str)) = false := by decide)
    (he : starEach [.Name y py, .Name x p2] X.env = (false, eval (.Name y py) X.env) :: starEach [.Name x p2] X.env := by rfl) (he2 : starEach [.Name x p2] X.env = (false, eval (.Name x p2) X.env) :: starEach [] X.env := by rfl) (hpl : (backTo pos (starEach [.Name x p2] X.env)).any (·.1) = false := by rfl) :
    DE W0 (X.suite a ((a, oe) :: pn)) (.Call (.Name "isinstance" p) [.Name y py, .Name x p2] [] pos) (gIsE i (sub cl)) := by
  cases eb : sub cl with
  | none => exact ⟨fun pins s σ H Q I ⟨B, Rg, δ, S0, w⟩ => by
      unfold gIsE at w
      split at w
      · rename_i z; cases z
      · exact w.elim⟩
  | some b =>
    obtain ⟨ec, hkit⟩ := it.ex cl b C eb hcl
    refine PE.imp (pe_callB (X := X.suite a ((a, oe) :: pn)) (call_isE ec hz hf) hg hm (by decide +kernel) (pa_cons (pe_var (i := i) hN hv hdy hcd) (pa_cons (pe_bltn (v := .ty T) hg2 hm2 hb rfl hn hdb) pa_nil he2) he) (by decide) (by decide) he hpl) fun σ H Q ⟨B, Rg, δ, S0, w⟩ => ?_
    unfold gIsE at w
    split at w
    · rename_i b' e1 e2
      cases e2
      obtain ⟨b0, u, fp, q, n, f⟩ := S0
      obtain ⟨ov, f1, e3, r, _⟩ := q.get e1
      obtain ⟨_, a', ea, rfl⟩ := r
      obtain rfl : a = a' := Option.some.inj ea
      exact ⟨_, e3, .ty T, .type T, b, rfl, fun u h => h, hkit, w _ H (Same.refl H) (RepR.plain rfl)⟩
    · exact w.elim
end
end DL
/-! DLw: unpacking; common readings: bounds, draws, the Euclid of a law. -/
namespace DL
open PySem PySem.Spec PyProof.Rows L2
section
variable {W : WX} {X : Cx} {e : Expr} {es : List Expr} {ga : GE} {pos p : Pos}
/-- a, b = e: e a tuple or a list -/
def gUnpT (is : List Nat) (ga : GE) : GS := fun δ => (lift (ga δ) δ).bind fun r => match r.d with
  | .lst xs => if xs.length = is.length then .ok (.nx (setAll is (xs.map D.p) δ)) else .bad
  | d => match r with
    | .own _ => match (Tg.tup is).set d δ with
      | some δ' => .ok (.nx δ')
      | none => .bad
    | .vw _ => .bad
theorem ds_unpT {k n : Nat} {is : List Nat} (hc : X.calm = true) (hg : PGs X es (gNms is)) (ha : DE W X e ga) (hl : is.length = n) (hn : (assignEach es X.env).length = n := by rfl) (hst : (assignEach es X.env).findIdx? (·.1) = none := by rfl)
    (hs : swapsWithSole [.Tuple es k p] e pos.line X.env = pure false := by rfl) (hw : swappedStores [.Tuple es k p] e X.env = pure none := by rfl)
    (h1 : (assignEach [.Tuple es k p] X.env).map (·.2) = [assign (.Tuple es k p) X.env] := by rfl) : DS W X (.Assign [.Tuple es k p] e pos) (gUnpT is ga) := by
  subst hl
  have hg2 : PG X (.Tuple es k p) (fun v σ H Q => L2.gTup X.K is.length (gNms is) v σ H Q ∨ L2.gLst X.K is.length (gNms is) v σ H Q) :=
    ⟨fun pins s σ H v u Q I r hw => hw.elim (fun q => (pg_tup hc hg hn hst).run pins s σ H v u Q I r q) fun q => (pg_lst hc hg hn hst).run pins s σ H v u Q I r q⟩
  refine PS.imp (ps_asg ha hg2 hs hw h1) fun D σ H ⟨B, Rg, δ, S0, w⟩ => ?_
  refine tDS_val S0 w fun r v H1 s1 rv S1 q => ?_
  split at q
  · rename_i xs ed
    split at q
    · rename_i hl
      obtain ⟨fp0, rd⟩ := rv.look
      rw [ed] at rd
      obtain ⟨a, vs, rfl, qa, _, ra⟩ := rd
      obtain ⟨b, u, fp, z, qn, qf⟩ := S1
      refine .inr ⟨a, vs, rfl, SqL.of qa, by rw [ra.len, hl], setAll_ok is _ vs [] σ _ fp _ (by simpa using hl) z ra.ds (by simpa using qn) fun σ' fp' z1 z2 z3 => q σ' H1 ⟨b, u, fp', z1, z2, fun a ha => qf a (by simpa using z3 a ha)⟩⟩
    · exact q.elim
  · split at q
    · split at q
      · rename_i δ' e1
        obtain ⟨fp, q1, n, f⟩ := rv
        exact .inl (Tg.ok S0 s1 q1 n f e1 fun σ' S2 => q σ' H1 S2)
      · exact q.elim
    · exact q.elim
end
/-- below 2^k in size -/
structure Z (k : Nat) (x : Int) : Prop where
  h : x.natAbs < 2 ^ k
theorem Z.mono {j k : Nat} {x : Int} (h : Z j x) (hk : j ≤ k) : Z k x := ⟨Nat.lt_of_lt_of_le h.h (Nat.pow_le_pow_right (by decide) hk)⟩
theorem Z.mul {j k : Nat} {x y : Int} (hx : Z j x) (hy : Z k y) : Z (j + k) (x * y) := ⟨by
  rw [Int.natAbs_mul, Nat.pow_add]
  exact Nat.mul_lt_mul'' hx.h hy.h⟩
theorem Z.add {k : Nat} {x y : Int} (hx : Z k x) (hy : Z k y) : Z (k + 1) (x + y) := ⟨by
  have h1 := hx.h
  have h2 := hy.h
  rw [Nat.pow_succ]
  generalize 2 ^ k = T at *
  omega⟩
theorem Z.neg {k : Nat} {x : Int} (hx : Z k x) : Z k (-x) := ⟨by rw [Int.natAbs_neg]; exact hx.h⟩
theorem Z.sub {k : Nat} {x y : Int} (hx : Z k x) (hy : Z k y) : Z (k + 1) (x - y) := by
  rw [Int.sub_eq_add_neg]
  exact hx.add hy.neg
theorem Z.log {k : Nat} {x : Int} (h : Z k x) : x.natAbs.log2 ≤ k := by
  by_cases hz : x.natAbs = 0
  · rw [hz]; exact Nat.zero_le _
  · exact Nat.le_of_lt ((Nat.log2_lt hz).mpr h.h)
theorem Z.cmul {j k : Nat} {x y : Int} (hx : Z j x) (hy : Z k y) (h : j + k < 1000000 := by decide) : CMulW x y := by
  have h1 := hx.log
  have h2 := hy.log
  show x.natAbs.log2 + y.natAbs.log2 < 1000000
  omega
theorem Z.cdiv {k : Nat} {x y : Int} (hy : Z k y) (hp : 0 < y) (h : k < 9000 := by decide) : CDivW x y := ⟨hp, Nat.lt_of_le_of_lt hy.log h⟩
theorem Z.of {k : Nat} {x : Int} (h1 : -(2 ^ k) < x) (h2 : x < 2 ^ k) : Z k x := ⟨by
  have e : ((2 ^ k : Nat) : Int) = (2 : Int) ^ k := by rw [Int.natCast_pow]; rfl
  rw [← e] at h1 h2
  generalize (2 ^ k : Nat) = T at *
  omega⟩
theorem Z.lt {k : Nat} {x : Int} (h : Z k x) : -(2 ^ k) < x ∧ x < 2 ^ k := by
  have e : ((2 ^ k : Nat) : Int) = (2 : Int) ^ k := by rw [Int.natCast_pow]; rfl
  have := h.h
  rw [← e]
  generalize (2 ^ k : Nat) = T at *
  omega
theorem Z.div {k : Nat} {x y : Int} (hx : Z k x) (hy : 0 < y) : Z k (x / y) := ⟨by
  have h := hx.h
  obtain ⟨Y, rfl⟩ : ∃ Y : Nat, y = (Y : Int) := ⟨y.toNat, by omega⟩
  have h1 : (Y : Int) * (x / (Y : Int)) ≤ x := Int.mul_ediv_self_le (by omega)
  have h2 : x < (Y : Int) * (x / (Y : Int)) + (Y : Int) := Int.lt_mul_ediv_self_add (by omega)
  generalize x / (Y : Int) = q at *
  generalize (2 ^ k : Nat) = T at *
  by_cases hq : 0 ≤ q
  · have : q ≤ (Y : Int) * q := by
      have := Int.mul_le_mul_of_nonneg_right (show (1 : Int) ≤ Y by omega) hq
      omega
    omega
  · have : (Y : Int) * q + (Y : Int) ≤ q + 1 := by
      have e : (Y : Int) * q + (Y : Int) = (Y : Int) * (q + 1) := by rw [Int.mul_add, Int.mul_one]
      rw [e]
      have := Int.mul_le_mul_of_nonneg_right (show (1 : Int) ≤ Y by omega) (show 0 ≤ -(q + 1) by omega)
      simp only [Int.mul_neg, Int.one_mul] at this
      omega
    omega⟩
section
variable {δ : Sl} {Q : R → Prop}
/-- a draw of fewer than n -/
theorem draw_eq {n : Int} {gs : GA} (h0 : 0 < n) (h1 : n < 2 ^ 250) (hg : gs δ = .ok [.vw .orc, .own (.p (.int n))]) (h : ∀ i : Int, 0 ≤ i → i < n → Q (.own (.p (.int i)))) : Wp (gFn 2 takeF gs δ) Q (fun _ _ => False) := by
  refine w_fn hg rfl ?_
  show Wp (takeF [.orc, .p (.int n)]) _ _
  rw [take_big h0 h1]
  refine wp_pick.mpr fun i hi => wp_ok.mpr (h _ (by omega) (by omega))
theorem set_fn {i n : Nat} {f : Fn} {gs : GA} {rs : List R} {T : D → Prop} {Q : Fl → Prop} (h1 : gs δ = .ok rs) (h2 : rs.length = n) (h3 : Wp (f (rs.map R.d)) T (fun _ _ => False)) (h4 : ∀ d, T d → Q (.nx (δ.set i (.own d)))) : Wp (gSet i (gFn n f gs) δ) Q (fun _ _ => False) :=
  w_set (w_fn h1 h2 (wp_imp h3 (fun d t => ⟨d, rfl, h4 d t⟩) fun _ _ z => z))
end
theorem cons_eq {a : GE} {gs : GA} {δ : Sl} {r : R} {rs : List R} (h1 : a δ = .ok r) (h2 : gs δ = .ok rs) : gCons a gs δ = .ok (r :: rs) := by
  unfold gCons
  rw [h1, Rn.bind_ok, h2]
  rfl
theorem fn_val {n : Nat} {f : Fn} {gs : GA} {δ : Sl} {rs : List R} {d : D} (h1 : gs δ = .ok rs) (h2 : rs.length = n) (h3 : f (rs.map R.d) = .ok d) : gFn n f gs δ = .ok (.own d) := by
  unfold gFn
  rw [h1, Rn.bind_ok, if_pos h2, h3]
  rfl
theorem set_eq {i : Nat} {a : GE} {δ : Sl} {d : D} (h : a δ = .ok (.own d)) : gSet i a δ = .ok (.nx (δ.set i (.own d))) := by
  unfold gSet lift
  rw [h]
  rfl
theorem ret_eq {a : GE} {δ : Sl} {d : D} (h : a δ = .ok (.own d)) : gRet a δ = .ok (.ret d) := by
  unfold gRet lift
  rw [h]
  rfl
theorem andV_eq {a b : GE} {δ : Sl} {r : Rn Unit R} (h1 : a δ = .ok (.own (.p (.bl true)))) (h2 : b δ = r) : gAndV a b δ = r := by
  unfold gAndV
  rw [h1]
  exact h2
theorem andV_eqF {a b : GE} {δ : Sl} (h1 : a δ = .ok (.own (.p (.bl false)))) : gAndV a b δ = .ok (.own (.p (.bl false))) := by
  unfold gAndV
  rw [h1]
  rfl
theorem orV_eqT {a b : GE} {δ : Sl} (h1 : a δ = .ok (.own (.p (.bl true)))) : gOrV a b δ = .ok (.own (.p (.bl true))) := by
  unfold gOrV
  rw [h1]
  rfl
theorem orV_eqF {a b : GE} {δ : Sl} {r : Rn Unit R} (h1 : a δ = .ok (.own (.p (.bl false)))) (h2 : b δ = r) : gOrV a b δ = r := by
  unfold gOrV
  rw [h1]
  exact h2
theorem or_eqF {a b : GT} {δ : Sl} {r : Rn Unit Bool} (h1 : a δ = .ok false) (h2 : b δ = r) : gOr a b δ = r := by
  unfold gOr
  rw [h1]
  exact h2
theorem or_eqT {a b : GT} {δ : Sl} (h1 : a δ = .ok true) : gOr a b δ = .ok true := by
  unfold gOr
  rw [h1]
  rfl
theorem and_eqT {a b : GT} {δ : Sl} {r : Rn Unit Bool} (h1 : a δ = .ok true) (h2 : b δ = r) : gAnd a b δ = r := by
  unfold gAnd
  rw [h1]
  exact h2
theorem and_eqF {a b : GT} {δ : Sl} (h1 : a δ = .ok false) : gAnd a b δ = .ok false := by
  unfold gAnd
  rw [h1]
  rfl
theorem not_eq {a : GT} {δ : Sl} {k : Bool} (h1 : a δ = .ok k) : gNot a δ = .ok (!k) := by
  unfold gNot
  rw [h1]
  rfl
theorem tru_eq {a : GE} {δ : Sl} {k : Bool} (h : a δ = .ok (.own (.p (.bl k)))) : gTru a δ = .ok k := by
  unfold gTru
  rw [h]
  rfl
theorem if_eq {t : GT} {a b : GE} {δ : Sl} {k : Bool} {r : Rn Unit R} (h : t δ = .ok k) (h2 : (if k = true then a δ else b δ) = r) : gIf t a b δ = r := by
  unfold gIf
  rw [h]
  exact h2
theorem call_eq {f : List D → Rn Unit R} {gs : GA} {δ : Sl} {rs : List R} {r : Rn Unit R} (h1 : gs δ = .ok rs) (h2 : f (rs.map R.d) = r) : gCall f gs δ = r := by
  unfold gCall
  rw [h1]
  exact h2
def signedF : Fn := fnD 2 (gRet (gOp2 iSub (gFn 2 takeF (gCons (gVar 0) (gCons (gOp2 fAdd (gOp2 fMul (gC (.int 2)) (gVar 1)) (gC (.int 1))) gNil))) (gVar 1)))
theorem signed_wp (m : Int) (h0 : 0 ≤ m) (h1 : m < 2 ^ 240) : Wp (signedF [.orc, .p (.int m)]) (fun d => ∃ i : Int, -m ≤ i ∧ i ≤ m ∧ d = .p (.int i)) (fun _ _ => False) := by
  have cm : CMulW 2 m := Z.cmul (j := 2) (k := 240) ⟨by decide⟩ (Z.of (by omega) h1)
  refine fn_wp (w_ret (w_op2 (draw_eq (n := 2 * m + 1) (by omega) (by omega) ?_ fun i h2 h3 => ?_)))
  · have e : gOp2 fMul (gC (.int 2)) (gVar 1) (startS 2 [.orc, .p (.int m)]) = .ok (.own (.p (.int (2 * m)))) := by
      show (if CMulW 2 m then _ else _) = _
      rw [if_pos cm]
    have e2 : gOp2 fAdd (gOp2 fMul (gC (.int 2)) (gVar 1)) (gC (.int 1)) (startS 2 [.orc, .p (.int m)]) = .ok (.own (.p (.int (2 * m + 1)))) := op2_eq e rfl rfl
    unfold gCons
    rw [e2]
    rfl
  · exact w_of (v := .own (.p (.int m))) rfl (w_of (v := .own (.p (.int (i - m)))) rfl ⟨_, rfl, i - m, by omega, by omega, rfl⟩)
/-! ### Euclid -/
def divisorG : GS := gSeq (gSet 0 (gCall fAbs (gCons (gVar 0) gNil)))
  (gSeq (gSet 1 (gCall fAbs (gCons (gVar 1) gNil)))
  (gSeq (fun δ => gWhile (gTB (gOp2 (fB fGt) (gVar 1) (gC (.int 0)))) (gPar 0 1 (gCons (gVar 1) (gCons (gOp2 fMod (gCall fInt1 (gCons (gVar 0) gNil)) (gVar 1)) gNil))) ((fuelAt 1 1) δ) δ)
  (gRetV 0)))
theorem while_tt {gt : GT} {g : GS} {n : Nat} {δ δ' : Sl} {r : Rn Sl Fl} (h : gt δ = .ok true) (w : g δ = .ok (.nx δ')) (k : gWhile gt g n δ' = r) : gWhile gt g (n + 1) δ = r := by
  unfold gWhile lift
  rw [h]
  show ((g δ).bind _) = r
  rw [w]
  exact k
theorem while_ff {gt : GT} {g : GS} {n : Nat} {δ : Sl} (h : gt δ = .ok false) : gWhile gt g (n + 1) δ = .ok (.nx δ) := by
  unfold gWhile lift
  rw [h]
  rfl
theorem euclid : ∀ (n a b : Nat) (ss : Sl), b ≤ n → gWhile (gTB (gOp2 (fB fGt) (gVar 1) (gC (.int 0)))) (gPar 0 1 (gCons (gVar 1) (gCons (gOp2 fMod (gCall fInt1 (gCons (gVar 0) gNil)) (gVar 1)) gNil))) (n + 1) (.own (.p (.int (a : Int))) :: .own (.p (.int (b : Int))) :: ss) =
    .ok (.nx (.own (.p (.int ((Nat.gcd a b : Nat) : Int))) :: .own (.p (.int 0)) :: ss))
  | n, a, 0, ss, _ => by
    rw [Nat.gcd_zero_right]
    exact while_ff rfl
  | n, a, b + 1, ss, h => by
    obtain ⟨m, rfl⟩ : ∃ m, n = m + 1 := ⟨n - 1, by omega⟩
    have e : Nat.gcd a (b + 1) = Nat.gcd (b + 1) (a % (b + 1)) := by
      rw [Nat.gcd_comm a, Nat.gcd_rec (b + 1) a, Nat.gcd_comm]
    have lt := Nat.mod_lt a (show 0 < b + 1 by omega)
    rw [e]
    refine while_tt (δ' := .own (.p (.int ((b + 1 : Nat) : Int))) :: .own (.p (.int ((a % (b + 1) : Nat) : Int))) :: ss) ?_ ?_ (euclid m (b + 1) (a % (b + 1)) ss (by omega))
    · show (fB fGt (.p (.int ((b + 1 : Nat) : Int))) (.p (.int 0))).bind _ = _
      have : fGt (.p (.int ((b + 1 : Nat) : Int))) (.p (.int 0)) = .ok true := by
        show Rn.ok _ = _
        have hh : (0 : Int) < ((b + 1 : Nat) : Int) := by omega
        simp [hh]
      rw [fB_eq this]
      rfl
    · have e2 : gOp2 fMod (gCall fInt1 (gCons (gVar 0) gNil)) (gVar 1) (.own (.p (.int (a : Int))) :: .own (.p (.int ((b + 1 : Nat) : Int))) :: ss) = .ok (.own (.p (.int ((a % (b + 1) : Nat) : Int)))) := by
        refine op2_eq (x := .own (.p (.int (a : Int)))) (y := .own (.p (.int ((b + 1 : Nat) : Int)))) rfl rfl ?_
        show (if 0 < ((b + 1 : Nat) : Int) then _ else _) = _
        rw [if_pos (by omega), Int.natCast_emod]
      have e3 := cons_eq (a := gVar 1) (r := .own (.p (.int ((b + 1 : Nat) : Int)))) rfl (cons_eq e2 (rfl : gNil (.own (.p (.int (a : Int))) :: .own (.p (.int ((b + 1 : Nat) : Int))) :: ss) = .ok []))
      unfold gPar lift
      rw [e3]
      rfl
theorem divisor_eq (a b : Int) : fnD 2 divisorG [.p (.int a), .p (.int b)] = .ok (.p (.int ((Nat.gcd a.natAbs b.natAbs : Nat) : Int))) := by
  have ab : ∀ x : Int, (if x < 0 then -x else x) = ((x.natAbs : Nat) : Int) := fun x => by split <;> omega
  refine fn_eq (seq_eq (δ' := [.own (.p (.int (a.natAbs : Int))), .bor none (.p (.int b))]) ?_ (seq_eq (δ' := [.own (.p (.int (a.natAbs : Int))), .own (.p (.int (b.natAbs : Int)))]) ?_ (seq_eq (euclid b.natAbs a.natAbs b.natAbs [] (Nat.le_refl _)) rfl)))
  · rw [← ab a]; rfl
  · rw [← ab b]; rfl
end DL
/-! DLx: range downwards; another Euclid; shifts. -/
namespace DL
open PySem PySem.Spec PyProof.Rows L2
section
variable {K : PySem.W.Frag} {H0 H : Hp}
theorem Walk.rangeC (lo c : Int) (n : Nat) : Walk K H0 H (Itc lo c n) ((List.range n).map fun (i : Nat) => P.int (lo + (i : Int) * c)) := by
  refine ⟨fun _ => none, (fun _ _ z => by cases z), (fun _ z => absurd rfl z), fun H' _ i => ⟨fun p e => ?_, fun h => (by have h' : n ≤ i := (by simpa using h); exact h')⟩⟩
  simp only [List.getElem?_map, Option.map_eq_some_iff] at e
  obtain ⟨j, ej, rfl⟩ := e
  obtain ⟨hj, ej⟩ := List.getElem?_eq_some_iff.mp ej
  simp at hj ej
  subst ej
  refine ⟨hj, fun x H'' y => ?_⟩
  obtain ⟨rfl, rfl⟩ := y
  exact ⟨Same.refl _, rfl⟩
end
/-- lo, lo - 1, .., hi + 1 -/
def rangeN (lo hi : Int) : List P := (List.range (lo - hi).toNat).map fun (i : Nat) => P.int (lo + (i : Int) * (-1))
def fRange3 : List D → Rn Unit (List P)
  | [.p (.int i), .p (.int j), .p (.int c)] => if c = -1 ∧ -(2 ^ 62) ≤ i ∧ i < 2 ^ 62 ∧ -(2 ^ 62) ≤ j ∧ j < 2 ^ 62 then .ok (rangeN i j) else .bad
  | _ => .bad
section
variable {W : WX} {X : Cx} {a b c e tg : Expr} {gs : GA} {p pos : Pos}
theorem di_range3 (hm : X.mg "range" = none) (ha : DA W X [a, b, c] gs) (hg : Gl X "range" := by rfl) (hs : starEach [a, b, c] X.env = (false, eval a X.env) :: starEach [b, c] X.env := by rfl) (hpl : (backTo pos (starEach [b, c] X.env)).any (·.1) = false := by rfl) : DI W X tg (.Call (.Name "range" p) [a, b, c] [] pos) (gRangeI fRange3 gs) := by
  refine PI.imp (pi_range3 hg hm ha hs hpl) fun σ H Rk ⟨B, Rg, δ, S0, w⟩ => ?_
  refine ⟨B, Rg, δ, S0, Rn.wp_mono (Rn.wp_bind.mp w) (fun rs q vs H1 s1 ra => ?_) fun _ _ q => q⟩
  obtain ⟨fp, r, _⟩ := ra
  have lk := r.look
  generalize rs.map R.d = ds at lk q
  unfold fRange3 at q
  split at q
  · rename_i i j k
    obtain ⟨v, r, rfl, ⟨fp1, q1⟩, u, r', rfl, ⟨gp, q2⟩, w, r'', rfl, ⟨hp, q3⟩, rfl⟩ := lk
    obtain rfl : v = .int i := q1.1
    obtain rfl : u = .int j := q2.1
    obtain rfl : w = .int k := q3.1
    split at q
    · rename_i hz
      obtain ⟨rfl, h1, h2, h3, h4⟩ := hz
      exact ⟨i, j, -1, _, rfl, RgC.neg h1 h2 h3 h4, q _ H1 s1 (Walk.rangeC _ _ _)⟩
    · exact q.elim
  · exact q.elim
end
/-- a slot with an int -/
def IsI (s : S) (a : Int) : Prop := s = .own (.p (.int a)) ∨ s = .bor none (.p (.int a))
theorem euclidN : ∀ (n a b : Nat) (s0 s1 : S) (ss : Sl), IsI s0 (a : Int) → IsI s1 (b : Int) → b ≤ n → ∃ s0' s1', IsI s0' ((Nat.gcd a b : Nat) : Int) ∧
    gWhile (gTB (gOp2 (fB (fEqB true)) (gVar 1) (gC (.int 0)))) (gPar 0 1 (gCons (gVar 1) (gCons (gOp2 fMod (gCall fInt1 (gCons (gVar 0) gNil)) (gVar 1)) gNil))) (n + 1) (s0 :: s1 :: ss) = .ok (.nx (s0' :: s1' :: ss))
  | n, a, 0, s0, s1, ss, h0, h1, _ => by
    rw [Nat.gcd_zero_right]
    refine ⟨s0, s1, h0, while_ff ?_⟩
    rcases h1 with rfl | rfl <;> rfl
  | n, a, b + 1, s0, s1, ss, h0, h1, h => by
    obtain ⟨m, rfl⟩ : ∃ m, n = m + 1 := ⟨n - 1, by omega⟩
    have e : Nat.gcd a (b + 1) = Nat.gcd (b + 1) (a % (b + 1)) := by
      rw [Nat.gcd_comm a, Nat.gcd_rec (b + 1) a, Nat.gcd_comm]
    have lt := Nat.mod_lt a (show 0 < b + 1 by omega)
    rw [e]
    obtain ⟨t0, t1, i0, w⟩ := euclidN m (b + 1) (a % (b + 1)) (.own (.p (.int ((b + 1 : Nat) : Int)))) (.own (.p (.int ((a % (b + 1) : Nat) : Int)))) ss (.inl rfl) (.inl rfl) (by omega)
    refine ⟨t0, t1, i0, while_tt (δ' := .own (.p (.int ((b + 1 : Nat) : Int))) :: .own (.p (.int ((a % (b + 1) : Nat) : Int))) :: ss) ?_ ?_ w⟩
    · have hv : gVar 1 (s0 :: s1 :: ss) = .ok (.own (.p (.int ((b + 1 : Nat) : Int)))) := by rcases h1 with rfl | rfl <;> rfl
      have hk : decide (((b + 1 : Nat) : Int) ≠ 0) = true := decide_eq_true (by omega)
      refine tb_eq (op2_eq hv rfl ?_)
      show fB (fEqB true) (.p (.int ((b + 1 : Nat) : Int))) (.p (.int 0)) = _
      rw [ne_ints, hk]
    · have hv : gVar 1 (s0 :: s1 :: ss) = .ok (.own (.p (.int ((b + 1 : Nat) : Int)))) := by rcases h1 with rfl | rfl <;> rfl
      have hu : gVar 0 (s0 :: s1 :: ss) = .ok (.own (.p (.int (a : Int)))) := by rcases h0 with rfl | rfl <;> rfl
      have e2 : gOp2 fMod (gCall fInt1 (gCons (gVar 0) gNil)) (gVar 1) (s0 :: s1 :: ss) = .ok (.own (.p (.int ((a % (b + 1) : Nat) : Int)))) := by
        refine op2_eq (x := .own (.p (.int (a : Int)))) (call_eq (cons_eq hu (rfl : gNil (s0 :: s1 :: ss) = .ok [])) rfl) hv ?_
        show (if 0 < ((b + 1 : Nat) : Int) then _ else _) = _
        rw [if_pos (by omega), Int.natCast_emod]
      have e3 := cons_eq hv (cons_eq e2 (rfl : gNil (s0 :: s1 :: ss) = .ok []))
      unfold gPar lift
      rw [e3]
      rfl
theorem Z.bits {k : Nat} {x : Int} (h : Z k x) : Builtin.Int.intBits x ≤ k + 1 := by
  have b : Builtin.Int.intBits x ≤ x.natAbs.log2 + 1 := by
    unfold Builtin.Int.intBits
    split <;> omega
  have := h.log
  omega
theorem Z.cshl {k : Nat} {x n : Int} (h : Z k x) (h0 : 0 ≤ n) (hn : (k : Int) + 1 + n ≤ 2 ^ 27) : CShl x n := ⟨h0, by
  have := h.bits
  omega⟩
theorem Z.pow2 {k n : Nat} (h : n < k) : Z k ((2 : Int) ^ n) := ⟨by
  rw [show ((2 : Int) ^ n) = (((2 : Nat) ^ n : Nat) : Int) by rw [Int.natCast_pow]; rfl, Int.natAbs_natCast]
  exact Nat.pow_lt_pow_right (by decide) h⟩
end DL
/-! DLy: texts: split, str, int of a text, f-strings, text times number. -/
namespace DL
open PySem PySem.Spec PyProof.Rows L2
theorem RepPs.strs {K : PySem.W.Frag} {H : Hp} : ∀ ys : List Str, RepPs K H (ys.map P.str) (ys.map V.str)
  | [] => rfl
  | y :: ys => ⟨.str y, ys.map V.str, rfl, rfl, RepPs.strs ys⟩
def fSplit (a : Str) : D → Rn Unit R
  | .p (.str b) => if (b.length == 0) = false ∧ a.length + 2 ≤ sizeLine then .ok (.own (.lst ((Txt.split a b).map P.str))) else .bad
  | _ => .bad
def gSplit (go ge : GE) : GE := fun δ => (go δ).bind fun s => match s.d with
  | .p (.str a) => (ge δ).bind fun r => fSplit a r.d
  | _ => .bad
section
variable {W : WX} {X : Cx} {a b e o tg iter : Expr} {es : List Expr} {ga gb gc go ge : GE} {gs : GA} {pos p p2 : Pos}
theorem de_split {apos : Pos} (ho : DE W X o go) (he : DE W X e ge) (hs : starEach [e] X.env = [(false, eval e X.env)] := by rfl) (hbase : attributeBase o "split" X.env (eval o X.env) = eval o X.env := by rfl) (hline : (apos.endLine == pos.line) = true := by rfl) :
    DE W X (.Call (.Attribute o "split" apos) [e] [] pos) (gSplit go ge) := by
  refine PE.imp (pe_split ho he hs hbase hline) fun σ H Q ⟨B, Rg, δ, S0, w⟩ => ?_
  refine tD_val S0 w fun r1 v1 H1 s1 rv1 S1 w1 => ?_
  split at w1
  · rename_i a ea
    obtain rfl : v1 = .str a := rv1.getP ea
    refine ⟨⟨a, rfl⟩, ?_⟩
    refine tD_val S1 w1 fun r2 v2 H2 s2 rv2 S2 w2 => ?_
    unfold fSplit at w2
    split at w2
    · rename_i b eb
      obtain rfl : v2 = .str b := rv2.getP eb
      split at w2
      · rename_i hz
        refine ⟨a, b, rfl, rfl, hz.1, hz.2, fun p hp => ?_⟩
        exact up_lst w2 (RepPs.strs _) hp
      · exact w2.elim
    · exact w2.elim
  · exact w1.elim
/-- str(x) -/
def fStrc : List D → Rn Unit R
  | [.p (.int i)] => if i.natAbs.log2 < 1920 then .ok (.own (.p (.str (Str.ofString (toString i))))) else .bad
  | [.p (.str a)] => .ok (.own (.p (.str a)))
  | _ => .bad
theorem cg_strc {K : PySem.W.Frag} : CallG K (fun xs H Q => (∃ i, xs = [V.int i] ∧ i.natAbs.log2 < 1920 ∧ Q (.str (Str.ofString (toString i))) H) ∨ ∃ a, xs = [V.str a] ∧ Q (.str a) H) fStrc := by
  intro H ds vs Q E hl h
  unfold fStrc at h
  split at h
  · rename_i i
    obtain ⟨v, fp, rfl, r⟩ := hl.one
    obtain rfl : v = .int i := r.1
    split at h
    · rename_i hz
      exact .inl ⟨i, rfl, hz, RepP.up h rfl⟩
    · exact h.elim
  · rename_i a
    obtain ⟨v, fp, rfl, r⟩ := hl.one
    obtain rfl : v = .str a := r.1
    exact .inr ⟨a, rfl, RepP.up h rfl⟩
  · exact h.elim
theorem call_strc : CallR X (.type "str") (fun xs H Q => (∃ i, xs = [V.int i] ∧ i.natAbs.log2 < 1920 ∧ Q (.str (Str.ofString (toString i))) H) ∨ ∃ a, xs = [V.str a] ∧ Q (.str a) H) := fun pins s σ H xs us Q I r h =>
  h.elim (fun q => call_str_int pins s σ H xs us Q I r q) fun q => SkE.call_str_str pins s σ H xs us Q I r q
theorem de_strc (hm : X.mg "str" = none) (ha : DA W X (e :: es) gs) (hg : Gl X "str" := by rfl) (he : starEach (e :: es) X.env = (false, eval e X.env) :: starEach es X.env := by rfl) (hpl : (backTo pos (starEach es X.env)).any (·.1) = false := by rfl) : DE W X (.Call (.Name "str" p) (e :: es) [] pos) (gCall fStrc gs) :=
  de_callTy call_strc cg_strc hm (by decide +kernel) ha hg (he := he) (hpl := hpl)
/-- int(x) -/
def fIntT : List D → Rn Unit R
  | [.p (.str a)] => match intText? a with
    | some n => if a.length ≤ 640 then .ok (.own (.p (.int n))) else .bad
    | none => .bad
  | ds => fInt1 ds
def rIntT : List V → Hp → VK → Prop := fun xs H Q => ((∃ i, xs = [.int i] ∧ Q (.int i) H) ∨ ∃ k, xs = [.bl k] ∧ Q (.int (if k then 1 else 0)) H) ∨ (∃ a n, xs = [.str a] ∧ PySem.intText? a = some n ∧ a.length ≤ 640 ∧ Q (.int n) H)
theorem cg_intT {K : PySem.W.Frag} : CallG K rIntT fIntT := by
  intro H ds vs Q E hl h
  unfold fIntT at h
  split at h
  · rename_i a
    obtain ⟨v, fp, rfl, r⟩ := hl.one
    obtain rfl : v = .str a := r.1
    split at h
    · rename_i n en
      split at h
      · rename_i hz
        exact .inr ⟨a, n, rfl, en, hz, RepP.up h rfl⟩
      · exact h.elim
    · exact h.elim
  · exact .inl (cg_int H _ vs Q E hl h)
theorem call_intT : CallR X (.type "int") rIntT := fun pins s σ H xs us Q I r h =>
  h.elim (fun q => call_int1 pins s σ H xs us Q I r q) fun q => call_int_str pins s σ H xs us Q I r q
theorem de_intT (hm : X.mg "int" = none) (ha : DA W X (e :: es) gs) (hg : Gl X "int" := by rfl) (he : starEach (e :: es) X.env = (false, eval e X.env) :: starEach es X.env := by rfl) (hpl : (backTo pos (starEach es X.env)).any (·.1) = false := by rfl) : DE W X (.Call (.Name "int" p) (e :: es) [] pos) (gCall fIntT gs) :=
  de_callTy call_intT cg_intT hm (by decide +kernel) ha hg (he := he) (hpl := hpl)
theorem fold_size (a : Array Nat) : ∀ (n : Nat) (acc : Array Nat), ((List.replicate n a).foldl (· ++ ·) acc).size = acc.size + n * a.size
  | 0, acc => by simp
  | n + 1, acc => by
    rw [List.replicate_succ, List.foldl_cons, fold_size a n (acc ++ a), Array.size_append, Nat.add_mul]
    omega
/-- a text times a number -/
def fMulS : D → D → Rn Unit R
  | .p (.str x), .p (.int k) => if 2 ≤ k ∧ k ≤ 1000 ∧ 1 ≤ x.length ∧ x.length ≤ 1000 then .ok (.own (.p (.str ⟨(List.replicate k.toNat x.cps).foldl (· ++ ·) #[]⟩))) else .bad
  | x, y => fMul x y
def rMulS : R2 := fun x y H Q => ∃ z k, x = .str z ∧ y = .int k ∧ (2 ≤ k ∧ k ≤ 1000 ∧ 1 ≤ z.length ∧ z.length ≤ 1000) ∧ Q (.str ⟨(List.replicate k.toNat z.cps).foldl (· ++ ·) #[]⟩) H
theorem op_mulS : OpR X (binaryOp .Mult) rMulS := by
  intro pins s σ H x y v u Q I rx ry h
  obtain ⟨z, k, rfl, rfl, ⟨h1, h2, h3, h4⟩, q⟩ := h
  obtain ⟨t, rfl⟩ := rx
  obtain ⟨t2, rfl⟩ := ry
  have e1 : ¬ k < 1 := by omega
  have e2 : (k == 1 || z.length == 0) = false := by
    rw [Bool.or_eq_false_iff]
    exact ⟨by simp; omega, by simp; omega⟩
  refine PySem.P.mul_str ?_ (fun _ _ => ?_) (fun _ _ => ?_) ?_
  · rw [decide_eq_false (by omega), decide_eq_false (by omega)]; rfl
  · have : (1000 : Int) ≤ (2 ^ 63 - 1) / k := (Int.le_ediv_iff_mul_le (by omega)).mpr (by omega)
    omega
  · have : z.length * k.toNat ≤ 1000 * 1000 := Nat.mul_le_mul h4 (by omega)
    generalize z.length * k.toNat = T at *
    show decide _ = false
    have hs := sizeLine_eq
    exact decide_eq_false (by omega)
  · rw [if_neg e1, e2, if_neg (by decide)]
    have hz : (⟨(List.replicate k.toNat z.cps).foldl (· ++ ·) #[]⟩ : Str).length ≤ sizeLine := by
      have e := fold_size z.cps k.toNat #[]
      have : k.toNat * z.cps.size ≤ 1000 * 1000 := Nat.mul_le_mul (by omega) h4
      have hs := sizeLine_eq
      show ((List.replicate k.toNat z.cps).foldl (· ++ ·) #[]).size ≤ sizeLine
      rw [e]
      generalize k.toNat * z.cps.size = T at *
      simp
      omega
    exact ⟨hz, .str _, H, I.tok _, ⟨_, rfl⟩, q⟩
theorem og_mulS {K : PySem.W.Frag} : OpG K (fun x y H Q => rMulS x y H Q ∨ rRep x y H Q ∨ rI CMulW (fun i j => .int (i * j)) x y H Q) fMulS := by
  intro H x y v u fx fy Q E rx ry h
  unfold fMulS at h
  split at h
  · rename_i z k
    obtain rfl : v = .str z := rx.1
    obtain rfl : u = .int k := ry.1
    split at h
    · rename_i hz
      exact .inl ⟨z, k, rfl, rfl, hz, RepP.up h rfl⟩
    · exact h.elim
  · exact .inr (og_mul H x y v u fx fy Q E rx ry h)
theorem de_mulS (ha : DE W X a ga) (hb : DE W X b gb) : DE W X (.BinOp a .Mult b pos) (gOp2 fMulS ga gb) := de_op2 (op_mulS.or op_mulA) og_mulS ha hb
/-! ### f-strings -/
def gFmt (g : GE) : GE := fun δ => (g δ).bind fun r => match r.d with
  | .p (.str y) => if y.length ≤ sizeLine then .ok (.own (.p (.str y))) else .bad
  | .p (.int i) => if i.natAbs.log2 < 1920 then .ok (.own (.p (.str (Str.ofString (toString i))))) else .bad
  | _ => .bad
theorem de_fmt (he : DE W X e ge) : DE W X (.FormattedValue e (-1) none pos) (gFmt ge) := by
  refine PE.imp (pe_fmt he) fun σ H Q ⟨B, Rg, δ, S0, w⟩ => ?_
  refine ⟨B, Rg, δ, S0, Rn.wp_mono (Rn.wp_bind.mp w) (fun r q v H1 s1 rv => ?_) fun _ _ q => q⟩
  split at q
  · rename_i y ey
    obtain rfl : v = .str y := rv.getP ey
    split at q
    · rename_i hz
      exact .inl ⟨y, rfl, hz, q _ H1 s1 (RepR.plain rfl)⟩
    · exact q.elim
  · rename_i i ei
    obtain rfl : v = .int i := rv.getP ei
    split at q
    · rename_i hz
      exact .inr ⟨i, rfl, hz, q _ H1 s1 (RepR.plain rfl)⟩
    · exact q.elim
  · exact q.elim
inductive DJ (W : WX) (X : Cx) : List Expr → List GE → Prop where
  | nil : DJ W X [] []
  | cons {e : Expr} {g : GE} {es : List Expr} {gs : List GE} (h : DE W X e g) (r : DJ W X es gs) : DJ W X (e :: es) (g :: gs)
theorem DJ.pj {es : List Expr} {gs : List GE} (h : DJ W X es gs) : PJ X es (gs.map (tD (dc X W))) := by
  induction h with
  | nil => exact .nil
  | cons h _ ih => exact .cons h ih
def gJl : List GE → Str → Sl → Rn Unit Str
  | [], acc, _ => .ok acc
  | g :: gs, acc, δ => (g δ).bind fun r => match r.d with
    | .p (.str y) => if (acc ++ y).length ≤ sizeLine then gJl gs (acc ++ y) δ else .bad
    | _ => .bad
def gJs (gs : List GE) : GE := fun δ => (gJl gs Str.empty δ).bind fun s => .ok (.own (.p (.str s)))
theorem js_of {c : DC} {B : Hp} {Rg : Rgs c.ex} {σ : L2.St} {δ : Sl} {H0 : Hp} : ∀ (gs : List GE) (acc : Str) (H : Hp) (Q : Str → Hp → Prop), SRel c.K B Rg σ H δ → Same H0 H →
    (gJl gs acc δ).wp (fun s => ∀ H', Same H0 H' → Q s H') (fun cl _ => ∀ C H', c.mg cl = some (.ref C) → Same H0 H' → c.W (.ref C) none σ H') → tJs (gs.map (tD c)) acc σ H Q
  | [], acc, H, Q, S0, s0, w => w H s0
  | g :: gs, acc, H, Q, S0, s0, w => by
    refine ⟨B, Rg, δ, S0, Rn.wp_mono (Rn.wp_bind.mp w) (fun r q v H1 s1 rv => ?_) fun cl _ q C H' hm s => q C H' hm (s0.trans s)⟩
    split at q
    · rename_i y ey
      obtain rfl : v = .str y := rv.getP ey
      split at q
      · rename_i hz
        exact ⟨y, rfl, hz, js_of gs (acc ++ y) H1 Q (S0.grow s1) (s0.trans s1) q⟩
      · exact q.elim
    · exact q.elim
theorem de_js {v1 v2 : Expr} {rest : List Expr} {gs : List GE} (h : DJ W X (v1 :: v2 :: rest) gs) : DE W X (.JoinedStr (v1 :: v2 :: rest) pos) (gJs gs) := by
  refine PE.imp (pe_joined h.pj) fun σ H Q ⟨B, Rg, δ, S0, w⟩ => ?_
  refine js_of gs Str.empty H _ S0 (Same.refl H) (Rn.wp_mono (Rn.wp_bind.mp w) (fun s q H' s1 => q _ H' s1 (RepR.plain rfl)) fun _ _ q => q)
end
end DL
/-! DLz: ord, index in a text. -/
namespace DL
open PySem PySem.Spec PyProof.Rows L2
section
variable {W : WX} {X : Cx} {a b e o tg iter : Expr} {es : List Expr} {ga gb gc go ge : GE} {gs : GA} {pos p p2 : Pos}
def fOrd : List D → Rn Unit R
  | [.p (.str x)] => if x.length = 1 then .ok (.own (.p (.int (x.cps.getD 0 0 : Nat)))) else .bad
  | _ => .bad
theorem cg_ord {K : PySem.W.Frag} : CallG K (fun xs H Q => ∃ x, xs = [V.str x] ∧ x.length = 1 ∧ Q (.int (x.cps.getD 0 0 : Nat)) H) fOrd := by
  intro H ds vs Q E hl h
  unfold fOrd at h
  split at h
  · rename_i x
    obtain ⟨v, fp, rfl, r⟩ := hl.one
    obtain rfl : v = .str x := r.1
    split at h
    · rename_i hz
      exact ⟨x, rfl, hz, RepP.up h rfl⟩
    · exact h.elim
  · exact h.elim
theorem de_ord (hm : X.mg "ord" = none) (ha : DA W X (e :: es) gs) (hg : Gl X "ord" := by rfl) (he : starEach (e :: es) X.env = (false, eval e X.env) :: starEach es X.env := by rfl) (hpl : (backTo pos (starEach es X.env)).any (·.1) = false := by rfl) : DE W X (.Call (.Name "ord" p) (e :: es) [] pos) (gCall fOrd gs) :=
  de_callB call_ord cg_ord hm (by decide +kernel) ha hg (he := he) (hpl := hpl)
/-- s.index(y, i), found -/
def gIdx (go : GE) (gs : GA) : GE := fun δ => (go δ).bind fun s => match s.d with
  | .p (.str a) => (gs δ).bind fun rs => match rs.map R.d with
    | [.p (.str b), .p (.int i)] => match Txt.indexFrom a b i with
      | some k => .ok (.own (.p (.int (k : Nat))))
      | none => .bad
    | _ => .bad
  | _ => .bad
theorem de_idx {apos : Pos} (hc : X.calm = true) (tk : Takes X W) (ho : DE W X o go) (ha : DA W X (e :: es) gs)
    (hbase : attributeBase o "index" X.env (eval o X.env) = eval o X.env := by rfl)
    (hfew : ((backTo pos (starEach (e :: es) X.env)).all (fun x => !x.1) && (backToKw pos (keywordEach [] X.env)).all (fun x => x.1.isSome)
      && decide ((e :: es).length + ([] : List Keyword).length + (if ([] : List Keyword).isEmpty then 0 else 1) < 30)) = true := by rfl)
    (hline : (apos.endLine == pos.line) = true := by rfl) (hs : starEach (e :: es) X.env = (false, eval e X.env) :: starEach es X.env := by rfl) (hplain : (backTo pos (starEach es X.env)).any (·.1) = false := by rfl) :
    DE W X (.Call (.Attribute o "index" apos) (e :: es) [] pos) (gIdx go gs) := by
  refine PE.imp (pe_bmS PySem.F.plainAttrs_str PySem.F.slot_str_index PySem.F.type_str_index (mt_indexFromX hc tk) ho ha hbase hfew hline hs hplain) fun σ H Q ⟨B, Rg, δ, S0, w⟩ => ?_
  refine tD_val S0 w fun r1 v1 H1 s1 rv1 S1 w1 => ?_
  split at w1
  · rename_i a ea
    obtain rfl : v1 = .str a := rv1.getP ea
    refine ⟨rfl, ?_⟩
    refine ⟨B, Rg, δ, S1, Rn.wp_mono (Rn.wp_bind.mp w1) (fun rs q vs H2 s2 ra => ?_) fun _ _ q C H' hm s => q C H' hm s⟩
    obtain ⟨fp, q1, _⟩ := ra
    have lk := q1.look
    generalize rs.map R.d = ds at lk q
    split at q
    · rename_i b i
      obtain ⟨v, u, fp1, gp, rfl, r1, r2⟩ := lk.two
      obtain rfl : v = .str b := r1.1
      obtain rfl : u = .int i := r2.1
      split at q
      · rename_i k ek
        refine ⟨a, b, i, rfl, rfl, fun k' e' => ?_, fun z => by rw [ek] at z; cases z⟩
        rw [ek] at e'
        obtain rfl := Option.some.inj e'
        exact q _ H2 s2 (RepR.plain rfl)
      · exact q.elim
    · exact q.elim
  · exact w1.elim
end
end DL
/-! DLza: a <= b <= c <= d; written dicts of the top. -/
namespace DL
open PySem PySem.Spec PyProof.Rows L2
section
variable {W : WX} {X : Cx} {a b c e : Expr} {ga gb gc gd : GE} {pos p p2 : Pos}
/-- a op1 b op2 c op3 d -/
def tChain3 (r r' r'' : R2) (ta tb tc td : TE) : TE := fun σ H Q => ta σ H fun x H1 => tb σ H1 fun y H2 => r x y H2 fun z H3 => ∃ k, z = .bl k ∧
  (if k = true then tc σ H3 fun w' H4 => r' y w' H4 (fun z H5 => ∃ k, z = .bl k ∧ (if k = true then td σ H5 fun u H6 => r'' w' u H6 Q else Q (.bl false) H5)) else Q (.bl false) H3)
theorem pe_chain3 {op op' op'' : CmpOp} {r r' r'' : R2} {d : Expr} {ta tb tc td : TE} (ho : OpR X (compareOp op) r) (ho' : OpR X (compareOp op') r') (ho'' : OpR X (compareOp op'') r'') (ha : PE X a ta) (hb : PE X b tb) (hc : PE X c tc) (hd : PE X d td)
    (hm : lastMarks [op, op', op''] [b, c, d] = false := by with_unfolding_all rfl) : PE X (.Compare a [op, op', op''] [b, c, d] pos) (tChain3 r r' r'' ta tb tc td) := by
  refine ⟨fun pins s σ H Q I h => ?_⟩
  refine Compare_chain (thn (ha.run pins s σ H _ I h) fun v s1 ⟨x, H1, I1, r1, q1⟩ => chain_link (thn (hb.run pins s1 σ H1 _ I1 q1) fun u s2 ⟨y, H2, I2, r2, q2⟩ =>
    thn (ho pins s2 σ H2 x y v u _ I2 r1 r2 q2) fun d s3 ⟨z, H3, I3, r3, k, e, q3⟩ => ?_)) hm
  subst e
  cases r3
  refine wpAny_truthy_bool ?_
  cases k with
  | false => exact ite_ff ⟨.bl false, H3, I3, rfl, q3⟩
  | true =>
    refine ite_tt (chain_link (thn (hc.run pins s3 σ H3 _ I3 q3) fun w' s4 ⟨z', H4, I4, r4, q4⟩ => thn (ho' pins s4 σ H4 y z' u w' _ I4 r2 r4 q4) fun d s5 ⟨z5, H5, I5, r5, k5, e5, q5⟩ => ?_))
    subst e5
    cases r5
    refine wpAny_truthy_bool ?_
    cases k5 with
    | false => exact ite_ff ⟨.bl false, H5, I5, rfl, q5⟩
    | true => exact ite_tt (chain_last (thn (hd.run pins s5 σ H5 _ I5 q5) fun u' s6 ⟨z6, H6, I6, r6, q6⟩ => ho'' pins s6 σ H6 z' z6 w' u' Q I6 r4 r6 q6))
def gChain3 (f f' f'' : D → D → Rn Unit Bool) (ga gb gc gd : GE) : GE := fun δ => (ga δ).bind fun x => (gb δ).bind fun y => (f x.d y.d).bind fun k => if k = true then (gc δ).bind fun z => (f' y.d z.d).bind fun k => if k = true then (gd δ).bind fun u => fB f'' z.d u.d else .ok (.own (.p (.bl false))) else .ok (.own (.p (.bl false)))
theorem chain3_of {r r' r'' : R2} {f f' f'' : D → D → Rn Unit Bool} (hf : OpG X.K r (fB f)) (hf' : OpG X.K r' (fB f')) (hf'' : OpG X.K r'' (fB f'')) (σ : L2.St) (H : Hp) (Q : VK) (h : tD (dc X W) (gChain3 f f' f'' ga gb gc gd) σ H Q) :
    tChain3 r r' r'' (tD (dc X W) ga) (tD (dc X W) gb) (tD (dc X W) gc) (tD (dc X W) gd) σ H Q := by
  obtain ⟨B, Rg, δ, S0, w⟩ := h
  refine tD_val S0 w fun r1 v1 H1 s1 rv1 S1 w1 => ?_
  refine tD_val S1 w1 fun r2 v2 H2 s2 rv2 S2 w2 => ?_
  obtain ⟨f1, q1⟩ := (rv1.grow s2).look
  obtain ⟨f2, q2⟩ := rv2.look
  refine hf H2 r1.d r2.d v1 v2 f1 f2 _ (fun cl _ => ∀ C H', (dc X W).mg cl = some (.ref C) → Same H2 H' → (dc X W).W (.ref C) none σ H') q1 q2 (Rn.wp_bind.mpr (Rn.wp_mono (Rn.wp_bind.mp w2) (fun k q v H3 s3 rv3 => ?_) fun _ _ q => q))
  obtain rfl : v = .bl k := rv3.getP rfl
  refine ⟨k, rfl, ?_⟩
  cases k with
  | false =>
    rw [if_neg (by decide)] at q ⊢
    exact q _ _ s3 (RepR.plain rfl)
  | true =>
    rw [if_pos rfl] at q ⊢
    refine tD_val (S2.grow s3) (Rn.wp_mono q (fun r q v H' s rv => q v H' (s3.trans s) (rv.back s3)) fun cl _ q C H' e s => q C H' e (s3.trans s)) fun r4 v4 H4 s4 rv4 S4 w4 => ?_
    obtain ⟨f4, q4⟩ := rv4.look
    obtain ⟨f2', q2'⟩ := ((rv2.grow s3).grow s4).look
    refine hf' H4 r2.d r4.d v2 v4 f2' f4 _ (fun cl _ => ∀ C H', (dc X W).mg cl = some (.ref C) → Same H4 H' → (dc X W).W (.ref C) none σ H') q2' q4 (Rn.wp_bind.mpr (Rn.wp_mono (Rn.wp_bind.mp w4) (fun k q v H5 s5 rv5 => ?_) fun _ _ q => q))
    obtain rfl : v = .bl k := rv5.getP rfl
    refine ⟨k, rfl, ?_⟩
    cases k with
    | false =>
      rw [if_neg (by decide)] at q ⊢
      exact q _ _ s5 (RepR.plain rfl)
    | true =>
      rw [if_pos rfl] at q ⊢
      refine tD_val (S4.grow s5) (Rn.wp_mono q (fun r q v H' s rv => q v H' (s5.trans s) (rv.back s5)) fun cl _ q C H' e s => q C H' e (s5.trans s)) fun r6 v6 H6 s6 rv6 S6 w6 => ?_
      obtain ⟨f6, q6⟩ := rv6.look
      obtain ⟨f4', q4'⟩ := ((rv4.grow s5).grow s6).look
      exact hf'' H6 r4.d r6.d v4 v6 f4' f6 Q _ q4' q6 w6
theorem de_chain3 {op op' op'' : CmpOp} {d : Expr} {r r' r'' : R2} {f f' f'' : D → D → Rn Unit Bool} (ho : OpR X (compareOp op) r) (hf : OpG X.K r (fB f)) (ho' : OpR X (compareOp op') r') (hf' : OpG X.K r' (fB f')) (ho'' : OpR X (compareOp op'') r'') (hf'' : OpG X.K r'' (fB f'')) (ha : DE W X a ga) (hb : DE W X b gb) (hc : DE W X c gc) (hd : DE W X d gd)
    (hm : lastMarks [op, op', op''] [b, c, d] = false := by with_unfolding_all rfl) : DE W X (.Compare a [op, op', op''] [b, c, d] pos) (gChain3 f f' f'' ga gb gc gd) := PE.imp (pe_chain3 ho ho' ho'' ha hb hc hd hm) (chain3_of hf hf' hf'')
end
/-! ### a written dict of the top, its keys texts -/
inductive DEnt (K : PySem.W.Frag) : List DictEntry → List (Str × P) → Prop
  | nil : DEnt K [] []
  | cons {e : DictEntry} {k : Str} {p : P} {es : List DictEntry} {t : List (Str × P)} (hk : ∃ tk, e.key = .str k tk) (hv : RepK K e.val p) (r : DEnt K es t) : DEnt K (e :: es) ((k, p) :: t)
theorem DEnt.find {K : PySem.W.Frag} {z : Str} : ∀ {es : List DictEntry} {t : List (Str × P)}, DEnt K es t → (match t.lookup z with
    | some p => ∃ e, es.find? (·.key.isStr z) = some e ∧ RepK K e.val p
    | none => es.find? (·.key.isStr z) = none ∧ es.any (·.refKey) = false)
  | _, _, .nil => ⟨rfl, rfl⟩
  | e :: es, (k, p) :: t, .cons ⟨tk, hk⟩ hv r => by
    have ih := DEnt.find (z := z) r
    have hs : e.key.isStr z = (k == z) := by rw [hk]; rfl
    rw [List.lookup_cons, List.find?_cons, hs]
    by_cases h : z = k
    · subst h
      have e1 : (z == z) = true := by simp
      rw [e1]
      exact ⟨e, rfl, hv⟩
    · have e1 : (z == k) = false := by simpa using h
      have e2 : (k == z) = false := by simpa using fun q : k = z => h q.symm
      rw [e1, e2]
      dsimp only
      cases hq : t.lookup z with
      | some p => rw [hq] at ih; exact ih
      | none =>
        rw [hq] at ih
        obtain ⟨h1, h2⟩ := ih
        refine ⟨h1, ?_⟩
        rw [List.any_cons, h2, Bool.or_false]
        show e.refKey = false
        unfold DictEntry.refKey
        rw [hk]
structure DictT (K : PySem.W.Frag) (w : World) (mg : Str → Option Value) (x : Str) (tab : List (Str × P)) : Prop where
  ex : ∃ d es n, mg x = some (.ref d) ∧ L2.KDict K w d es n ∧ DEnt K es.toList tab
theorem DictT.ns {K : PySem.W.Frag} {w : World} {d : Addr} {es : Array DictEntry} {n : Nat} {tab : List (Str × P)} (D : L2.KDict K w d es n) (E : DEnt K es.toList tab) (z : Str) : match tab.lookup z with
    | some p => ∃ u, PySem.W.nsIn K d z = some (some u) ∧ RepK K u p
    | none => PySem.W.nsIn K d z = some none := by
  have f := E.find (z := z)
  have un : PySem.W.nsIn K d z = (match es.toList.find? (·.key.isStr z) with
      | some e => some (some e.val)
      | none => if es.toList.any (·.refKey) then none else some none) := by
    unfold PySem.W.nsIn
    rw [D.at_]
    rfl
  split at f
  · obtain ⟨e, h1, h2⟩ := f
    exact ⟨e.val, by rw [un, h1], h2⟩
  · obtain ⟨h1, h2⟩ := f
    show PySem.W.nsIn K d z = some none
    rw [un, h1]
    dsimp only
    rw [h2]
    rfl
/-- e in x -/
def gInT (tab : List (Str × P)) (neg : Bool) (ga : GE) : GE := fun δ => (ga δ).bind fun r => match r.d with
  | .p (.str z) => .ok (.own (.p (.bl (if neg then !(tab.lookup z).isSome else (tab.lookup z).isSome))))
  | _ => .bad
/-- x[e] -/
def gItT (tab : List (Str × P)) (ga : GE) : GE := fun δ => (ga δ).bind fun r => match r.d with
  | .p (.str z) => match tab.lookup z with
    | some p => .ok (.own (.p p))
    | none => .bad
  | _ => .bad
section
variable {W : WX} {X : Cx} {a : Expr} {ga : GE} {pos p : Pos}
theorem de_inT {x : Str} {tab : List (Str × P)} (T : DictT X.K X.w X.mg x tab) (ha : DE W X a ga) (hg : Gl X x := by rfl) (hd : (x == ("__debug__" : Str)) = false := by decide) (hm : behindInMarks .In (.Name x p) = false := by rfl) : DE W X (.Compare a [.In] [.Name x p] pos) (gInT tab false ga) := by
  obtain ⟨d, es, n, e, kd, en⟩ := T.ex
  refine PE.imp (pe_cmpR (op_in_kd kd) ha (pe_glob (v := .ref d) hg e rfl hd) hm) fun σ H Q ⟨B, Rg, δ, S0, w⟩ => ?_
  refine tD_val S0 w fun r1 v1 H1 s1 rv1 S1 w1 => ?_
  split at w1
  · rename_i z ez
    obtain rfl : v1 = .str z := rv1.getP ez
    have ns := DictT.ns kd en z
    split at ns
    · rename_i q eq
      obtain ⟨u, h1, _⟩ := ns
      refine ⟨z, some u, rfl, rfl, h1, ?_⟩
      rw [eq] at w1
      exact RepP.up w1 rfl
    · rename_i eq
      refine ⟨z, none, rfl, rfl, ns, ?_⟩
      rw [eq] at w1
      exact RepP.up w1 rfl
  · exact w1.elim
theorem de_niT {x : Str} {tab : List (Str × P)} (T : DictT X.K X.w X.mg x tab) (ha : DE W X a ga) (hg : Gl X x := by rfl) (hd : (x == ("__debug__" : Str)) = false := by decide) (hm : behindInMarks .NotIn (.Name x p) = false := by rfl) : DE W X (.Compare a [.NotIn] [.Name x p] pos) (gInT tab true ga) := by
  obtain ⟨d, es, n, e, kd, en⟩ := T.ex
  refine PE.imp (pe_cmpR (op_notIn_kd kd) ha (pe_glob (v := .ref d) hg e rfl hd) hm) fun σ H Q ⟨B, Rg, δ, S0, w⟩ => ?_
  refine tD_val S0 w fun r1 v1 H1 s1 rv1 S1 w1 => ?_
  split at w1
  · rename_i z ez
    obtain rfl : v1 = .str z := rv1.getP ez
    have ns := DictT.ns kd en z
    split at ns
    · rename_i q eq
      obtain ⟨u, h1, _⟩ := ns
      refine ⟨z, some u, rfl, rfl, h1, ?_⟩
      rw [eq] at w1
      exact RepP.up w1 rfl
    · rename_i eq
      refine ⟨z, none, rfl, rfl, ns, ?_⟩
      rw [eq] at w1
      exact RepP.up w1 rfl
  · exact w1.elim
theorem de_itT {x : Str} {tab : List (Str × P)} (T : DictT X.K X.w X.mg x tab) (ha : DE W X a ga) (hg : Gl X x := by rfl) (hd : (x == ("__debug__" : Str)) = false := by decide) (hs : PlainIx a := by exact fun _ _ => rfl) : DE W X (.Subscript (.Name x p) a pos) (gItT tab ga) := by
  obtain ⟨d, es, n, e, kd, en⟩ := T.ex
  refine PE.imp (pe_ix ix_kdict (pe_glob (v := .ref d) hg e rfl hd) ha hs) fun σ H Q ⟨B, Rg, δ, S0, w⟩ => ?_
  refine tD_val S0 w fun r1 v1 H1 s1 rv1 S1 w1 => ?_
  split at w1
  · rename_i z ez
    obtain rfl : v1 = .str z := rv1.getP ez
    have ns := DictT.ns kd en z
    split at w1
    · rename_i q eq
      rw [eq] at ns
      obtain ⟨u, h1, h2⟩ := ns
      obtain ⟨v, rv, rp⟩ := h2.ok
      exact ⟨d, z, v, rfl, rfl, ⟨es, n, u, kd.at_, kd.lit, h1, rv⟩, RepP.up w1 (rp _)⟩
    · exact w1.elim
  · exact w1.elim
end

/-! ### a new list of ints, locked for good -/
def tFz (t : TE) : TE := fun σ H Q => t σ H fun v H' => ∃ d u, H' d = some u ∧ Mut (some u) ∧ ∀ od, Q v (upd H' d (.frz od u))
theorem pe_fz {X : Cx} {e : Expr} {t : TE} (h : PE X e t) : PE X e (tFz t) := by
  refine ⟨fun pins s σ H Q I hw => ?_⟩
  refine thn (h.run pins s σ _ _ I hw) fun v s1 ⟨x, H1, I2, r, d, u, e, mu, q⟩ => ?_
  obtain ⟨od, I3⟩ := I2.lock e mu
  exact ⟨x, _, I3, r, q od⟩
def intsP : List P → Option (List Int)
  | [] => some []
  | .int n :: xs => (intsP xs).map (n :: ·)
  | _ :: _ => none
theorem intsP_eq : ∀ {xs : List P} {ns : List Int}, intsP xs = some ns → xs = ns.map P.int
  | [], ns, h => by
    obtain rfl := Option.some.inj h
    rfl
  | .int n :: xs, ns, h => by
    simp only [intsP, Option.map_eq_some_iff] at h
    obtain ⟨ms, h1, rfl⟩ := h
    rw [intsP_eq h1]
    rfl
  | .non :: _, _, h => nomatch h
  | .bl _ :: _, _, h => nomatch h
  | .str _ :: _, _, h => nomatch h
  | .tup _ :: _, _, h => nomatch h
  | .fl _ :: _, _, h => nomatch h
theorem intsP_of : ∀ ns : List Int, intsP (ns.map P.int) = some ns
  | [] => rfl
  | n :: ns => by
    show (intsP (ns.map P.int)).map (n :: ·) = _
    rw [intsP_of ns]
    rfl
def fFz : R → Rn Unit R
  | .own (.lst xs) => match intsP xs with
    | some ns => .ok (.own (.p (.fl ns)))
    | none => .bad
  | _ => .bad
def gFz (ga : GE) : GE := fun δ => (ga δ).bind fFz
theorem de_fz {W : WX} {X : Cx} {e : Expr} {ga : GE} (ha : DE W X e ga) : DE W X e (gFz ga) := by
  refine PE.imp (pe_fz ha) fun σ H Q ⟨B, Rg, δ, S0, w⟩ => ?_
  refine ⟨B, Rg, δ, S0, Rn.wp_mono (Rn.wp_bind.mp w) (fun r q v H1 s1 rv => ?_) fun _ _ q => q⟩
  unfold fFz at q
  split at q
  · rename_i xs
    split at q
    · rename_i ns e
      obtain rfl := intsP_eq e
      obtain ⟨fp, ⟨a, vs, rfl, qa, rfl, r⟩, n, f⟩ := rv
      refine ⟨a, _, qa, trivial, fun od => ?_⟩
      obtain rfl := RepPs.int r
      have fa : H a = none := f a (by simp)
      refine q (.ref a) _ (fun b o eb => ?_) (RepR.plain ⟨a, od, rfl, upd_same⟩)
      rw [upd_ne (ne_of_none eb fa)]
      exact s1 b o eb
    · exact q.elim
  · exact q.elim
/-! ### recursion -/
def gBad : GS := fun _ => .bad
theorem dss_bad {W : WX} {X : Cx} {sts : List Stmt} : DSs W X sts gBad := ⟨fun pins s σ H D I ⟨_, _, _, _, w⟩ => w.elim⟩
end DL
set_option maxHeartbeats 4000000
namespace Lw
open PySem PySem.Spec PyProof.Rows L2 DL
def topS (i : Nat) : Stmt := PySem.Challenge.pw_tensorworks_k42_lives_of_buffers.main.body.getD i (.Pass ⟨0, 0, 0, 0⟩)
abbrev s__law_begin : Stmt := topS 8
abbrev n__law_begin : List Str := ["script", "seed", "cell"]
theorem sc__law_begin : FnScope n__law_begin ["script"] (defScope s__law_begin) := ⟨rfl, rfl, rfl, by decide +kernel, rfl, by decide +kernel, by decide +kernel⟩
abbrev s__law_take : Stmt := topS 9
abbrev n__law_take : List Str := ["d", "many", "small", "digit"]
theorem sc__law_take : FnScope n__law_take ["d", "many"] (defScope s__law_take) := ⟨rfl, rfl, rfl, by decide +kernel, rfl, by decide +kernel, by decide +kernel⟩
abbrev s__law_form : Stmt := topS 11
abbrev n__law_form : List Str := ["d", "env", "size", "terms", "low", "high", "var", "values", "factor", "ends", "v"]
theorem sc__law_form : FnScope n__law_form ["d", "env", "size"] (defScope s__law_form) := ⟨rfl, rfl, rfl, by decide +kernel, rfl, by decide +kernel, by decide +kernel⟩
abbrev s__law_copy : Stmt := topS 15
abbrev n__law_copy : List Str := ["d", "buffers", "env", "near", "other", "one", "two", "count", "first", "second", "k"]
theorem sc__law_copy : FnScope n__law_copy ["d", "buffers", "env"] (defScope s__law_copy) := ⟨rfl, rfl, rfl, by decide +kernel, rfl, by decide +kernel, by decide +kernel⟩
abbrev s__law_signed : Stmt := topS 10
abbrev n__law_signed : List Str := ["d", "most"]
theorem sc__law_signed : FnScope n__law_signed ["d", "most"] (defScope s__law_signed) := ⟨rfl, rfl, rfl, by decide +kernel, rfl, by decide +kernel, by decide +kernel⟩
abbrev s__law_point_info : Stmt := topS 13
abbrev n__law_point_info : List Str := ["d", "kind", "low"]
theorem sc__law_point_info : FnScope n__law_point_info ["d", "kind"] (defScope s__law_point_info) := ⟨rfl, rfl, rfl, by decide +kernel, rfl, by decide +kernel, by decide +kernel⟩
abbrev s__law_test : Stmt := topS 12
abbrev n__law_test : List Str := ["d", "env", "terms", "var", "values"]
theorem sc__law_test : FnScope n__law_test ["d", "env"] (defScope s__law_test) := ⟨rfl, rfl, rfl, by decide +kernel, rfl, by decide +kernel, by decide +kernel⟩
abbrev s__law_expr : Stmt := topS 14
abbrev n__law_expr : List Str := ["d", "buffers", "env", "level", "menu", "k", "size", "count", "stride", "form", "kinds", "kind", "many", "kids", "j"]
theorem sc__law_expr : FnScope n__law_expr ["d", "buffers", "env", "level"] (defScope s__law_expr) := ⟨rfl, rfl, rfl, by decide +kernel, rfl, by decide +kernel, by decide +kernel⟩
abbrev s__law_body : Stmt := topS 17
abbrev n__law_body : List Str := ["d", "buffers", "env", "depth", "many", "k"]
theorem sc__law_body : FnScope n__law_body ["d", "buffers", "env", "depth", "many"] (defScope s__law_body) := ⟨rfl, rfl, rfl, by decide +kernel, rfl, by decide +kernel, by decide +kernel⟩
abbrev s__law_statement : Stmt := topS 16
abbrev n__law_statement : List Str := ["d", "buffers", "env", "depth", "menu", "var", "count", "start", "step", "inner", "copy", "sets", "k"]
theorem sc__law_statement : FnScope n__law_statement ["d", "buffers", "env", "depth"] (defScope s__law_statement) := ⟨rfl, rfl, rfl, by decide +kernel, rfl, by decide +kernel, by decide +kernel⟩
abbrev s__law_in_expr : Stmt := topS 19
abbrev n__law_in_expr : List Str := ["expr", "k", "kid"]
theorem sc__law_in_expr : FnScope n__law_in_expr ["expr", "k"] (defScope s__law_in_expr) := ⟨rfl, rfl, rfl, by decide +kernel, rfl, by decide +kernel, by decide +kernel⟩
abbrev s__law_in : Stmt := topS 20
abbrev n__law_in : List Str := ["s", "k", "one"]
theorem sc__law_in : FnScope n__law_in ["s", "k"] (defScope s__law_in) := ⟨rfl, rfl, rfl, by decide +kernel, rfl, by decide +kernel, by decide +kernel⟩
abbrev s__law_program : Stmt := topS 18
abbrev n__law_program : List Str := ["d", "set_first", "buffers", "k", "body", "put"]
theorem sc__law_program : FnScope n__law_program ["d", "set_first"] (defScope s__law_program) := ⟨rfl, rfl, rfl, by decide +kernel, rfl, by decide +kernel, by decide +kernel⟩
abbrev s_expressions_in : Stmt := topS 1
abbrev n_expressions_in : List Str := ["expr", "found", "kid"]
theorem sc_expressions_in : FnScope n_expressions_in ["expr"] (defScope s_expressions_in) := ⟨rfl, rfl, rfl, by decide +kernel, rfl, by decide +kernel, by decide +kernel⟩
abbrev s_statements_in : Stmt := topS 2
abbrev n_statements_in : List Str := ["body", "found", "statement"]
theorem sc_statements_in : FnScope n_statements_in ["body"] (defScope s_statements_in) := ⟨rfl, rfl, rfl, by decide +kernel, rfl, by decide +kernel, by decide +kernel⟩
abbrev s_buffers_in : Stmt := topS 4
abbrev n_buffers_in : List Str := ["statement", "found", "inner", "e"]
theorem sc_buffers_in : FnScope n_buffers_in ["statement"] (defScope s_buffers_in) := ⟨rfl, rfl, rfl, by decide +kernel, rfl, by decide +kernel, by decide +kernel⟩
abbrev s_lives : Stmt := topS 5
abbrev n_lives : List Str := ["program", "outs", "buffers", "body", "rows", "result", "k", "used", "first", "last", "statement", "t"]
theorem sc_lives : FnScope n_lives ["program", "outs"] (defScope s_lives) := ⟨rfl, rfl, rfl, by decide +kernel, rfl, by decide +kernel, by decide +kernel⟩
abbrev s_meet : Stmt := topS 6
abbrev n_meet : List Str := ["one", "other"]
theorem sc_meet : FnScope n_meet ["one", "other"] (defScope s_meet) := ⟨rfl, rfl, rfl, by decide +kernel, rfl, by decide +kernel, by decide +kernel⟩
abbrev s_law : Stmt := topS 21
abbrev n_law : List Str := ["script", "d", "buffers", "body", "outs", "due", "k", "found", "first", "last", "actual", "turn", "one", "two", "told", "t"]
theorem sc_law : FnScope n_law ["script"] (defScope s_law) := ⟨rfl, rfl, rfl, by decide +kernel, rfl, by decide +kernel, by decide +kernel⟩
def m__law_begin : Fn := beginF
def m__law_take : Fn := takeF
def g__law_form : GS := (gSeq (gSet 3 (gLst gNil))
  (gSeq (gSet 4 (gC (.int 0)))
  (gSeq (gSet 5 (gC (.int 0)))
  (gSeq (gForV (.tup [6, 7]) 1 (gIfS (gTB (gOp2 (fB fGt) (gFn 2 m__law_take (gCons (gVar 0) (gCons (gC (.int 3)) gNil))) (gC (.int 0)))) (gSeq (gSet 8 (gOp2 fIx (gTup (gCons (gC (.int 1)) (gCons (gC (.int 1)) (gCons (gC (.int 2)) (gCons (gOp2 iSub (gC (.int 0)) (gC (.int 1))) gNil))))) (gFn 2 m__law_take (gCons (gVar 0) (gCons (gC (.int 4)) gNil)))))
  (gSeq (gSet 9 (gLc (.one 10) [10] (gSeqL (gVar 7)) gYes (gOp2 fMul (gVar 8) (gVar 10))))
  (gIfS (gTB (gOp2 (fB fLt) (gOp2 iSub (gOp2 iSub (gOp2 fAdd (gVar 5) (gCall fMaxL (gCons (gVar 9) gNil))) (gVar 4)) (gCall fMinL (gCons (gVar 9) gNil))) (gVar 2))) (gSeq (gApp 3 (gTup (gCons (gVar 6) (gCons (gVar 8) gNil))))
  (gSeq (gSet 4 (gOp2 fAdd (gVar 4) (gCall fMinL (gCons (gVar 9) gNil))))
  (gSet 5 (gOp2 fAdd (gVar 5) (gCall fMaxL (gCons (gVar 9) gNil)))))) gNext))) gNext))
  (gRet (gTup (gCons (gOp2 iSub (gFn 2 m__law_take (gCons (gVar 0) (gCons (gOp2 fAdd (gOp2 iSub (gVar 2) (gVar 5)) (gVar 4)) gNil))) (gVar 4)) (gCons (gCall fTuple (gCons (gVar 3) gNil)) gNil))))))))
def m__law_form : Fn := fnD 11 g__law_form
def g__law_copy : GS := (gSeq (gSet 3 (gLc (.one 10) [10] (gRangeI fRange1 (gCons (gCall fLen (gCons (gVar 1) gNil)) gNil)) (gTB (gOp2 (fB (fEqB false)) (gOp2 fIx (gOp2 fIx (gVar 1) (gVar 10)) (gC (.int 0))) (gC (.str "near")))) (gVar 10)))
  (gSeq (gSet 4 (gLc (.one 10) [10] (gRangeI fRange1 (gCons (gCall fLen (gCons (gVar 1) gNil)) gNil)) (gTB (gOp2 (fB (fEqB true)) (gOp2 fIx (gOp2 fIx (gVar 1) (gVar 10)) (gC (.int 0))) (gC (.str "near")))) (gVar 10)))
  (gSeq (gIfS (gTB (gOp2 (fB (fEqB false)) (gCall fLen (gCons (gVar 3) gNil)) (gC (.int 0)))) (gRet (gC .non)) gNext)
  (gSeq (gSet 5 (gOp2 fIx (gVar 3) (gFn 2 m__law_take (gCons (gVar 0) (gCons (gCall fLen (gCons (gVar 3) gNil)) gNil)))))
  (gSeq (gSet 6 (gOp2 fIx (gVar 4) (gFn 2 m__law_take (gCons (gVar 0) (gCons (gCall fLen (gCons (gVar 4) gNil)) gNil)))))
  (gSeq (gSet 7 (gOp2 fAdd (gC (.int 1)) (gFn 2 m__law_take (gCons (gVar 0) (gCons (gCall fMinL (gCons (gOp2 fIx (gOp2 fIx (gVar 1) (gVar 5)) (gC (.int 1))) (gCons (gOp2 fIx (gOp2 fIx (gVar 1) (gVar 6)) (gC (.int 1))) gNil))) gNil)))))
  (gSeq (gSet 8 (gFn 3 m__law_form (gCons (gVar 0) (gCons (gVar 2) (gCons (gOp2 fAdd (gOp2 iSub (gOp2 fIx (gOp2 fIx (gVar 1) (gVar 5)) (gC (.int 1))) (gVar 7)) (gC (.int 1))) gNil)))))
  (gSeq (gSet 9 (gFn 3 m__law_form (gCons (gVar 0) (gCons (gVar 2) (gCons (gOp2 fAdd (gOp2 iSub (gOp2 fIx (gOp2 fIx (gVar 1) (gVar 6)) (gC (.int 1))) (gVar 7)) (gC (.int 1))) gNil)))))
  (gSeq (gIfS (gAnd (gTB (gOp2 (fB (fEqB false)) (gOp2 fIx (gOp2 fIx (gVar 1) (gVar 6)) (gC (.int 0))) (gC (.str "main")))) (gTB (gOp2 (fB (fEqB false)) (gFn 2 m__law_take (gCons (gVar 0) (gCons (gC (.int 2)) gNil))) (gC (.int 1))))) (gRet (gTup (gCons (gC (.str "copy")) (gCons (gVar 6) (gCons (gVar 9) (gCons (gVar 5) (gCons (gVar 8) (gCons (gVar 7) gNil)))))))) gNext)
  (gRet (gTup (gCons (gC (.str "copy")) (gCons (gVar 5) (gCons (gVar 8) (gCons (gVar 6) (gCons (gVar 9) (gCons (gVar 7) gNil)))))))))))))))))
def m__law_copy : Fn := fnD 11 g__law_copy
def g__law_signed : GS := (gRet (gOp2 iSub (gFn 2 m__law_take (gCons (gVar 0) (gCons (gOp2 fAdd (gOp2 fMul (gC (.int 2)) (gVar 1)) (gC (.int 1))) gNil))) (gVar 1)))
def m__law_signed : Fn := fnD 2 g__law_signed
def g__law_point_info : GS := (gSeq (gIfS (gTB (gOp2 (fB (fEqB false)) (gVar 1) (gC (.str "clamp")))) (gSeq (gSet 2 (gFn 2 m__law_signed (gCons (gVar 0) (gCons (gC (.int 9)) gNil))))
  (gRet (gTup (gCons (gVar 2) (gCons (gOp2 fAdd (gVar 2) (gFn 2 m__law_take (gCons (gVar 0) (gCons (gC (.int 12)) gNil)))) gNil))))) gNext)
  (gRet (gIf (gTB (gOp2 (fB (fEqB false)) (gVar 1) (gC (.str "shift")))) (gTup (gCons (gOp2 fAdd (gC (.int 1)) (gFn 2 m__law_take (gCons (gVar 0) (gCons (gC (.int 3)) gNil)))) gNil)) (gTup gNil))))
def m__law_point_info : Fn := fnD 3 g__law_point_info
def g__law_test : GS := (gSeq (gSet 2 (gCall fTuple (gCons (gLc (.tup [3, 4]) [3, 4] (gSeqL (gSl (gVar 1) gNoPart (gPart (gC (.int 2))))) gYes (gTup (gCons (gVar 3) (gCons (gOp2 fIx (gTup (gCons (gC (.int 1)) (gCons (gOp2 iSub (gC (.int 0)) (gC (.int 1))) (gCons (gC (.int 2)) gNil)))) (gFn 2 m__law_take (gCons (gVar 0) (gCons (gC (.int 3)) gNil)))) gNil)))) gNil)))
  (gRet (gTup (gCons (gFn 2 m__law_signed (gCons (gVar 0) (gCons (gC (.int 2)) gNil))) (gCons (gVar 2) gNil)))))
def m__law_test : Fn := fnD 5 g__law_test
def g__law_expr (mh : Fn) : GS := (gSeq (gSet 4 (gIf (gTB (gOp2 (fB fLt) (gVar 3) (gC (.int 3)))) (gFn 2 m__law_take (gCons (gVar 0) (gCons (gC (.int 9)) gNil))) (gFn 2 m__law_take (gCons (gVar 0) (gCons (gC (.int 4)) gNil)))))
  (gSeq (gIfS (gTB (gOp2 (fB (fEqB false)) (gVar 4) (gC (.int 0)))) (gRet (gTup (gCons (gC (.str "number")) (gCons (gFn 2 m__law_signed (gCons (gVar 0) (gCons (gC (.int 9)) gNil))) gNil)))) gNext)
  (gSeq (gIfS (gTB (gOp2 (fB (fEqB false)) (gVar 4) (gC (.int 1)))) (gRet (gTup (gCons (gC (.str "index")) (gCons (gFn 2 m__law_test (gCons (gVar 0) (gCons (gVar 2) gNil))) gNil)))) gNext)
  (gSeq (gSet 5 (gFn 2 m__law_take (gCons (gVar 0) (gCons (gCall fLen (gCons (gVar 1) gNil)) gNil))))
  (gSeq (gSet 6 (gOp2 fIx (gOp2 fIx (gVar 1) (gVar 5)) (gC (.int 1))))
  (gSeq (gIfS (gTB (gOp2 (fB fLt) (gVar 4) (gC (.int 5)))) (gRet (gTup (gCons (gC (.str "load")) (gCons (gVar 5) (gCons (gFn 3 m__law_form (gCons (gVar 0) (gCons (gVar 2) (gCons (gVar 6) gNil)))) gNil))))) gNext)
  (gSeq (gIfS (gTB (gOp2 (fB (fEqB false)) (gVar 4) (gC (.int 5)))) (gRet (gTup (gCons (gC (.str "guard")) (gCons (gFn 2 m__law_test (gCons (gVar 0) (gCons (gVar 2) gNil))) (gCons (gFn 4 mh (gCons (gVar 0) (gCons (gVar 1) (gCons (gVar 2) (gCons (gOp2 fAdd (gVar 3) (gC (.int 1))) gNil))))) (gCons (gFn 4 mh (gCons (gVar 0) (gCons (gVar 1) (gCons (gVar 2) (gCons (gOp2 fAdd (gVar 3) (gC (.int 1))) gNil))))) gNil)))))) gNext)
  (gSeq (gIfS (gTB (gOp2 (fB (fEqB false)) (gVar 4) (gC (.int 6)))) (gSeq (gSet 7 (gOp2 fAdd (gC (.int 1)) (gFn 2 m__law_take (gCons (gVar 0) (gCons (gCall fMinL (gCons (gC (.int 4)) (gCons (gVar 6) gNil))) gNil)))))
  (gSeq (gSet 8 (gIf (gTB (gOp2 (fB fLt) (gOp2 fMul (gC (.int 2)) (gOp2 iSub (gVar 7) (gC (.int 1)))) (gVar 6))) (gOp2 fIx (gTup (gCons (gC (.int 1)) (gCons (gC (.int 0)) (gCons (gC (.int 2)) gNil)))) (gFn 2 m__law_take (gCons (gVar 0) (gCons (gC (.int 3)) gNil)))) (gC (.int 1))))
  (gSeq (gSet 9 (gFn 3 m__law_form (gCons (gVar 0) (gCons (gVar 2) (gCons (gOp2 iSub (gVar 6) (gOp2 fMul (gVar 8) (gOp2 iSub (gVar 7) (gC (.int 1))))) gNil)))))
  (gRet (gTup (gCons (gC (.str "pick")) (gCons (gVar 5) (gCons (gVar 9) (gCons (gVar 8) (gCons (gVar 7) (gCons (gFn 4 mh (gCons (gVar 0) (gCons (gVar 1) (gCons (gVar 2) (gCons (gOp2 fAdd (gVar 3) (gC (.int 1))) gNil))))) gNil))))))))))) gNext)
  (gSeq (gSet 10 (gTup (gCons (gC (.str "add")) (gCons (gC (.str "sub")) (gCons (gC (.str "mul")) (gCons (gC (.str "max")) (gCons (gC (.str "min")) (gCons (gC (.str "less")) (gCons (gC (.str "equal")) (gCons (gC (.str "neg")) (gCons (gC (.str "clamp")) (gCons (gC (.str "shift")) (gCons (gC (.str "where")) (gCons (gC (.str "add")) gNil))))))))))))))
  (gSeq (gSet 11 (gOp2 fIx (gVar 10) (gFn 2 m__law_take (gCons (gVar 0) (gCons (gC (.int 12)) gNil)))))
  (gSeq (gSet 12 (gIf (gTB (gOp2 (fB (fIn false)) (gVar 11) (gTup (gCons (gC (.str "neg")) (gCons (gC (.str "clamp")) (gCons (gC (.str "shift")) gNil)))))) (gC (.int 1)) (gIf (gTB (gOp2 (fB (fEqB false)) (gVar 11) (gC (.str "where")))) (gC (.int 3)) (gC (.int 2)))))
  (gSeq (gSet 13 (gCall fTuple (gCons (gLc (.one 14) [14] (gRangeI fRange1 (gCons (gVar 12) gNil)) gYes (gFn 4 mh (gCons (gVar 0) (gCons (gVar 1) (gCons (gVar 2) (gCons (gOp2 fAdd (gVar 3) (gC (.int 1))) gNil)))))) gNil)))
  (gRet (gTup (gCons (gC (.str "apply")) (gCons (gVar 11) (gCons (gVar 13) (gCons (gFn 2 m__law_point_info (gCons (gVar 0) (gCons (gVar 11) gNil))) gNil))))))))))))))))))
def m__law_expr_r : Nat → Fn
  | 0 => fnD 15 gBad
  | n + 1 => fnD 15 (g__law_expr (m__law_expr_r n))
def m__law_expr : Fn := m__law_expr_r 4
def g__law_body (mh : Fn) : GS := (gRet (gCall fTuple (gCons (gLc (.one 5) [5] (gRangeI fRange1 (gCons (gVar 4) gNil)) gYes (gFn 4 mh (gCons (gVar 0) (gCons (gVar 1) (gCons (gVar 2) (gCons (gVar 3) gNil)))))) gNil)))
def m__law_body_r (mh : Fn) : Fn := fnD 6 (g__law_body mh)
def g__law_statement (mh : Fn) : GS := (gSeq (gSet 4 (gFn 2 m__law_take (gCons (gVar 0) (gCons (gC (.int 6)) gNil))))
  (gSeq (gIfS (gAnd (gTB (gOp2 (fB fLt) (gVar 4) (gC (.int 3)))) (gTB (gOp2 (fB fLt) (gVar 3) (gC (.int 3))))) (gSeq (gSet 5 (gOp2 fAdd (gOp2 fMul (gC (.int 3)) (gVar 3)) (gFn 2 m__law_take (gCons (gVar 0) (gCons (gC (.int 3)) gNil)))))
  (gSeq (gSet 6 (gOp2 fAdd (gC (.int 1)) (gFn 2 m__law_take (gCons (gVar 0) (gCons (gC (.int 3)) gNil)))))
  (gSeq (gSet 7 (gFn 2 m__law_signed (gCons (gVar 0) (gCons (gC (.int 2)) gNil))))
  (gSeq (gSet 8 (gOp2 fIx (gTup (gCons (gC (.int 1)) (gCons (gC (.int 1)) (gCons (gC (.int 2)) (gCons (gOp2 iSub (gC (.int 0)) (gC (.int 1))) gNil))))) (gFn 2 m__law_take (gCons (gVar 0) (gCons (gC (.int 4)) gNil)))))
  (gSeq (gSet 9 (gOp2 fAdd (gVar 2) (gLst (gCons (gTup (gCons (gVar 5) (gCons (gFz (gLc (.one 12) [12] (gRangeI fRange1 (gCons (gVar 6) gNil)) gYes (gOp2 fAdd (gVar 7) (gOp2 fMul (gVar 8) (gVar 12))))) gNil))) gNil))))
  (gRet (gTup (gCons (gC (.str "loop")) (gCons (gVar 5) (gCons (gVar 7) (gCons (gVar 8) (gCons (gVar 6) (gCons (gFn 5 (m__law_body_r mh) (gCons (gVar 0) (gCons (gVar 1) (gCons (gVar 9) (gCons (gOp2 fAdd (gVar 3) (gC (.int 1))) (gCons (gOp2 fAdd (gC (.int 1)) (gFn 2 m__law_take (gCons (gVar 0) (gCons (gC (.int 2)) gNil)))) gNil)))))) gNil))))))))))))) gNext)
  (gSeq (gIfS (gAnd (gTB (gOp2 (fB (fEqB false)) (gVar 4) (gC (.int 3)))) (gTB (gOp2 (fB fLt) (gVar 3) (gC (.int 3))))) (gRet (gTup (gCons (gC (.str "when")) (gCons (gFn 2 m__law_test (gCons (gVar 0) (gCons (gVar 2) gNil))) (gCons (gFn 5 (m__law_body_r mh) (gCons (gVar 0) (gCons (gVar 1) (gCons (gVar 2) (gCons (gOp2 fAdd (gVar 3) (gC (.int 1))) (gCons (gOp2 fAdd (gC (.int 1)) (gFn 2 m__law_take (gCons (gVar 0) (gCons (gC (.int 2)) gNil)))) gNil)))))) gNil))))) gNext)
  (gSeq (gIfS (gTB (gOp2 (fB (fEqB false)) (gVar 4) (gC (.int 4)))) (gSeq (gSet 10 (gFn 3 m__law_copy (gCons (gVar 0) (gCons (gVar 1) (gCons (gVar 2) gNil)))))
  (gIfS (gTB (gOp2 (fB (fIsN true)) (gVar 10) (gC .non))) (gRetV 10) gNext)) gNext)
  (gSeq (gSet 11 (gLc (.one 12) [12] (gRangeI fRange1 (gCons (gCall fLen (gCons (gVar 1) gNil)) gNil)) (gTB (gOp2 (fB (fEqB true)) (gOp2 fIx (gOp2 fIx (gVar 1) (gVar 12)) (gC (.int 0))) (gC (.str "in")))) (gVar 12)))
  (gSeq (gSet 12 (gOp2 fIx (gVar 11) (gFn 2 m__law_take (gCons (gVar 0) (gCons (gCall fLen (gCons (gVar 11) gNil)) gNil)))))
  (gRet (gTup (gCons (gC (.str "put")) (gCons (gVar 12) (gCons (gFn 3 m__law_form (gCons (gVar 0) (gCons (gVar 2) (gCons (gOp2 fIx (gOp2 fIx (gVar 1) (gVar 12)) (gC (.int 1))) gNil)))) (gCons (gFn 4 m__law_expr (gCons (gVar 0) (gCons (gVar 1) (gCons (gVar 2) (gCons (gC (.int 1)) gNil))))) gNil))))))))))))
def m__law_statement_r : Nat → Fn
  | 0 => fnD 13 gBad
  | n + 1 => fnD 13 (g__law_statement (m__law_statement_r n))
def m__law_statement : Fn := m__law_statement_r 5
def m__law_body : Fn := m__law_body_r m__law_statement
def g__law_in_expr (mh : Fn) : GS := (gSeq (gIfS (gTB (gOp2 (fB (fEqB false)) (gOp2 fIx (gVar 0) (gC (.int 0))) (gC (.str "load")))) (gRet (gOp2 (fB (fEqB false)) (gOp2 fIx (gVar 0) (gC (.int 1))) (gVar 1))) gNext)
  (gSeq (gIfS (gTB (gOp2 (fB (fEqB false)) (gOp2 fIx (gVar 0) (gC (.int 0))) (gC (.str "pick")))) (gRet (gOrV (gOp2 (fB (fEqB false)) (gOp2 fIx (gVar 0) (gC (.int 1))) (gVar 1)) (gFn 2 mh (gCons (gOp2 fIx (gVar 0) (gC (.int 5))) (gCons (gVar 1) gNil))))) gNext)
  (gSeq (gIfS (gTB (gOp2 (fB (fEqB false)) (gOp2 fIx (gVar 0) (gC (.int 0))) (gC (.str "guard")))) (gRet (gOrV (gFn 2 mh (gCons (gOp2 fIx (gVar 0) (gC (.int 2))) (gCons (gVar 1) gNil))) (gFn 2 mh (gCons (gOp2 fIx (gVar 0) (gC (.int 3))) (gCons (gVar 1) gNil))))) gNext)
  (gRet (gIf (gTB (gOp2 (fB (fEqB false)) (gOp2 fIx (gVar 0) (gC (.int 0))) (gC (.str "apply")))) (gCall (fAnyAll fun bs => bs.any id) (gCons (gLc (.one 2) [2] (gSeqL (gOp2 fIx (gVar 0) (gC (.int 2)))) gYes (gFn 2 mh (gCons (gVar 2) (gCons (gVar 1) gNil)))) gNil)) (gC (.bl false)))))))
def m__law_in_expr_r : Nat → Fn
  | 0 => fnD 3 gBad
  | n + 1 => fnD 3 (g__law_in_expr (m__law_in_expr_r n))
def m__law_in_expr : Fn := m__law_in_expr_r 4
def g__law_in (mh : Fn) : GS := (gSeq (gIfS (gTB (gOp2 (fB (fIn false)) (gOp2 fIx (gVar 0) (gC (.int 0))) (gTup (gCons (gC (.str "loop")) (gCons (gC (.str "when")) gNil))))) (gRet (gCall (fAnyAll fun bs => bs.any id) (gCons (gLc (.one 2) [2] (gSeqL (gOp2 fIx (gVar 0) (gOp1 fNeg (gC (.int 1))))) gYes (gFn 2 mh (gCons (gVar 2) (gCons (gVar 1) gNil)))) gNil))) gNext)
  (gSeq (gIfS (gTB (gOp2 (fB (fEqB false)) (gOp2 fIx (gVar 0) (gC (.int 0))) (gC (.str "copy")))) (gRet (gOrV (gOp2 (fB (fEqB false)) (gOp2 fIx (gVar 0) (gC (.int 1))) (gVar 1)) (gOp2 (fB (fEqB false)) (gOp2 fIx (gVar 0) (gC (.int 3))) (gVar 1)))) gNext)
  (gRet (gOrV (gOp2 (fB (fEqB false)) (gOp2 fIx (gVar 0) (gC (.int 1))) (gVar 1)) (gFn 2 m__law_in_expr (gCons (gOp2 fIx (gVar 0) (gC (.int 3))) (gCons (gVar 1) gNil)))))))
def m__law_in_r : Nat → Fn
  | 0 => fnD 3 gBad
  | n + 1 => fnD 3 (g__law_in (m__law_in_r n))
def m__law_in : Fn := m__law_in_r 6
def g__law_program : GS := (gSeq (gSet 2 (gLst (gCons (gTup (gCons (gC (.str "in")) (gCons (gOp2 fAdd (gC (.int 1)) (gFn 2 m__law_take (gCons (gVar 0) (gCons (gC (.int 5)) gNil)))) gNil))) (gCons (gTup (gCons (gC (.str "main")) (gCons (gOp2 fAdd (gC (.int 1)) (gFn 2 m__law_take (gCons (gVar 0) (gCons (gC (.int 5)) gNil)))) gNil))) gNil))))
  (gSeq (gFor (.one 3) (gRangeI fRange1 (gCons (gFn 2 m__law_take (gCons (gVar 0) (gCons (gC (.int 3)) gNil))) gNil)) (gApp 2 (gTup (gCons (gOp2 fIx (gTup (gCons (gC (.str "near")) (gCons (gC (.str "main")) (gCons (gC (.str "in")) (gCons (gC (.str "near")) gNil))))) (gFn 2 m__law_take (gCons (gVar 0) (gCons (gC (.int 4)) gNil)))) (gCons (gOp2 fAdd (gC (.int 1)) (gFn 2 m__law_take (gCons (gVar 0) (gCons (gC (.int 5)) gNil)))) gNil)))))
  (gSeq (gSet 4 (gLst gNil))
  (gSeq (gFor (.one 3) (gRangeI fRange1 (gCons (gCall fLen (gCons (gVar 2) gNil)) gNil)) (gIfS (gAnd (gTB (gOp2 (fB (fEqB true)) (gOp2 fIx (gOp2 fIx (gVar 2) (gVar 3)) (gC (.int 0))) (gC (.str "in")))) (gTru (gVar 1))) (gSeq (gSet 5 (gTup (gCons (gC (.str "put")) (gCons (gVar 3) (gCons (gTup (gCons (gC (.int 0)) (gCons (gTup (gCons (gTup (gCons (gC (.int 0)) (gCons (gC (.int 1)) gNil))) gNil)) gNil))) (gCons (gTup (gCons (gC (.str "index")) (gCons (gTup (gCons (gFn 2 m__law_signed (gCons (gVar 0) (gCons (gC (.int 9)) gNil))) (gCons (gTup (gCons (gTup (gCons (gC (.int 0)) (gCons (gC (.int 2)) gNil))) gNil)) gNil))) gNil))) gNil))))))
  (gApp 4 (gTup (gCons (gC (.str "loop")) (gCons (gC (.int 0)) (gCons (gC (.int 0)) (gCons (gC (.int 1)) (gCons (gOp2 fIx (gOp2 fIx (gVar 2) (gVar 3)) (gC (.int 1))) (gCons (gTup (gCons (gVar 5) gNil)) gNil))))))))) gNext))
  (gSeq (gSet 4 (gOp2 fAdd (gVar 4) (gCall fList (gCons (gFn 5 m__law_body (gCons (gVar 0) (gCons (gVar 2) (gCons (gLst gNil) (gCons (gC (.int 0)) (gCons (gOp2 fAdd (gC (.int 1)) (gFn 2 m__law_take (gCons (gVar 0) (gCons (gC (.int 3)) gNil)))) gNil)))))) gNil))))
  (gRet (gTup (gCons (gCall fTuple (gCons (gVar 2) gNil)) (gCons (gCall fTuple (gCons (gVar 4) gNil)) gNil)))))))))
def m__law_program : Fn := fnD 6 g__law_program
def g_expressions_in (mh : Fn) : GS := (gSeq (gSet 1 (gLst (gCons (gVar 0) gNil)))
  (gSeq (gIfS (gTB (gOp2 (fB (fEqB false)) (gOp2 fIx (gVar 0) (gC (.int 0))) (gC (.str "pick")))) (gSet 1 (gOp2 fAdd (gVar 1) (gFn 1 mh (gCons (gOp2 fIx (gVar 0) (gC (.int 5))) gNil)))) (gIfS (gTB (gOp2 (fB (fEqB false)) (gOp2 fIx (gVar 0) (gC (.int 0))) (gC (.str "apply")))) (gFor (.one 2) (gSeqI (gOp2 fIx (gVar 0) (gC (.int 2)))) (gSet 1 (gOp2 fAdd (gVar 1) (gFn 1 mh (gCons (gVar 2) gNil))))) (gIfS (gTB (gOp2 (fB (fEqB false)) (gOp2 fIx (gVar 0) (gC (.int 0))) (gC (.str "guard")))) (gSet 1 (gOp2 fAdd (gOp2 fAdd (gVar 1) (gFn 1 mh (gCons (gOp2 fIx (gVar 0) (gC (.int 2))) gNil))) (gFn 1 mh (gCons (gOp2 fIx (gVar 0) (gC (.int 3))) gNil)))) gNext)))
  (gRetV 1)))
def m_expressions_in_r : Nat → Fn
  | 0 => fnD 3 gBad
  | n + 1 => fnD 3 (g_expressions_in (m_expressions_in_r n))
def m_expressions_in : Fn := m_expressions_in_r 4
def g_statements_in (mh : Fn) : GS := (gSeq (gSet 1 (gLst gNil))
  (gSeq (gForV (.one 2) 0 (gSeq (gApp 1 (gVar 2))
  (gIfS (gTB (gOp2 (fB (fIn false)) (gOp2 fIx (gVar 2) (gC (.int 0))) (gTup (gCons (gC (.str "loop")) (gCons (gC (.str "when")) gNil))))) (gSet 1 (gOp2 fAdd (gVar 1) (gFn 1 mh (gCons (gOp2 fIx (gVar 2) (gOp1 fNeg (gC (.int 1)))) gNil)))) gNext)))
  (gRetV 1)))
def m_statements_in_r : Nat → Fn
  | 0 => fnD 3 gBad
  | n + 1 => fnD 3 (g_statements_in (m_statements_in_r n))
def m_statements_in : Fn := m_statements_in_r 6
def g_buffers_in : GS := (gSeq (gSet 1 (gLst gNil))
  (gSeq (gFor (.one 2) (gSeqI (gFn 1 m_statements_in (gCons (gTup (gCons (gVar 0) gNil)) gNil))) (gIfS (gTB (gOp2 (fB (fEqB false)) (gOp2 fIx (gVar 2) (gC (.int 0))) (gC (.str "put")))) (gSeq (gApp 1 (gOp2 fIx (gVar 2) (gC (.int 1))))
  (gSet 1 (gOp2 fAdd (gVar 1) (gLc (.one 3) [3] (gSeqL (gFn 1 m_expressions_in (gCons (gOp2 fIx (gVar 2) (gC (.int 3))) gNil))) (gTB (gOp2 (fB (fIn false)) (gOp2 fIx (gVar 3) (gC (.int 0))) (gTup (gCons (gC (.str "load")) (gCons (gC (.str "pick")) gNil))))) (gOp2 fIx (gVar 3) (gC (.int 1))))))) (gIfS (gTB (gOp2 (fB (fEqB false)) (gOp2 fIx (gVar 2) (gC (.int 0))) (gC (.str "copy")))) (gSet 1 (gOp2 fAdd (gVar 1) (gLst (gCons (gOp2 fIx (gVar 2) (gC (.int 1))) (gCons (gOp2 fIx (gVar 2) (gC (.int 3))) gNil))))) gNext)))
  (gRetV 1)))
def m_buffers_in : Fn := fnD 4 g_buffers_in
def g_lives : GS := (gSeq (gUnpT [2, 3] (gVar 0))
  (gSeq (gSet 4 (gLc (.one 10) [10] (gSeqL (gVar 3)) gYes (gFz (gFn 1 m_buffers_in (gCons (gVar 10) gNil)))))
  (gSeq (gSet 5 (gLst gNil))
  (gSeq (gFor (.one 6) (gRangeI fRange1 (gCons (gCall fLen (gCons (gVar 2) gNil)) gNil)) (gIfS (gTB (gOp2 (fB (fEqB false)) (gOp2 fIx (gOp2 fIx (gVar 2) (gVar 6)) (gC (.int 0))) (gC (.str "main")))) (gSeq (gSet 7 (gLc (.one 11) [11] (gRangeI fRange1 (gCons (gCall fLen (gCons (gVar 3) gNil)) gNil)) (gTB (gOp2 (fB (fIn false)) (gVar 6) (gOp2 fIx (gVar 4) (gVar 11)))) (gVar 11)))
  (gSeq (gSet 8 (gIf (gTB (gOp2 (fB fGt) (gCall fLen (gCons (gVar 7) gNil)) (gC (.int 0)))) (gCall fMinL (gCons (gOp2 fAdd (gVar 7) (gLst (gCons (gCall fLen (gCons (gVar 3) gNil)) gNil))) gNil)) (gC (.int 0))))
  (gSeq (gSet 9 (gCall fMaxL (gCons (gOp2 fAdd (gLst (gCons (gC (.int 0)) gNil)) (gVar 7)) gNil)))
  (gSeq (gIfS (gTB (gOp2 (fB (fIn false)) (gVar 6) (gVar 1))) (gSet 9 (gCall fLen (gCons (gVar 3) gNil))) gNext)
  (gApp 5 (gTup (gCons (gVar 8) (gCons (gVar 9) gNil)))))))) gNext))
  (gRet (gCall fTuple (gCons (gVar 5) gNil)))))))
def m_lives : Fn := fnD 12 g_lives
def g_meet : GS := (gRet (gAndV (gOp2 (fB fLe) (gOp2 fIx (gVar 0) (gC (.int 0))) (gOp2 fIx (gVar 1) (gC (.int 1)))) (gOp2 (fB fLe) (gOp2 fIx (gVar 1) (gC (.int 0))) (gOp2 fIx (gVar 0) (gC (.int 1))))))
def m_meet : Fn := fnD 2 g_meet
def g_law : GS := (gSeq (gSet 1 (gFn 1 m__law_begin (gCons (gVar 0) gNil)))
  (gSeq (gUnpT [2, 3] (gFn 2 m__law_program (gCons (gVar 1) (gCons (gOp2 (fB (fEqB false)) (gFn 2 m__law_take (gCons (gVar 1) (gCons (gC (.int 2)) gNil))) (gC (.int 1))) gNil))))
  (gSeq (gSet 3 (gOp2 fAdd (gVar 3) (gFn 5 m__law_body (gCons (gVar 1) (gCons (gVar 2) (gCons (gLst gNil) (gCons (gC (.int 0)) (gCons (gOp2 fAdd (gC (.int 1)) (gFn 2 m__law_take (gCons (gVar 1) (gCons (gC (.int 2)) gNil)))) gNil))))))))
  (gSeq (gSet 4 (gCall fTuple (gCons (gLc (.one 6) [6] (gRangeI fRange1 (gCons (gFn 2 m__law_take (gCons (gVar 1) (gCons (gC (.int 3)) gNil))) gNil)) gYes (gFn 2 m__law_take (gCons (gVar 1) (gCons (gCall fLen (gCons (gVar 2) gNil)) gNil)))) gNil)))
  (gSeq (gSet 5 (gLst gNil))
  (gSeq (gFor (.one 6) (gRangeI fRange1 (gCons (gCall fLen (gCons (gVar 2) gNil)) gNil)) (gIfS (gTB (gOp2 (fB (fEqB false)) (gOp2 fIx (gOp2 fIx (gVar 2) (gVar 6)) (gC (.int 0))) (gC (.str "main")))) (gSeq (gSet 7 (gLc (.one 15) [15] (gRangeI fRange1 (gCons (gCall fLen (gCons (gVar 3) gNil)) gNil)) (gTru (gFn 2 m__law_in (gCons (gOp2 fIx (gVar 3) (gVar 15)) (gCons (gVar 6) gNil)))) (gVar 15)))
  (gSeq (gSet 8 (gIf (gTB (gOp2 (fB fGt) (gCall fLen (gCons (gVar 7) gNil)) (gC (.int 0)))) (gOp2 fIx (gVar 7) (gC (.int 0))) (gC (.int 0))))
  (gSeq (gSet 9 (gIf (gTB (gOp2 (fB (fIn false)) (gVar 6) (gVar 4))) (gCall fLen (gCons (gVar 3) gNil)) (gIf (gTB (gOp2 (fB fGt) (gCall fLen (gCons (gVar 7) gNil)) (gC (.int 0)))) (gOp2 fIx (gVar 7) (gOp1 fNeg (gC (.int 1)))) (gC (.int 0)))))
  (gApp 5 (gTup (gCons (gVar 8) (gCons (gVar 9) gNil))))))) gNext))
  (gSeq (gSet 10 (gFn 2 m_lives (gCons (gTup (gCons (gVar 2) (gCons (gVar 3) gNil))) (gCons (gVar 4) gNil))))
  (gSeq (gIfS (gOr (gNot (gTru (gIsi "tuple" (gVar 10)))) (gTB (gOp2 (fB (fEqB true)) (gVar 10) (gCall fTuple (gCons (gVar 5) gNil))))) (gRet (gC (.bl false))) gNext)
  (gSeq (gFor (.one 11) (gRangeI fRange1 (gCons (gC (.int 3)) gNil)) (gSeq (gSet 12 (gTup (gCons (gFn 2 m__law_take (gCons (gVar 1) (gCons (gC (.int 5)) gNil))) (gCons (gOp2 fAdd (gC (.int 4)) (gFn 2 m__law_take (gCons (gVar 1) (gCons (gC (.int 5)) gNil)))) gNil))))
  (gSeq (gSet 13 (gTup (gCons (gFn 2 m__law_take (gCons (gVar 1) (gCons (gC (.int 9)) gNil))) (gCons (gOp2 fAdd (gC (.int 8)) (gFn 2 m__law_take (gCons (gVar 1) (gCons (gC (.int 5)) gNil)))) gNil))))
  (gSeq (gSet 14 (gFn 2 m_meet (gCons (gVar 12) (gCons (gVar 13) gNil))))
  (gSeq (gIfS (gOr (gNot (gTru (gIsi "bool" (gVar 14)))) (gTB (gOp2 (fB (fEqB true)) (gVar 14) (gOp2 (fB fGt) (gCall fLen (gCons (gLc (.one 15) [15] (gRangeI fRange2 (gCons (gOp2 fIx (gVar 12) (gC (.int 0))) (gCons (gOp2 fAdd (gOp2 fIx (gVar 12) (gC (.int 1))) (gC (.int 1))) gNil))) (gTB (gChain fLe fLe (gOp2 fIx (gVar 13) (gC (.int 0))) (gVar 15) (gOp2 fIx (gVar 13) (gC (.int 1))))) (gVar 15)) gNil)) (gC (.int 0)))))) (gRet (gC (.bl false))) gNext)
  (gIfS (gOr (gTB (gOp2 (fB (fEqB true)) (gFn 2 m_meet (gCons (gVar 13) (gCons (gVar 12) gNil))) (gVar 14))) (gNot (gTru (gFn 2 m_meet (gCons (gVar 12) (gCons (gVar 12) gNil)))))) (gRet (gC (.bl false))) gNext))))))
  (gRet (gC (.bl true))))))))))))
def m_law : Fn := fnD 16 g_law
/-- what the top leaves -/
structure Txt (K : PySem.W.Frag) (mg : Str → Option Value) : Prop where
  b_abs : mg "abs" = none
  b_any : mg "any" = none
  b_bool : mg "bool" = none
  b_int : mg "int" = none
  b_isinstance : mg "isinstance" = none
  b_len : mg "len" = none
  b_list : mg "list" = none
  b_max : mg "max" = none
  b_min : mg "min" = none
  b_range : mg "range" = none
  b_tuple : mg "tuple" = none
  d__law_begin : DefT K mg "_law_begin" s__law_begin ["script"]
  d__law_take : DefT K mg "_law_take" s__law_take ["d", "many"]
  d__law_form : DefT K mg "_law_form" s__law_form ["d", "env", "size"]
  d__law_copy : DefT K mg "_law_copy" s__law_copy ["d", "buffers", "env"]
  d__law_signed : DefT K mg "_law_signed" s__law_signed ["d", "most"]
  d__law_point_info : DefT K mg "_law_point_info" s__law_point_info ["d", "kind"]
  d__law_test : DefT K mg "_law_test" s__law_test ["d", "env"]
  d__law_expr : DefT K mg "_law_expr" s__law_expr ["d", "buffers", "env", "level"]
  d__law_body : DefT K mg "_law_body" s__law_body ["d", "buffers", "env", "depth", "many"]
  d__law_statement : DefT K mg "_law_statement" s__law_statement ["d", "buffers", "env", "depth"]
  d__law_in_expr : DefT K mg "_law_in_expr" s__law_in_expr ["expr", "k"]
  d__law_in : DefT K mg "_law_in" s__law_in ["s", "k"]
  d__law_program : DefT K mg "_law_program" s__law_program ["d", "set_first"]
  d_expressions_in : DefT K mg "expressions_in" s_expressions_in ["expr"]
  d_statements_in : DefT K mg "statements_in" s_statements_in ["body"]
  d_buffers_in : DefT K mg "buffers_in" s_buffers_in ["statement"]
  d_lives : DefT K mg "lives" s_lives ["program", "outs"]
  d_meet : DefT K mg "meet" s_meet ["one", "other"]
  d_law : DefT K mg "law" s_law ["script"]
section
variable {P : Program} {w : World} {K : PySem.W.Frag} {mg : Str → Option Value} {base : Heap}
theorem ok_takeL {f : Addr} {fd : FuncData} (F : Fun K "_law_take" "_law_take" s__law_take f fd) (mL : mg "len" = none) (mA : mg "abs" = none) (mI : mg "int" = none) : FnOk P w K mg base CX0 1 f fd ["d", "many"] spTakeL := by
  refine F.ok sc__law_take (fun vs H Q E h => ?_) (fun cdv A outer s H vs Q E hr h => ?_)
  · obtain ⟨a, s, i, b, z, many, ns, rfl, _⟩ := h
    rfl
  · obtain ⟨a, s, i, b, z, many, ns, rfl, hA, hS, hm, hml, hi, hb, hz, hz2, q⟩ := h
    refine ⟨_, pss_cons (ps_if (PW.pt (pw_and (pt_cmpR op_eq (pe_ix ix_list (pv 0) pe_int (fun _ _ => rfl)) pe_int (nomark _)) (pw_and1 (pt_cmpR op_lt (pe_ix ix_list (pv 0) pe_int (fun _ _ => rfl))
          (pe_callB call_len_seq (by rfl) mL PySem.boot_len (pa_cons (pe_ix ix_list (pv 0) pe_int (fun _ _ => rfl)) pa_nil)) (nomark _)))))
        (pss_cons (ps_asg (pe_callB call_abs (by rfl) mA (by decide +kernel) (pa_cons (pe_callTy call_int1 (by rfl) mI (by decide +kernel) (pa_cons (pe_ix ix_list (pe_ix ix_list (pv 0) pe_int (fun _ _ => rfl)) (pe_ix ix_list (pv 0) pe_int (fun _ _ => rfl)) (fun _ _ => rfl)) pa_nil)) pa_nil)) (pg_sub (pv 0) pe_int set_list))
        (pss_cons (ps_asg (pe_op op_add (pe_ix ix_list (pv 0) pe_int (fun _ _ => rfl)) pe_int) (pg_sub (pv 0) pe_int set_list))
        (pss_one (ps_if (pt_cmpR op_lt (pe_ix ix_list (pv 0) pe_int (fun _ _ => rfl)) (pe_op op_pow pe_int pe_int) (nomark _))
          (pss_cons (ps_set (i := 2) sc__law_take.nd rfl (.inl rfl) (pe_callTy call_int1 (by rfl) mI (by decide +kernel) (pa_cons (pe_ix ix_list (pv 0) pe_int (fun _ _ => rfl)) pa_nil)))
          (pss_cons (ps_asg pe_int (pg_sub (pv 0) pe_int set_list))
          (pss_one (ps_ret (pe_op op_mod (pv 2) (pv 1)))))) pss_nil)))) pss_nil)
      (pss_cons (ps_if (pt_cmpR op_gt (pe_ix ix_list (pv 0) pe_int (fun _ _ => rfl)) pe_int (nomark _))
        (pss_cons (ps_set (i := 3) sc__law_take.nd rfl (.inl rfl) (pe_op op_mod (pe_callTy call_int1 (by rfl) mI (by decide +kernel) (pa_cons (pe_ix ix_list (pv 0) pe_int (fun _ _ => rfl)) pa_nil)) (pv 1)))
        (pss_cons (ps_asg (pe_op op_fdivW (pe_callTy call_int1 (by rfl) mI (by decide +kernel) (pa_cons (pe_ix ix_list (pv 0) pe_int (fun _ _ => rfl)) pa_nil)) (pv 1)) (pg_sub (pv 0) pe_int set_list))
        (pss_one (ps_ret (pv 3))))) pss_nil)
      (pss_cons (ps_asg (pe_op op_mod (pe_callTy call_int1 (by rfl) mI (by decide +kernel) (pa_cons (pe_op op_add (pe_op op_mul (pe_ix ix_list (pv 0) pe_int (fun _ _ => rfl)) pe_int) pe_int) pa_nil)) pe_int) (pg_sub (pv 0) pe_int set_list))
      (pss_one (ps_ret (pe_op op_mod (pe_callTy call_int1 (by rfl) mI (by decide +kernel) (pa_cons (pe_op op_fdiv (pe_ix ix_list (pv 0) pe_int (fun _ _ => rfl)) pe_int) pa_nil)) (pv 1)))))), ?_⟩
    -- the middle: no digit left, the script's next number
    have tailR : ∀ (σ : L2.St) (i b z : Int) (H : Hp), σ[0]? = some (some (.ref a)) → σ[1]? = some (some (.int many)) → H a = some (.lst [.ref s, .int i, .int b, .int z]) → 0 ≤ i → 0 ≤ b → 0 ≤ z → z < 2147483647 → (b = 0 ∨ 0 < b) → σ.length = 4 →
        (∀ r i' b' z' : Int, 0 ≤ r → r < many → 0 ≤ i' → 0 ≤ b' → 0 ≤ z' → z' < 2147483647 → Q (.int r) (upd H a (.lst [.ref s, .int i', .int b', .int z']))) →
        tSeq (tIfS (tTest (tOp (rI0 fun i j => .bl (decide (j < i))) (tOp (rIxL K) (tVar 0) (tC (.int 2))) (tC (.int 0))))
          (tSeq (tAsg (tOp (rI (fun _ j => 0 < j) fun i j => .int (i % j)) (tCB (fun xs H Q => (∃ i, xs = [.int i] ∧ Q (.int i) H) ∨ ∃ k, xs = [.bl k] ∧ Q (.int (if k then 1 else 0)) H) (tCons (tOp (rIxL K) (tVar 0) (tC (.int 2))) tNil)) (tVar 1)) (gName 3))
          (tSeq (tAsg (tOp (rI CDivW fun i j => .int (i / j)) (tCB (fun xs H Q => (∃ i, xs = [.int i] ∧ Q (.int i) H) ∨ ∃ k, xs = [.bl k] ∧ Q (.int (if k then 1 else 0)) H) (tCons (tOp (rIxL K) (tVar 0) (tC (.int 2))) tNil)) (tVar 1)) (gSub (tVar 0) (tC (.int 2)) rSetL))
            (tRet (tVar 3)))) tNext)
        (tSeq (tAsg (tOp (rI (fun _ j => 0 < j) fun i j => .int (i % j)) (tCB (fun xs H Q => (∃ i, xs = [.int i] ∧ Q (.int i) H) ∨ ∃ k, xs = [.bl k] ∧ Q (.int (if k then 1 else 0)) H) (tCons (tOp (rI0 fun i j => .int (i + j)) (tOp (rI CMul fun i j => .int (i * j)) (tOp (rIxL K) (tVar 0) (tC (.int 3))) (tC (.int 48271))) (tC (.int 11))) tNil)) (tC (.int 2147483647))) (gSub (tVar 0) (tC (.int 3)) rSetL))
          (tRet (tOp (rI (fun _ j => 0 < j) fun i j => .int (i % j)) (tCB (fun xs H Q => (∃ i, xs = [.int i] ∧ Q (.int i) H) ∨ ∃ k, xs = [.bl k] ∧ Q (.int (if k then 1 else 0)) H) (tCons (tOp (rI CDiv fun i j => .int (i / j)) (tOp (rIxL K) (tVar 0) (tC (.int 3))) (tC (.int 3))) tNil)) (tVar 1)))) { nx := fun _ H' => Q .non H', rt := Q } σ H := by
      intro σ i b z H h0 h1 hA hi hb hz hz2 hbb hl q
      refine rd_ix h0 hA rfl ⟨b, 0, rfl, rfl, _, rfl, ?_⟩
      rcases hbb with rfl | hb0
      · rw [if_neg (by decide)]
        refine rd_ix h0 hA rfl ⟨z, 48271, rfl, rfl, .inl ⟨by omega, by omega⟩, z * 48271, 11, rfl, rfl, .inl ⟨_, rfl, _, _, rfl, rfl, (by decide : (0 : Int) < 2147483647), ?_⟩⟩
        refine ⟨_, h0, a, _, 3, 3, rfl, rfl, hA, rfl, ?_⟩
        refine rd_ix h0 upd_same rfl ⟨_, 3, rfl, rfl, ⟨by decide, by decide⟩, .inl ⟨_, rfl, _, h1, _, many, rfl, rfl, hm, ?_⟩⟩
        exact q _ _ _ _ (Int.emod_nonneg _ (by omega)) (Int.emod_lt_of_pos _ hm) hi hb (Int.emod_nonneg _ (by decide)) (Int.emod_lt_of_pos _ (by decide))
      · rw [if_pos (decide_eq_true hb0)]
        refine rd_ix h0 hA rfl (.inl ⟨b, rfl, _, h1, _, many, rfl, rfl, hm, ?_⟩)
        have g0 : (σ.set 3 (some (.int (b % many))))[0]? = some (some (.ref a)) := by rw [List.getElem?_set_ne (by decide)]; exact h0
        have g1 : (σ.set 3 (some (.int (b % many))))[1]? = some (some (.int many)) := by rw [List.getElem?_set_ne (by decide)]; exact h1
        refine rd_ix g0 hA rfl (.inl ⟨b, rfl, _, g1, _, many, rfl, rfl, ⟨hm, hml⟩, ?_⟩)
        refine ⟨_, g0, a, _, 2, 2, rfl, rfl, hA, rfl, _, List.getElem?_set_self (by rw [hl]; decide), ?_⟩
        exact q _ _ _ _ (Int.emod_nonneg _ (by omega)) (Int.emod_lt_of_pos _ hm) hi (Int.ediv_nonneg hb (by omega)) hz hz2
    refine rd_ix rfl hA rfl ⟨rfl, _, rfl, ?_⟩
    by_cases hb0 : b = 0
    · subst hb0
      refine iteTT (decide_eq_true rfl) ?_
      refine rd_ix rfl hA rfl (rd_ix rfl hA rfl ⟨s, _, rfl, .inl (SqL.of hS), i, ((ns.map V.int).length : Int), rfl, rfl, _, rfl, ?_⟩)
      by_cases hlt : i < ((ns.map V.int).length : Int)
      · refine iteTT (decide_eq_true hlt) ?_
        have hlen : i.toNat < ns.length := by rw [List.length_map] at hlt; omega
        obtain ⟨m0, hat⟩ : ∃ m0, atI (ns.map V.int) i = some (.int m0) := by
          have e : ((i.toNat : Nat) : Int) = i := by omega
          have h2 : atI (ns.map V.int) (i.toNat : Int) = some (.int ns[i.toNat]) := atI_nat (by
            rw [List.getElem?_map, List.getElem?_eq_getElem (by simpa using hlen)]
            rfl)
          rw [e] at h2
          exact ⟨_, h2⟩
        -- d[2] = abs(int(d[0][d[1]]))
        refine rd_ix rfl hA rfl (rd_ix rfl hA rfl ⟨s, _, i, _, rfl, rfl, SqL.of hS, hat, .inl ⟨_, rfl, _, rfl, ?_⟩⟩)
        have nn : 0 ≤ (if m0 < 0 then -m0 else m0) := by split <;> omega
        generalize (if m0 < 0 then -m0 else m0) = m at nn ⊢
        refine ⟨_, rfl, a, _, 2, 2, rfl, rfl, hA, rfl, ?_⟩
        -- d[1] = d[1] + 1
        refine rd_ix rfl upd_same rfl ⟨i, 1, rfl, rfl, _, rfl, a, _, 1, 1, rfl, rfl, upd_same, rfl, ?_⟩
        rw [upd_upd]
        refine rd_ix rfl upd_same rfl ⟨10, 18, rfl, rfl, ⟨by decide, by decide, by decide⟩, m, 10 ^ 18, rfl, rfl, _, rfl, ?_⟩
        have fin : ∀ r i' b' z' : Int, 0 ≤ r → r < many → 0 ≤ i' → 0 ≤ b' → 0 ≤ z' → z' < 2147483647 → Q (.int r) (upd (upd H a (.lst [.ref s, .int (i + 1), .int m, .int z])) a (.lst [.ref s, .int i', .int b', .int z'])) := fun r i' b' z' h1 h2 h3 h4 h5 h6 => by rw [upd_upd]; exact q r i' b' z' h1 h2 h3 h4 h5 h6
        by_cases hs : m < 10 ^ 18
        · refine iteTT (decide_eq_true hs) ?_
          refine rd_ix rfl upd_same rfl (.inl ⟨m, rfl, ?_⟩)
          refine ⟨_, rfl, a, _, 2, 2, rfl, rfl, upd_same, rfl, ?_⟩
          refine ⟨_, rfl, _, rfl, m, many, rfl, rfl, hm, ?_⟩
          exact fin _ _ _ _ (Int.emod_nonneg _ (by omega)) (Int.emod_lt_of_pos _ hm) (by omega) (by omega) hz hz2
        · refine iteFF (decide_eq_false hs) ?_
          exact tailR _ _ _ _ _ rfl rfl upd_same (by omega) nn hz hz2 (.inr (by omega)) rfl fin
      · refine iteFF (decide_eq_false hlt) ?_
        exact tailR _ _ _ _ _ rfl rfl hA hi hb hz hz2 (.inl rfl) rfl q
    · refine iteFF (decide_eq_false (fun e : V.int b = V.int 0 => hb0 (V.int.inj e))) ?_
      refine iteFF rfl ?_
      exact tailR _ _ _ _ _ rfl rfl hA hi hb hz hz2 (.inr (by omega)) rfl q
theorem ok_begL {f : Addr} {fd : FuncData} (F : Fun K "_law_begin" "_law_begin" s__law_begin f fd) (mI : mg "int" = none) (mL : mg "list" = none) : FnOk P w K mg base CX0 1 f fd ["script"] (spBegL K) := by
  refine F.ok sc__law_begin (fun vs H Q E h => ?_) (fun cdv A outer s H vs Q E hr h => ?_)
  · obtain ⟨p, ns, rfl, _⟩ := h
    rfl
  · obtain ⟨p, ns, rfl, hn, hS, q⟩ := h
    refine ⟨_, pss_cons (ps_set (i := 1) sc__law_begin.nd rfl (.inl rfl) pe_int)
      (pss_cons (ps_for PassesOwn.never rfl (pi_list (pv 0)) (pg_name (i := 2) sc__law_begin.nd rfl (.inl rfl))
        (pss_one (ps_set (i := 1) sc__law_begin.nd rfl (.inl rfl) (pe_op op_mod (pe_op op_add (pe_op op_add (pe_op op_mul (pv 1) pe_int) (pe_op op_mod (pe_callTy call_int1 (by rfl) mI (by decide +kernel) (pa_cons (pv 2) pa_nil)) pe_int)) pe_int) pe_int))))
      (pss_one (ps_ret (pe_lst (pa_cons (pe_callTy call_list_of (by rfl) mL (by decide +kernel) (pa_cons (pv 0) pa_nil)) (pa_cons pe_int (pa_cons pe_int (pa_cons (pv 1) pa_nil)))))))), ?_⟩
    refine ⟨_, rfl, p, rfl, ⟨_, hS⟩, fun i m σ H3 => ∃ (z : Int) (y2 : Option V), σ = [some (.ref p), some (.int z), y2] ∧ 0 ≤ z ∧ z < 2147483647 ∧ H3 = H ∧ i + m = ns.length, ⟨ns.length, 1, none, rfl, by decide, by decide, rfl, by omega⟩, fun i m σ H3 hW => ?_⟩
    obtain ⟨z, y2, rfl, hz, hz2, rfl, em⟩ := hW
    by_cases hi : i < ns.length
    · have g : (ns.map V.int)[i]? = some (.int ns[i]) := by
        rw [List.getElem?_map, List.getElem?_eq_getElem hi]
        rfl
      refine .inr ⟨⟨_, _, hS, g⟩, fun σ' H' => ∃ (z : Int) (y2 : Option V), σ' = [some (.ref p), some (.int z), y2] ∧ 0 ≤ z ∧ z < 2147483647 ∧ H' = H3, fun σ' H' hN => ?_, fun v H' hy => ?_⟩
      · obtain ⟨z, y2, e1, h1, h2, h3⟩ := hN
        exact ⟨m - 1, by omega, z, y2, e1, h1, h2, h3, by omega⟩
      · obtain ⟨rfl, fv⟩ := hy
        have ev : v = .int ns[i] := Option.some.inj ((fv _ hS).symm.trans g)
        subst ev
        refine ⟨_, rfl, ?_⟩
        refine ⟨z, 69621, rfl, rfl, .inl ⟨by omega, by omega⟩, ?_⟩
        refine ⟨_, rfl, .inl ⟨_, rfl, _, 2147483629, rfl, rfl, (by decide : (0 : Int) < 2147483629), _, _, rfl, rfl, _, 7, rfl, rfl, _, 2147483647, rfl, rfl, (by decide : (0 : Int) < 2147483647), ?_⟩⟩
        exact ⟨_, _, rfl, Int.emod_nonneg _ (by decide), Int.emod_lt_of_pos _ (by decide), rfl⟩
    · refine .inl ⟨⟨_, hS, by rw [List.length_map]; omega⟩, ?_⟩
      refine ⟨_, rfl, p, _, rfl, .inl hS, fun s0 ns0 => ⟨_, rfl, by rw [sizeLine_eq]; show 4 ≤ 16777216; decide, fun a na => ?_⟩⟩
      have nas : a ≠ s0 := fun e => by rw [e, upd_same] at na; cases na
      have na0 : H3 a = none := by rw [upd_ne nas] at na; exact na
      refine q a s0 z _ (fun c o e => ?_) na0 ns0 nas upd_same (by rw [upd_ne nas.symm, upd_same]) hz hz2
      rw [upd_ne (fun z => by subst z; rw [na0] at e; cases e), upd_ne (fun z => by subst z; rw [ns0] at e; cases e)]
      exact e
theorem ok__law_begin (T : Txt K mg) : FD P w K mg base 1 "_law_begin" 1 m__law_begin := fd_of T.d__law_begin fun a fd F => begin_hide (ok_begL F T.b_int T.b_list) rfl
theorem ok__law_take (T : Txt K mg) : FD P w K mg base 1 "_law_take" 2 m__law_take := fd_of T.d__law_take fun a fd F => take_hide (ok_takeL F T.b_len T.b_abs T.b_int) rfl
theorem ok__law_form (T : Txt K mg) : FD P w K mg base 2 "_law_form" 3 m__law_form := fd_of T.d__law_form fun a fd F => fn_ok F sc__law_form fun cdv A outer s H E hr =>
  (dss_cons (ds_set (i := 3) sc__law_form.nd rfl (.inl rfl) (de_lst da_nil))
  (dss_cons (ds_set (i := 4) sc__law_form.nd rfl (.inl rfl) de_int)
  (dss_cons (ds_set (i := 5) sc__law_form.nd rfl (.inl rfl) de_int)
  (dss_cons (ds_forV (t := (.tup [6, 7])) (i := 1) rfl (.inl rfl) (passes_of rfl) rfl (pg_tup rfl (pgs_cons (pg_name (i := 6) sc__law_form.nd rfl (.inl rfl)) (pgs_cons (pg_name (i := 7) sc__law_form.nd rfl (.inl rfl)) pgs_nil))) (dss_one (ds_if (dt_cmp op_gt og_intB (de_call ((ok__law_take T).mono (by decide)) hr (takes_of rfl rfl rfl rfl) (da_cons (dv 0) (da_cons de_int da_nil))) de_int (nomark _)) (dss_cons (ds_set (i := 8) sc__law_form.nd rfl (.inr rfl) (de_ix (hu_of hr) (de_tup (da_cons de_int (da_cons de_int (da_cons de_int (da_cons (de_sub de_int de_int) da_nil))))) (de_call ((ok__law_take T).mono (by decide)) hr (takes_of rfl rfl rfl rfl) (da_cons (dv 0) (da_cons de_int da_nil)))))
  (dss_cons (ds_setLc2 (own := [("v", 10)]) (i := 9) rfl sc__law_form.nd rfl rfl rfl (di2_seq (dv 7)) (blkOk_by (N := n__law_form) (sc := defScope s__law_form) (by decide +kernel)) (fun _ _ _ _ _ => (pg_name (i := 10) sc__law_form.nd rfl (.inl rfl))) (fun _ _ _ _ _ => dts_nil) (fun _ _ _ _ _ => (de_mul (dv 8) (dv 10))))
  (dss_one (ds_if (dt_cmp op_lt og_intB (de_sub (de_sub (de_add (dv 5) (de_max rfl T.b_max (da_cons (dv 9) da_nil))) (dv 4)) (de_min rfl T.b_min (da_cons (dv 9) da_nil))) (dv 2) (nomark _)) (dss_cons (ds_app (i := 3) rfl (.inl rfl) (de_tup (da_cons (dv 6) (da_cons (dv 8) da_nil))))
  (dss_cons (ds_set (i := 4) sc__law_form.nd rfl (.inl rfl) (de_add (dv 4) (de_min rfl T.b_min (da_cons (dv 9) da_nil))))
  (dss_one (ds_set (i := 5) sc__law_form.nd rfl (.inl rfl) (de_add (dv 5) (de_max rfl T.b_max (da_cons (dv 9) da_nil))))))) dss_nil)))) dss_nil)))
  (dss_one (ds_ret (de_tup (da_cons (de_sub (de_call ((ok__law_take T).mono (by decide)) hr (takes_of rfl rfl rfl rfl) (da_cons (dv 0) (da_cons (de_add (de_sub (dv 2) (dv 5)) (dv 4)) da_nil))) (dv 4)) (da_cons (de_tuple T.b_tuple (da_cons (dv 3) da_nil)) da_nil)))))))))
theorem ok__law_copy (T : Txt K mg) : FD P w K mg base 3 "_law_copy" 3 m__law_copy := fd_of T.d__law_copy fun a fd F => fn_ok F sc__law_copy fun cdv A outer s H E hr =>
  (dss_cons (ds_setLc2 (own := [("k", 10)]) (i := 3) rfl sc__law_copy.nd rfl rfl rfl (DI.two (di_range1 T.b_range (da_cons (de_len T.b_len (da_cons (dv 1) da_nil)) da_nil))) (blkOk_by (N := n__law_copy) (sc := defScope s__law_copy) (by decide +kernel)) (fun _ _ _ _ _ => (pg_name (i := 10) sc__law_copy.nd rfl (.inl rfl))) (fun _ _ _ _ _ => (dts_one (dt_cmp (op_eqA (hu64 hr)) og_eq (de_ix (hu_of hr) (de_ix (hu_of hr) (dv 1) (dv 10)) de_int) de_str (nomark _)))) (fun _ _ _ _ _ => (dv 10)))
  (dss_cons (ds_setLc2 (own := [("k", 10)]) (i := 4) rfl sc__law_copy.nd rfl rfl rfl (DI.two (di_range1 T.b_range (da_cons (de_len T.b_len (da_cons (dv 1) da_nil)) da_nil))) (blkOk_by (N := n__law_copy) (sc := defScope s__law_copy) (by decide +kernel)) (fun _ _ _ _ _ => (pg_name (i := 10) sc__law_copy.nd rfl (.inl rfl))) (fun _ _ _ _ _ => (dts_one (dt_cmp (op_neA (hu64 hr)) og_ne (de_ix (hu_of hr) (de_ix (hu_of hr) (dv 1) (dv 10)) de_int) de_str (nomark _)))) (fun _ _ _ _ _ => (dv 10)))
  (dss_cons (ds_if (dt_cmp (op_eqA (hu64 hr)) og_eq (de_len T.b_len (da_cons (dv 3) da_nil)) de_int (nomark _)) (dss_one (ds_ret de_non)) dss_nil)
  (dss_cons (ds_set (i := 5) sc__law_copy.nd rfl (.inl rfl) (de_ix (hu_of hr) (dv 3) (de_call ((ok__law_take T).mono (by decide)) hr (takes_of rfl rfl rfl rfl) (da_cons (dv 0) (da_cons (de_len T.b_len (da_cons (dv 3) da_nil)) da_nil)))))
  (dss_cons (ds_set (i := 6) sc__law_copy.nd rfl (.inl rfl) (de_ix (hu_of hr) (dv 4) (de_call ((ok__law_take T).mono (by decide)) hr (takes_of rfl rfl rfl rfl) (da_cons (dv 0) (da_cons (de_len T.b_len (da_cons (dv 4) da_nil)) da_nil)))))
  (dss_cons (ds_set (i := 7) sc__law_copy.nd rfl (.inl rfl) (de_add de_int (de_call ((ok__law_take T).mono (by decide)) hr (takes_of rfl rfl rfl rfl) (da_cons (dv 0) (da_cons (de_min rfl T.b_min (da_cons (de_ix (hu_of hr) (de_ix (hu_of hr) (dv 1) (dv 5)) de_int) (da_cons (de_ix (hu_of hr) (de_ix (hu_of hr) (dv 1) (dv 6)) de_int) da_nil))) da_nil)))))
  (dss_cons (ds_set (i := 8) sc__law_copy.nd rfl (.inl rfl) (de_call ((ok__law_form T).mono (by decide)) hr (takes_of rfl rfl rfl rfl) (da_cons (dv 0) (da_cons (dv 2) (da_cons (de_add (de_sub (de_ix (hu_of hr) (de_ix (hu_of hr) (dv 1) (dv 5)) de_int) (dv 7)) de_int) da_nil)))))
  (dss_cons (ds_set (i := 9) sc__law_copy.nd rfl (.inl rfl) (de_call ((ok__law_form T).mono (by decide)) hr (takes_of rfl rfl rfl rfl) (da_cons (dv 0) (da_cons (dv 2) (da_cons (de_add (de_sub (de_ix (hu_of hr) (de_ix (hu_of hr) (dv 1) (dv 6)) de_int) (dv 7)) de_int) da_nil)))))
  (dss_cons (ds_if (dt_w (dw_and (dt_cmp (op_eqA (hu64 hr)) og_eq (de_ix (hu_of hr) (de_ix (hu_of hr) (dv 1) (dv 6)) de_int) de_str (nomark _)) (dw_and1 (dt_cmp (op_eqA (hu64 hr)) og_eq (de_call ((ok__law_take T).mono (by decide)) hr (takes_of rfl rfl rfl rfl) (da_cons (dv 0) (da_cons de_int da_nil))) de_int (nomark _))))) (dss_one (ds_ret (de_tup (da_cons de_str (da_cons (dv 6) (da_cons (dv 9) (da_cons (dv 5) (da_cons (dv 8) (da_cons (dv 7) da_nil))))))))) dss_nil)
  (dss_one (ds_ret (de_tup (da_cons de_str (da_cons (dv 5) (da_cons (dv 8) (da_cons (dv 6) (da_cons (dv 9) (da_cons (dv 7) da_nil))))))))))))))))))
theorem ok__law_signed (T : Txt K mg) : FD P w K mg base 2 "_law_signed" 2 m__law_signed := fd_of T.d__law_signed fun a fd F => fn_ok F sc__law_signed fun cdv A outer s H E hr =>
  (dss_one (ds_ret (de_sub (de_call ((ok__law_take T).mono (by decide)) hr (takes_of rfl rfl rfl rfl) (da_cons (dv 0) (da_cons (de_add (de_mul de_int (dv 1)) de_int) da_nil))) (dv 1))))
theorem ok__law_point_info (T : Txt K mg) : FD P w K mg base 3 "_law_point_info" 2 m__law_point_info := fd_of T.d__law_point_info fun a fd F => fn_ok F sc__law_point_info fun cdv A outer s H E hr =>
  (dss_cons (ds_if (dt_cmp (op_eqA (hu64 hr)) og_eq (dv 1) de_str (nomark _)) (dss_cons (ds_set (i := 2) sc__law_point_info.nd rfl (.inl rfl) (de_call ((ok__law_signed T).mono (by decide)) hr (takes_of rfl rfl rfl rfl) (da_cons (dv 0) (da_cons de_int da_nil))))
  (dss_one (ds_ret (de_tup (da_cons (dv 2) (da_cons (de_add (dv 2) (de_call ((ok__law_take T).mono (by decide)) hr (takes_of rfl rfl rfl rfl) (da_cons (dv 0) (da_cons de_int da_nil)))) da_nil)))))) dss_nil)
  (dss_one (ds_ret (de_if (dt_cmp (op_eqA (hu64 hr)) og_eq (dv 1) de_str (nomark _)) (de_tup (da_cons (de_add de_int (de_call ((ok__law_take T).mono (by decide)) hr (takes_of rfl rfl rfl rfl) (da_cons (dv 0) (da_cons de_int da_nil)))) da_nil)) (de_tup da_nil)))))
theorem ok__law_test (T : Txt K mg) : FD P w K mg base 3 "_law_test" 2 m__law_test := fd_of T.d__law_test fun a fd F => fn_ok F sc__law_test fun cdv A outer s H E hr =>
  (dss_cons (ds_set (i := 2) sc__law_test.nd rfl (.inl rfl) (de_tuple T.b_tuple (da_cons (de_lc2 (own := [("var", 3), ("values", 4)]) rfl sc__law_test.nd (di2_seq (de_slice (dv 1) do_none (do_some de_int))) (blkOk_by (N := n__law_test) (sc := defScope s__law_test) (by decide +kernel)) (fun _ _ _ _ _ => (pg_tup rfl (pgs_cons (pg_name (i := 3) sc__law_test.nd rfl (.inl rfl)) (pgs_cons (pg_name (i := 4) sc__law_test.nd rfl (.inl rfl)) pgs_nil)))) (fun _ _ _ _ _ => dts_nil) (fun _ _ _ _ _ => (de_tup (da_cons (dv 3) (da_cons (de_ix (hu_of hr) (de_tup (da_cons de_int (da_cons (de_sub de_int de_int) (da_cons de_int da_nil)))) (de_call ((ok__law_take T).mono (by decide)) hr tk0 (da_cons (dv 0) (da_cons de_int da_nil)))) da_nil))))) da_nil)))
  (dss_one (ds_ret (de_tup (da_cons (de_call ((ok__law_signed T).mono (by decide)) hr (takes_of rfl rfl rfl rfl) (da_cons (dv 0) (da_cons de_int da_nil))) (da_cons (dv 2) da_nil))))))
theorem ok__law_expr_s (T : Txt K mg) {mh : Fn} {k : Nat} (IH : FD P w K mg base k "_law_expr" 4 mh) (hk : 3 ≤ k) : FD P w K mg base (k + 1) "_law_expr" 4 (fnD 15 (g__law_expr mh)) := fd_of T.d__law_expr fun a fd F => fn_ok F sc__law_expr fun cdv A outer s H E hr =>
  (dss_cons (ds_set (i := 4) sc__law_expr.nd rfl (.inl rfl) (de_if (dt_cmp op_lt og_intB (dv 3) de_int (nomark _)) (de_call ((ok__law_take T).mono (Nat.le_trans (by decide) hk)) hr (takes_of rfl rfl rfl rfl) (da_cons (dv 0) (da_cons de_int da_nil))) (de_call ((ok__law_take T).mono (Nat.le_trans (by decide) hk)) hr (takes_of rfl rfl rfl rfl) (da_cons (dv 0) (da_cons de_int da_nil)))))
  (dss_cons (ds_if (dt_cmp (op_eqA (hu64 hr)) og_eq (dv 4) de_int (nomark _)) (dss_one (ds_ret (de_tup (da_cons de_str (da_cons (de_call ((ok__law_signed T).mono (Nat.le_trans (by decide) hk)) hr (takes_of rfl rfl rfl rfl) (da_cons (dv 0) (da_cons de_int da_nil))) da_nil))))) dss_nil)
  (dss_cons (ds_if (dt_cmp (op_eqA (hu64 hr)) og_eq (dv 4) de_int (nomark _)) (dss_one (ds_ret (de_tup (da_cons de_str (da_cons (de_call ((ok__law_test T).mono (Nat.le_trans (by decide) hk)) hr (takes_of rfl rfl rfl rfl) (da_cons (dv 0) (da_cons (dv 2) da_nil))) da_nil))))) dss_nil)
  (dss_cons (ds_set (i := 5) sc__law_expr.nd rfl (.inl rfl) (de_call ((ok__law_take T).mono (Nat.le_trans (by decide) hk)) hr (takes_of rfl rfl rfl rfl) (da_cons (dv 0) (da_cons (de_len T.b_len (da_cons (dv 1) da_nil)) da_nil))))
  (dss_cons (ds_set (i := 6) sc__law_expr.nd rfl (.inl rfl) (de_ix (hu_of hr) (de_ix (hu_of hr) (dv 1) (dv 5)) de_int))
  (dss_cons (ds_if (dt_cmp op_lt og_intB (dv 4) de_int (nomark _)) (dss_one (ds_ret (de_tup (da_cons de_str (da_cons (dv 5) (da_cons (de_call ((ok__law_form T).mono (Nat.le_trans (by decide) hk)) hr (takes_of rfl rfl rfl rfl) (da_cons (dv 0) (da_cons (dv 2) (da_cons (dv 6) da_nil)))) da_nil)))))) dss_nil)
  (dss_cons (ds_if (dt_cmp (op_eqA (hu64 hr)) og_eq (dv 4) de_int (nomark _)) (dss_one (ds_ret (de_tup (da_cons de_str (da_cons (de_call ((ok__law_test T).mono (Nat.le_trans (by decide) hk)) hr (takes_of rfl rfl rfl rfl) (da_cons (dv 0) (da_cons (dv 2) da_nil))) (da_cons (de_call (IH.mono (by omega)) hr (takes_of rfl rfl rfl rfl) (da_cons (dv 0) (da_cons (dv 1) (da_cons (dv 2) (da_cons (de_add (dv 3) de_int) da_nil))))) (da_cons (de_call (IH.mono (by omega)) hr (takes_of rfl rfl rfl rfl) (da_cons (dv 0) (da_cons (dv 1) (da_cons (dv 2) (da_cons (de_add (dv 3) de_int) da_nil))))) da_nil))))))) dss_nil)
  (dss_cons (ds_if (dt_cmp (op_eqA (hu64 hr)) og_eq (dv 4) de_int (nomark _)) (dss_cons (ds_set (i := 7) sc__law_expr.nd rfl (.inl rfl) (de_add de_int (de_call ((ok__law_take T).mono (Nat.le_trans (by decide) hk)) hr (takes_of rfl rfl rfl rfl) (da_cons (dv 0) (da_cons (de_min rfl T.b_min (da_cons de_int (da_cons (dv 6) da_nil))) da_nil)))))
  (dss_cons (ds_set (i := 8) sc__law_expr.nd rfl (.inl rfl) (de_if (dt_cmp op_lt og_intB (de_mul de_int (de_sub (dv 7) de_int)) (dv 6) (nomark _)) (de_ix (hu_of hr) (de_tup (da_cons de_int (da_cons de_int (da_cons de_int da_nil)))) (de_call ((ok__law_take T).mono (Nat.le_trans (by decide) hk)) hr (takes_of rfl rfl rfl rfl) (da_cons (dv 0) (da_cons de_int da_nil)))) de_int))
  (dss_cons (ds_set (i := 9) sc__law_expr.nd rfl (.inl rfl) (de_call ((ok__law_form T).mono (Nat.le_trans (by decide) hk)) hr (takes_of rfl rfl rfl rfl) (da_cons (dv 0) (da_cons (dv 2) (da_cons (de_sub (dv 6) (de_mul (dv 8) (de_sub (dv 7) de_int))) da_nil)))))
  (dss_one (ds_ret (de_tup (da_cons de_str (da_cons (dv 5) (da_cons (dv 9) (da_cons (dv 8) (da_cons (dv 7) (da_cons (de_call (IH.mono (by omega)) hr (takes_of rfl rfl rfl rfl) (da_cons (dv 0) (da_cons (dv 1) (da_cons (dv 2) (da_cons (de_add (dv 3) de_int) da_nil))))) da_nil)))))))))))) dss_nil)
  (dss_cons (ds_set (i := 10) sc__law_expr.nd rfl (.inl rfl) (de_tup (da_cons de_str (da_cons de_str (da_cons de_str (da_cons de_str (da_cons de_str (da_cons de_str (da_cons de_str (da_cons de_str (da_cons de_str (da_cons de_str (da_cons de_str (da_cons de_str da_nil))))))))))))))
  (dss_cons (ds_set (i := 11) sc__law_expr.nd rfl (.inl rfl) (de_ix (hu_of hr) (dv 10) (de_call ((ok__law_take T).mono (Nat.le_trans (by decide) hk)) hr (takes_of rfl rfl rfl rfl) (da_cons (dv 0) (da_cons de_int da_nil)))))
  (dss_cons (ds_set (i := 12) sc__law_expr.nd rfl (.inl rfl) (de_if (dt_cmp (op_inA (hu_of hr)) og_in (dv 11) (de_tup (da_cons de_str (da_cons de_str (da_cons de_str da_nil)))) (by rfl)) de_int (de_if (dt_cmp (op_eqA (hu64 hr)) og_eq (dv 11) de_str (nomark _)) de_int de_int)))
  (dss_cons (ds_set (i := 13) sc__law_expr.nd rfl (.inl rfl) (de_tuple T.b_tuple (da_cons (de_lc2 (own := [("j", 14)]) rfl sc__law_expr.nd (DI.two (di_range1 T.b_range (da_cons (dv 12) da_nil))) (blkOk_by (N := n__law_expr) (sc := defScope s__law_expr) (by decide +kernel)) (fun _ _ _ _ _ => (pg_name (i := 14) sc__law_expr.nd rfl (.inl rfl))) (fun _ _ _ _ _ => dts_nil) (fun _ _ _ _ _ => (de_call (IH.mono (by omega)) hr tk0 (da_cons (dv 0) (da_cons (dv 1) (da_cons (dv 2) (da_cons (de_add (dv 3) de_int) da_nil))))))) da_nil)))
  (dss_one (ds_ret (de_tup (da_cons de_str (da_cons (dv 11) (da_cons (dv 13) (da_cons (de_call ((ok__law_point_info T).mono (Nat.le_trans (by decide) hk)) hr (takes_of rfl rfl rfl rfl) (da_cons (dv 0) (da_cons (dv 11) da_nil))) da_nil)))))))))))))))))))
theorem ok__law_expr_r (T : Txt K mg) : ∀ n, FD P w K mg base (4 + 1 * n) "_law_expr" 4 (m__law_expr_r n)
  | 0 => (fd_of T.d__law_expr fun a fd F => fn_ok (k := 3) F sc__law_expr fun cdv A outer s H E hr => dss_bad : FD P w K mg base 4 "_law_expr" 4 (fnD 15 gBad))
  | n + 1 => (ok__law_expr_s T (ok__law_expr_r T n) (by omega)).mono (by omega)
theorem ok__law_expr (T : Txt K mg) : FD P w K mg base 8 "_law_expr" 4 m__law_expr := (ok__law_expr_r T 4).mono (by decide)
theorem ok__law_body_r (T : Txt K mg) {mh : Fn} {k : Nat} (IH : FD P w K mg base k "_law_statement" 4 mh) (hk : 8 ≤ k) : FD P w K mg base (k + 1) "_law_body" 5 (m__law_body_r mh) := fd_of T.d__law_body fun a fd F => fn_ok F sc__law_body fun cdv A outer s H E hr =>
  (dss_one (ds_ret (de_tuple T.b_tuple (da_cons (de_lc2 (own := [("k", 5)]) rfl sc__law_body.nd (DI.two (di_range1 T.b_range (da_cons (dv 4) da_nil))) (blkOk_by (N := n__law_body) (sc := defScope s__law_body) (by decide +kernel)) (fun _ _ _ _ _ => (pg_name (i := 5) sc__law_body.nd rfl (.inl rfl))) (fun _ _ _ _ _ => dts_nil) (fun _ _ _ _ _ => (de_call (IH.mono (by omega)) hr tk0 (da_cons (dv 0) (da_cons (dv 1) (da_cons (dv 2) (da_cons (dv 3) da_nil))))))) da_nil))))
theorem ok__law_statement_s (T : Txt K mg) {mh : Fn} {k : Nat} (IH : FD P w K mg base k "_law_statement" 4 mh) (hk : 8 ≤ k) : FD P w K mg base (k + 2) "_law_statement" 4 (fnD 13 (g__law_statement mh)) := fd_of T.d__law_statement fun a fd F => fn_ok F sc__law_statement fun cdv A outer s H E hr =>
  (dss_cons (ds_set (i := 4) sc__law_statement.nd rfl (.inl rfl) (de_call ((ok__law_take T).mono (Nat.le_trans (by decide) (Nat.le_succ_of_le hk))) hr (takes_of rfl rfl rfl rfl) (da_cons (dv 0) (da_cons de_int da_nil))))
  (dss_cons (ds_if (dt_w (dw_and (dt_cmp op_lt og_intB (dv 4) de_int (nomark _)) (dw_and1 (dt_cmp op_lt og_intB (dv 3) de_int (nomark _))))) (dss_cons (ds_set (i := 5) sc__law_statement.nd rfl (.inl rfl) (de_add (de_mul de_int (dv 3)) (de_call ((ok__law_take T).mono (Nat.le_trans (by decide) (Nat.le_succ_of_le hk))) hr (takes_of rfl rfl rfl rfl) (da_cons (dv 0) (da_cons de_int da_nil)))))
  (dss_cons (ds_set (i := 6) sc__law_statement.nd rfl (.inl rfl) (de_add de_int (de_call ((ok__law_take T).mono (Nat.le_trans (by decide) (Nat.le_succ_of_le hk))) hr (takes_of rfl rfl rfl rfl) (da_cons (dv 0) (da_cons de_int da_nil)))))
  (dss_cons (ds_set (i := 7) sc__law_statement.nd rfl (.inr rfl) (de_call ((ok__law_signed T).mono (Nat.le_trans (by decide) (Nat.le_succ_of_le hk))) hr (takes_of rfl rfl rfl rfl) (da_cons (dv 0) (da_cons de_int da_nil))))
  (dss_cons (ds_set (i := 8) sc__law_statement.nd rfl (.inr rfl) (de_ix (hu_of hr) (de_tup (da_cons de_int (da_cons de_int (da_cons de_int (da_cons (de_sub de_int de_int) da_nil))))) (de_call ((ok__law_take T).mono (Nat.le_trans (by decide) (Nat.le_succ_of_le hk))) hr (takes_of rfl rfl rfl rfl) (da_cons (dv 0) (da_cons de_int da_nil)))))
  (dss_cons (ds_set (i := 9) sc__law_statement.nd rfl (.inl rfl) (de_add (dv 2) (de_lst (da_cons (de_tup (da_cons (dv 5) (da_cons (de_fz (de_lc2 (own := [("k", 12)]) rfl sc__law_statement.nd (DI.two (di_range1 T.b_range (da_cons (dv 6) da_nil))) (blkOk_by (N := n__law_statement) (sc := defScope s__law_statement) (by decide +kernel)) (fun _ _ _ _ _ => (pg_name (i := 12) sc__law_statement.nd rfl (.inl rfl))) (fun _ _ _ _ _ => dts_nil) (fun _ _ _ _ _ => (de_add (dv 7) (de_mul (dv 8) (dv 12)))))) da_nil))) da_nil))))
  (dss_one (ds_ret (de_tup (da_cons de_str (da_cons (dv 5) (da_cons (dv 7) (da_cons (dv 8) (da_cons (dv 6) (da_cons (de_call ((ok__law_body_r T IH (by omega)).mono (by omega)) hr (takes_of rfl rfl rfl rfl) (da_cons (dv 0) (da_cons (dv 1) (da_cons (dv 9) (da_cons (de_add (dv 3) de_int) (da_cons (de_add de_int (de_call ((ok__law_take T).mono (Nat.le_trans (by decide) (Nat.le_succ_of_le hk))) hr (takes_of rfl rfl rfl rfl) (da_cons (dv 0) (da_cons de_int da_nil)))) da_nil)))))) da_nil)))))))))))))) dss_nil)
  (dss_cons (ds_if (dt_w (dw_and (dt_cmp (op_eqA (hu64 hr)) og_eq (dv 4) de_int (nomark _)) (dw_and1 (dt_cmp op_lt og_intB (dv 3) de_int (nomark _))))) (dss_one (ds_ret (de_tup (da_cons de_str (da_cons (de_call ((ok__law_test T).mono (Nat.le_trans (by decide) (Nat.le_succ_of_le hk))) hr (takes_of rfl rfl rfl rfl) (da_cons (dv 0) (da_cons (dv 2) da_nil))) (da_cons (de_call ((ok__law_body_r T IH (by omega)).mono (by omega)) hr (takes_of rfl rfl rfl rfl) (da_cons (dv 0) (da_cons (dv 1) (da_cons (dv 2) (da_cons (de_add (dv 3) de_int) (da_cons (de_add de_int (de_call ((ok__law_take T).mono (Nat.le_trans (by decide) (Nat.le_succ_of_le hk))) hr (takes_of rfl rfl rfl rfl) (da_cons (dv 0) (da_cons de_int da_nil)))) da_nil)))))) da_nil)))))) dss_nil)
  (dss_cons (ds_if (dt_cmp (op_eqA (hu64 hr)) og_eq (dv 4) de_int (nomark _)) (dss_cons (ds_set (i := 10) sc__law_statement.nd rfl (.inl rfl) (de_call ((ok__law_copy T).mono (Nat.le_trans (by decide) (Nat.le_succ_of_le hk))) hr (takes_of rfl rfl rfl rfl) (da_cons (dv 0) (da_cons (dv 1) (da_cons (dv 2) da_nil)))))
  (dss_one (ds_if (dt_cmp op_notN og_notN (dv 10) de_non (nomark _)) (dss_one (ds_retV (i := 10) rfl (.inl rfl))) dss_nil))) dss_nil)
  (dss_cons (ds_setLc2 (own := [("k", 12)]) (i := 11) rfl sc__law_statement.nd rfl rfl rfl (DI.two (di_range1 T.b_range (da_cons (de_len T.b_len (da_cons (dv 1) da_nil)) da_nil))) (blkOk_by (N := n__law_statement) (sc := defScope s__law_statement) (by decide +kernel)) (fun _ _ _ _ _ => (pg_name (i := 12) sc__law_statement.nd rfl (.inl rfl))) (fun _ _ _ _ _ => (dts_one (dt_cmp (op_neA (hu64 hr)) og_ne (de_ix (hu_of hr) (de_ix (hu_of hr) (dv 1) (dv 12)) de_int) de_str (nomark _)))) (fun _ _ _ _ _ => (dv 12)))
  (dss_cons (ds_set (i := 12) sc__law_statement.nd rfl (.inl rfl) (de_ix (hu_of hr) (dv 11) (de_call ((ok__law_take T).mono (Nat.le_trans (by decide) (Nat.le_succ_of_le hk))) hr (takes_of rfl rfl rfl rfl) (da_cons (dv 0) (da_cons (de_len T.b_len (da_cons (dv 11) da_nil)) da_nil)))))
  (dss_one (ds_ret (de_tup (da_cons de_str (da_cons (dv 12) (da_cons (de_call ((ok__law_form T).mono (Nat.le_trans (by decide) (Nat.le_succ_of_le hk))) hr (takes_of rfl rfl rfl rfl) (da_cons (dv 0) (da_cons (dv 2) (da_cons (de_ix (hu_of hr) (de_ix (hu_of hr) (dv 1) (dv 12)) de_int) da_nil)))) (da_cons (de_call ((ok__law_expr T).mono (Nat.le_trans (by decide) (Nat.le_succ_of_le hk))) hr (takes_of rfl rfl rfl rfl) (da_cons (dv 0) (da_cons (dv 1) (da_cons (dv 2) (da_cons de_int da_nil))))) da_nil)))))))))))))
theorem ok__law_statement_r (T : Txt K mg) : ∀ n, FD P w K mg base (9 + 2 * n) "_law_statement" 4 (m__law_statement_r n)
  | 0 => (fd_of T.d__law_statement fun a fd F => fn_ok (k := 8) F sc__law_statement fun cdv A outer s H E hr => dss_bad : FD P w K mg base 9 "_law_statement" 4 (fnD 13 gBad))
  | n + 1 => (ok__law_statement_s T (ok__law_statement_r T n) (by omega)).mono (by omega)
theorem ok__law_statement (T : Txt K mg) : FD P w K mg base 19 "_law_statement" 4 m__law_statement := (ok__law_statement_r T 5).mono (by decide)
theorem ok__law_body (T : Txt K mg) : FD P w K mg base 20 "_law_body" 5 m__law_body := (ok__law_body_r T (ok__law_statement T) (by decide)).mono (by decide)
theorem ok__law_in_expr_s (T : Txt K mg) {mh : Fn} {k : Nat} (IH : FD P w K mg base k "_law_in_expr" 2 mh) (hk : 0 ≤ k) : FD P w K mg base (k + 1) "_law_in_expr" 2 (fnD 3 (g__law_in_expr mh)) := fd_of T.d__law_in_expr fun a fd F => fn_ok F sc__law_in_expr fun cdv A outer s H E hr =>
  (dss_cons (ds_if (dt_cmp (op_eqA (hu64 hr)) og_eq (de_ix (hu_of hr) (dv 0) de_int) de_str (nomark _)) (dss_one (ds_ret (de_cmp (op_eqA (hu64 hr)) og_eq (de_ix (hu_of hr) (dv 0) de_int) (dv 1) (nomark _)))) dss_nil)
  (dss_cons (ds_if (dt_cmp (op_eqA (hu64 hr)) og_eq (de_ix (hu_of hr) (dv 0) de_int) de_str (nomark _)) (dss_one (ds_ret (de_or (de_cmp (op_eqA (hu64 hr)) og_eq (de_ix (hu_of hr) (dv 0) de_int) (dv 1) (nomark _)) (de_one (de_call (IH.mono (by omega)) hr (takes_of rfl rfl rfl rfl) (da_cons (de_ix (hu_of hr) (dv 0) de_int) (da_cons (dv 1) da_nil))))))) dss_nil)
  (dss_cons (ds_if (dt_cmp (op_eqA (hu64 hr)) og_eq (de_ix (hu_of hr) (dv 0) de_int) de_str (nomark _)) (dss_one (ds_ret (de_or (de_call (IH.mono (by omega)) hr (takes_of rfl rfl rfl rfl) (da_cons (de_ix (hu_of hr) (dv 0) de_int) (da_cons (dv 1) da_nil))) (de_one (de_call (IH.mono (by omega)) hr (takes_of rfl rfl rfl rfl) (da_cons (de_ix (hu_of hr) (dv 0) de_int) (da_cons (dv 1) da_nil))))))) dss_nil)
  (dss_one (ds_ret (de_if (dt_cmp (op_eqA (hu64 hr)) og_eq (de_ix (hu_of hr) (dv 0) de_int) de_str (nomark _)) (de_any rfl T.b_any (da_cons (de_lc2 (own := [("kid", 2)]) rfl sc__law_in_expr.nd (di2_seq (de_ix (hu_of hr) (dv 0) de_int)) (blkOk_by (N := n__law_in_expr) (sc := defScope s__law_in_expr) (by decide +kernel)) (fun _ _ _ _ _ => (pg_name (i := 2) sc__law_in_expr.nd rfl (.inl rfl))) (fun _ _ _ _ _ => dts_nil) (fun _ _ _ _ _ => (de_call (IH.mono (by omega)) hr tk0 (da_cons (dv 2) (da_cons (dv 1) da_nil))))) da_nil)) de_bl))))))
theorem ok__law_in_expr_r (T : Txt K mg) : ∀ n, FD P w K mg base (1 + 1 * n) "_law_in_expr" 2 (m__law_in_expr_r n)
  | 0 => (fd_of T.d__law_in_expr fun a fd F => fn_ok (k := 0) F sc__law_in_expr fun cdv A outer s H E hr => dss_bad : FD P w K mg base 1 "_law_in_expr" 2 (fnD 3 gBad))
  | n + 1 => (ok__law_in_expr_s T (ok__law_in_expr_r T n) (by omega)).mono (by omega)
theorem ok__law_in_expr (T : Txt K mg) : FD P w K mg base 5 "_law_in_expr" 2 m__law_in_expr := (ok__law_in_expr_r T 4).mono (by decide)
theorem ok__law_in_s (T : Txt K mg) {mh : Fn} {k : Nat} (IH : FD P w K mg base k "_law_in" 2 mh) (hk : 5 ≤ k) : FD P w K mg base (k + 1) "_law_in" 2 (fnD 3 (g__law_in mh)) := fd_of T.d__law_in fun a fd F => fn_ok F sc__law_in fun cdv A outer s H E hr =>
  (dss_cons (ds_if (dt_cmp (op_inA (hu_of hr)) og_in (de_ix (hu_of hr) (dv 0) de_int) (de_tup (da_cons de_str (da_cons de_str da_nil))) (by rfl)) (dss_one (ds_ret (de_any rfl T.b_any (da_cons (de_lc2 (own := [("one", 2)]) rfl sc__law_in.nd (di2_seq (de_ix (hu_of hr) (dv 0) (de_neg de_int))) (blkOk_by (N := n__law_in) (sc := defScope s__law_in) (by decide +kernel)) (fun _ _ _ _ _ => (pg_name (i := 2) sc__law_in.nd rfl (.inl rfl))) (fun _ _ _ _ _ => dts_nil) (fun _ _ _ _ _ => (de_call (IH.mono (by omega)) hr tk0 (da_cons (dv 2) (da_cons (dv 1) da_nil))))) da_nil)))) dss_nil)
  (dss_cons (ds_if (dt_cmp (op_eqA (hu64 hr)) og_eq (de_ix (hu_of hr) (dv 0) de_int) de_str (nomark _)) (dss_one (ds_ret (de_or (de_cmp (op_eqA (hu64 hr)) og_eq (de_ix (hu_of hr) (dv 0) de_int) (dv 1) (nomark _)) (de_one (de_cmp (op_eqA (hu64 hr)) og_eq (de_ix (hu_of hr) (dv 0) de_int) (dv 1) (nomark _)))))) dss_nil)
  (dss_one (ds_ret (de_or (de_cmp (op_eqA (hu64 hr)) og_eq (de_ix (hu_of hr) (dv 0) de_int) (dv 1) (nomark _)) (de_one (de_call ((ok__law_in_expr T).mono (Nat.le_trans (by decide) hk)) hr (takes_of rfl rfl rfl rfl) (da_cons (de_ix (hu_of hr) (dv 0) de_int) (da_cons (dv 1) da_nil)))))))))
theorem ok__law_in_r (T : Txt K mg) : ∀ n, FD P w K mg base (6 + 1 * n) "_law_in" 2 (m__law_in_r n)
  | 0 => (fd_of T.d__law_in fun a fd F => fn_ok (k := 5) F sc__law_in fun cdv A outer s H E hr => dss_bad : FD P w K mg base 6 "_law_in" 2 (fnD 3 gBad))
  | n + 1 => (ok__law_in_s T (ok__law_in_r T n) (by omega)).mono (by omega)
theorem ok__law_in (T : Txt K mg) : FD P w K mg base 12 "_law_in" 2 m__law_in := (ok__law_in_r T 6).mono (by decide)
theorem ok__law_program (T : Txt K mg) : FD P w K mg base 21 "_law_program" 2 m__law_program := fd_of T.d__law_program fun a fd F => fn_ok F sc__law_program fun cdv A outer s H E hr =>
  (dss_cons (ds_set (i := 2) sc__law_program.nd rfl (.inl rfl) (de_lst (da_cons (de_tup (da_cons de_str (da_cons (de_add de_int (de_call ((ok__law_take T).mono (by decide)) hr (takes_of rfl rfl rfl rfl) (da_cons (dv 0) (da_cons de_int da_nil)))) da_nil))) (da_cons (de_tup (da_cons de_str (da_cons (de_add de_int (de_call ((ok__law_take T).mono (by decide)) hr (takes_of rfl rfl rfl rfl) (da_cons (dv 0) (da_cons de_int da_nil)))) da_nil))) da_nil))))
  (dss_cons (ds_for (t := (.one 3)) (passes_of rfl) rfl (di_range1 T.b_range (da_cons (de_call ((ok__law_take T).mono (by decide)) hr (takes_of rfl rfl rfl rfl) (da_cons (dv 0) (da_cons de_int da_nil))) da_nil)) (pg_name (i := 3) sc__law_program.nd rfl (.inl rfl)) (dss_one (ds_app (i := 2) rfl (.inl rfl) (de_tup (da_cons (de_ix (hu_of hr) (de_tup (da_cons de_str (da_cons de_str (da_cons de_str (da_cons de_str da_nil))))) (de_call ((ok__law_take T).mono (by decide)) hr (takes_of rfl rfl rfl rfl) (da_cons (dv 0) (da_cons de_int da_nil)))) (da_cons (de_add de_int (de_call ((ok__law_take T).mono (by decide)) hr (takes_of rfl rfl rfl rfl) (da_cons (dv 0) (da_cons de_int da_nil)))) da_nil))))))
  (dss_cons (ds_set (i := 4) sc__law_program.nd rfl (.inl rfl) (de_lst da_nil))
  (dss_cons (ds_for (t := (.one 3)) (passes_of rfl) rfl (di_range1 T.b_range (da_cons (de_len T.b_len (da_cons (dv 2) da_nil)) da_nil)) (pg_name (i := 3) sc__law_program.nd rfl (.inl rfl)) (dss_one (ds_if (dt_w (dw_and (dt_cmp (op_neA (hu64 hr)) og_ne (de_ix (hu_of hr) (de_ix (hu_of hr) (dv 2) (dv 3)) de_int) de_str (nomark _)) (dw_and1 (dt_tru (dv 1))))) (dss_cons (ds_set (i := 5) sc__law_program.nd rfl (.inl rfl) (de_tup (da_cons de_str (da_cons (dv 3) (da_cons (de_tup (da_cons de_int (da_cons (de_tup (da_cons (de_tup (da_cons de_int (da_cons de_int da_nil))) da_nil)) da_nil))) (da_cons (de_tup (da_cons de_str (da_cons (de_tup (da_cons (de_call ((ok__law_signed T).mono (by decide)) hr (takes_of rfl rfl rfl rfl) (da_cons (dv 0) (da_cons de_int da_nil))) (da_cons (de_tup (da_cons (de_tup (da_cons de_int (da_cons de_int da_nil))) da_nil)) da_nil))) da_nil))) da_nil))))))
  (dss_one (ds_app (i := 4) rfl (.inl rfl) (de_tup (da_cons de_str (da_cons de_int (da_cons de_int (da_cons de_int (da_cons (de_ix (hu_of hr) (de_ix (hu_of hr) (dv 2) (dv 3)) de_int) (da_cons (de_tup (da_cons (dv 5) da_nil)) da_nil)))))))))) dss_nil)))
  (dss_cons (ds_set (i := 4) sc__law_program.nd rfl (.inl rfl) (de_add (dv 4) (de_list T.b_list (da_cons (de_call ((ok__law_body T).mono (by decide)) hr (takes_of rfl rfl rfl rfl) (da_cons (dv 0) (da_cons (dv 2) (da_cons (de_lst da_nil) (da_cons de_int (da_cons (de_add de_int (de_call ((ok__law_take T).mono (by decide)) hr (takes_of rfl rfl rfl rfl) (da_cons (dv 0) (da_cons de_int da_nil)))) da_nil)))))) da_nil))))
  (dss_one (ds_ret (de_tup (da_cons (de_tuple T.b_tuple (da_cons (dv 2) da_nil)) (da_cons (de_tuple T.b_tuple (da_cons (dv 4) da_nil)) da_nil))))))))))
theorem ok_expressions_in_s (T : Txt K mg) {mh : Fn} {k : Nat} (IH : FD P w K mg base k "expressions_in" 1 mh) (hk : 0 ≤ k) : FD P w K mg base (k + 1) "expressions_in" 1 (fnD 3 (g_expressions_in mh)) := fd_of T.d_expressions_in fun a fd F => fn_ok F sc_expressions_in fun cdv A outer s H E hr =>
  (dss_cons (ds_set (i := 1) sc_expressions_in.nd rfl (.inl rfl) (de_lst (da_cons (dv 0) da_nil)))
  (dss_cons (ds_if (dt_cmp (op_eqA (hu64 hr)) og_eq (de_ix (hu_of hr) (dv 0) de_int) de_str (nomark _)) (dss_one (ds_set (i := 1) sc_expressions_in.nd rfl (.inl rfl) (de_add (dv 1) (de_call (IH.mono (by omega)) hr (takes_of rfl rfl rfl rfl) (da_cons (de_ix (hu_of hr) (dv 0) de_int) da_nil))))) (dss_one (ds_if (dt_cmp (op_eqA (hu64 hr)) og_eq (de_ix (hu_of hr) (dv 0) de_int) de_str (nomark _)) (dss_one (ds_for (t := (.one 2)) (passes_of rfl) rfl (di_seq (de_ix (hu_of hr) (dv 0) de_int)) (pg_name (i := 2) sc_expressions_in.nd rfl (.inl rfl)) (dss_one (ds_set (i := 1) sc_expressions_in.nd rfl (.inl rfl) (de_add (dv 1) (de_call (IH.mono (by omega)) hr (takes_of rfl rfl rfl rfl) (da_cons (dv 2) da_nil))))))) (dss_one (ds_if (dt_cmp (op_eqA (hu64 hr)) og_eq (de_ix (hu_of hr) (dv 0) de_int) de_str (nomark _)) (dss_one (ds_set (i := 1) sc_expressions_in.nd rfl (.inl rfl) (de_add (de_add (dv 1) (de_call (IH.mono (by omega)) hr (takes_of rfl rfl rfl rfl) (da_cons (de_ix (hu_of hr) (dv 0) de_int) da_nil))) (de_call (IH.mono (by omega)) hr (takes_of rfl rfl rfl rfl) (da_cons (de_ix (hu_of hr) (dv 0) de_int) da_nil))))) dss_nil)))))
  (dss_one (ds_retV (i := 1) rfl (.inl rfl)))))
theorem ok_expressions_in_r (T : Txt K mg) : ∀ n, FD P w K mg base (1 + 1 * n) "expressions_in" 1 (m_expressions_in_r n)
  | 0 => (fd_of T.d_expressions_in fun a fd F => fn_ok (k := 0) F sc_expressions_in fun cdv A outer s H E hr => dss_bad : FD P w K mg base 1 "expressions_in" 1 (fnD 3 gBad))
  | n + 1 => (ok_expressions_in_s T (ok_expressions_in_r T n) (by omega)).mono (by omega)
theorem ok_expressions_in (T : Txt K mg) : FD P w K mg base 5 "expressions_in" 1 m_expressions_in := (ok_expressions_in_r T 4).mono (by decide)
theorem ok_statements_in_s (T : Txt K mg) {mh : Fn} {k : Nat} (IH : FD P w K mg base k "statements_in" 1 mh) (hk : 0 ≤ k) : FD P w K mg base (k + 1) "statements_in" 1 (fnD 3 (g_statements_in mh)) := fd_of T.d_statements_in fun a fd F => fn_ok F sc_statements_in fun cdv A outer s H E hr =>
  (dss_cons (ds_set (i := 1) sc_statements_in.nd rfl (.inl rfl) (de_lst da_nil))
  (dss_cons (ds_forV (t := (.one 2)) (i := 0) rfl (.inl rfl) (passes_of rfl) rfl (pg_name (i := 2) sc_statements_in.nd rfl (.inl rfl)) (dss_cons (ds_app (i := 1) rfl (.inl rfl) (dv 2))
  (dss_one (ds_if (dt_cmp (op_inA (hu_of hr)) og_in (de_ix (hu_of hr) (dv 2) de_int) (de_tup (da_cons de_str (da_cons de_str da_nil))) (by rfl)) (dss_one (ds_set (i := 1) sc_statements_in.nd rfl (.inl rfl) (de_add (dv 1) (de_call (IH.mono (by omega)) hr (takes_of rfl rfl rfl rfl) (da_cons (de_ix (hu_of hr) (dv 2) (de_neg de_int)) da_nil))))) dss_nil))))
  (dss_one (ds_retV (i := 1) rfl (.inl rfl)))))
theorem ok_statements_in_r (T : Txt K mg) : ∀ n, FD P w K mg base (1 + 1 * n) "statements_in" 1 (m_statements_in_r n)
  | 0 => (fd_of T.d_statements_in fun a fd F => fn_ok (k := 0) F sc_statements_in fun cdv A outer s H E hr => dss_bad : FD P w K mg base 1 "statements_in" 1 (fnD 3 gBad))
  | n + 1 => (ok_statements_in_s T (ok_statements_in_r T n) (by omega)).mono (by omega)
theorem ok_statements_in (T : Txt K mg) : FD P w K mg base 7 "statements_in" 1 m_statements_in := (ok_statements_in_r T 6).mono (by decide)
theorem ok_buffers_in (T : Txt K mg) : FD P w K mg base 8 "buffers_in" 1 m_buffers_in := fd_of T.d_buffers_in fun a fd F => fn_ok F sc_buffers_in fun cdv A outer s H E hr =>
  (dss_cons (ds_set (i := 1) sc_buffers_in.nd rfl (.inl rfl) (de_lst da_nil))
  (dss_cons (ds_for (t := (.one 2)) (passes_of rfl) rfl (di_seq (de_call ((ok_statements_in T).mono (by decide)) hr (takes_of rfl rfl rfl rfl) (da_cons (de_tup (da_cons (dv 0) da_nil)) da_nil))) (pg_name (i := 2) sc_buffers_in.nd rfl (.inl rfl)) (dss_one (ds_if (dt_cmp (op_eqA (hu64 hr)) og_eq (de_ix (hu_of hr) (dv 2) de_int) de_str (nomark _)) (dss_cons (ds_app (i := 1) rfl (.inl rfl) (de_ix (hu_of hr) (dv 2) de_int))
  (dss_one (ds_set (i := 1) sc_buffers_in.nd rfl (.inl rfl) (de_add (dv 1) (de_lc2 (own := [("e", 3)]) rfl sc_buffers_in.nd (di2_seq (de_call ((ok_expressions_in T).mono (by decide)) hr (takes_of rfl rfl rfl rfl) (da_cons (de_ix (hu_of hr) (dv 2) de_int) da_nil))) (blkOk_by (N := n_buffers_in) (sc := defScope s_buffers_in) (by decide +kernel)) (fun _ _ _ _ _ => (pg_name (i := 3) sc_buffers_in.nd rfl (.inl rfl))) (fun _ _ _ _ _ => (dts_one (dt_cmp (op_inA (hu_of hr)) og_in (de_ix (hu_of hr) (dv 3) de_int) (de_tup (da_cons de_str (da_cons de_str da_nil))) (by rfl)))) (fun _ _ _ _ _ => (de_ix (hu_of hr) (dv 3) de_int))))))) (dss_one (ds_if (dt_cmp (op_eqA (hu64 hr)) og_eq (de_ix (hu_of hr) (dv 2) de_int) de_str (nomark _)) (dss_one (ds_set (i := 1) sc_buffers_in.nd rfl (.inl rfl) (de_add (dv 1) (de_lst (da_cons (de_ix (hu_of hr) (dv 2) de_int) (da_cons (de_ix (hu_of hr) (dv 2) de_int) da_nil)))))) dss_nil)))))
  (dss_one (ds_retV (i := 1) rfl (.inl rfl)))))
theorem ok_lives (T : Txt K mg) : FD P w K mg base 9 "lives" 2 m_lives := fd_of T.d_lives fun a fd F => fn_ok F sc_lives fun cdv A outer s H E hr =>
  (dss_cons (ds_unpT rfl (pgs_cons (pg_name (i := 2) sc_lives.nd rfl (.inl rfl)) (pgs_cons (pg_name (i := 3) sc_lives.nd rfl (.inl rfl)) pgs_nil)) (dv 0) rfl)
  (dss_cons (ds_set (i := 4) sc_lives.nd rfl (.inr rfl) (de_lc2 (own := [("statement", 10)]) rfl sc_lives.nd (di2_seq (dv 3)) (blkOk_by (N := n_lives) (sc := defScope s_lives) (by decide +kernel)) (fun _ _ _ _ _ => (pg_name (i := 10) sc_lives.nd rfl (.inl rfl))) (fun _ _ _ _ _ => dts_nil) (fun _ _ _ _ _ => (de_fz (de_call ((ok_buffers_in T).mono (by decide)) hr tk0 (da_cons (dv 10) da_nil))))))
  (dss_cons (ds_set (i := 5) sc_lives.nd rfl (.inl rfl) (de_lst da_nil))
  (dss_cons (ds_for (t := (.one 6)) (passes_of rfl) rfl (di_range1 T.b_range (da_cons (de_len T.b_len (da_cons (dv 2) da_nil)) da_nil)) (pg_name (i := 6) sc_lives.nd rfl (.inr rfl)) (dss_one (ds_if (dt_cmp (op_eqA (hu64 hr)) og_eq (de_ix (hu_of hr) (de_ix (hu_of hr) (dv 2) (dv 6)) de_int) de_str (nomark _)) (dss_cons (ds_setLc2 (own := [("t", 11)]) (i := 7) rfl sc_lives.nd rfl rfl rfl (DI.two (di_range1 T.b_range (da_cons (de_len T.b_len (da_cons (dv 3) da_nil)) da_nil))) (blkOk_by (N := n_lives) (sc := defScope s_lives) (by decide +kernel)) (fun _ _ _ _ _ => (pg_name (i := 11) sc_lives.nd rfl (.inl rfl))) (fun _ _ _ _ _ => (dts_one (dt_cmp (op_inA (hu_of hr)) og_in (dv 6) (de_ix (hu_of hr) (dv 4) (dv 11)) (by rfl)))) (fun _ _ _ _ _ => (dv 11)))
  (dss_cons (ds_set (i := 8) sc_lives.nd rfl (.inl rfl) (de_if (dt_cmp op_gt og_intB (de_len T.b_len (da_cons (dv 7) da_nil)) de_int (nomark _)) (de_min rfl T.b_min (da_cons (de_add (dv 7) (de_lst (da_cons (de_len T.b_len (da_cons (dv 3) da_nil)) da_nil))) da_nil)) de_int))
  (dss_cons (ds_set (i := 9) sc_lives.nd rfl (.inl rfl) (de_max rfl T.b_max (da_cons (de_add (de_lst (da_cons de_int da_nil)) (dv 7)) da_nil)))
  (dss_cons (ds_if (dt_cmp (op_inA (hu_of hr)) og_in (dv 6) (dv 1) (by rfl)) (dss_one (ds_set (i := 9) sc_lives.nd rfl (.inl rfl) (de_len T.b_len (da_cons (dv 3) da_nil)))) dss_nil)
  (dss_one (ds_app (i := 5) rfl (.inl rfl) (de_tup (da_cons (dv 8) (da_cons (dv 9) da_nil))))))))) dss_nil)))
  (dss_one (ds_ret (de_tuple T.b_tuple (da_cons (dv 5) da_nil))))))))
theorem ok_meet (T : Txt K mg) : FD P w K mg base 1 "meet" 2 m_meet := fd_of T.d_meet fun a fd F => fn_ok F sc_meet fun cdv A outer s H E hr =>
  (dss_one (ds_ret (de_and (de_cmp op_le og_intB (de_ix (hu_of hr) (dv 0) de_int) (de_ix (hu_of hr) (dv 1) de_int) (nomark _)) (de_one (de_cmp op_le og_intB (de_ix (hu_of hr) (dv 1) de_int) (de_ix (hu_of hr) (dv 0) de_int) (nomark _))))))
theorem ok_law (T : Txt K mg) : FD P w K mg base 22 "law" 1 m_law := fd_of T.d_law fun a fd F => fn_ok F sc_law fun cdv A outer s H E hr =>
  (dss_cons (ds_set (i := 1) sc_law.nd rfl (.inr rfl) (de_call ((ok__law_begin T).mono (by decide)) hr (takes_of rfl rfl rfl rfl) (da_cons (dv 0) da_nil)))
  (dss_cons (ds_unpT rfl (pgs_cons (pg_name (i := 2) sc_law.nd rfl (.inr rfl)) (pgs_cons (pg_name (i := 3) sc_law.nd rfl (.inr rfl)) pgs_nil)) (de_call ((ok__law_program T).mono (by decide)) hr (takes_of rfl rfl rfl rfl) (da_cons (dv 1) (da_cons (de_cmp (op_eqA (hu64 hr)) og_eq (de_call ((ok__law_take T).mono (by decide)) hr (takes_of rfl rfl rfl rfl) (da_cons (dv 1) (da_cons de_int da_nil))) de_int (nomark _)) da_nil))) rfl)
  (dss_cons (ds_set (i := 3) sc_law.nd rfl (.inr rfl) (de_add (dv 3) (de_call ((ok__law_body T).mono (by decide)) hr (takes_of rfl rfl rfl rfl) (da_cons (dv 1) (da_cons (dv 2) (da_cons (de_lst da_nil) (da_cons de_int (da_cons (de_add de_int (de_call ((ok__law_take T).mono (by decide)) hr (takes_of rfl rfl rfl rfl) (da_cons (dv 1) (da_cons de_int da_nil)))) da_nil))))))))
  (dss_cons (ds_set (i := 4) sc_law.nd rfl (.inl rfl) (de_tuple T.b_tuple (da_cons (de_lc2 (own := [("k", 6)]) rfl sc_law.nd (DI.two (di_range1 T.b_range (da_cons (de_call ((ok__law_take T).mono (by decide)) hr (takes_of rfl rfl rfl rfl) (da_cons (dv 1) (da_cons de_int da_nil))) da_nil))) (blkOk_by (N := n_law) (sc := defScope s_law) (by decide +kernel)) (fun _ _ _ _ _ => (pg_name (i := 6) sc_law.nd rfl (.inl rfl))) (fun _ _ _ _ _ => dts_nil) (fun _ _ _ _ _ => (de_call ((ok__law_take T).mono (by decide)) hr tk0 (da_cons (dv 1) (da_cons (de_len T.b_len (da_cons (dv 2) da_nil)) da_nil))))) da_nil)))
  (dss_cons (ds_set (i := 5) sc_law.nd rfl (.inl rfl) (de_lst da_nil))
  (dss_cons (ds_for (t := (.one 6)) (passes_of rfl) rfl (di_range1 T.b_range (da_cons (de_len T.b_len (da_cons (dv 2) da_nil)) da_nil)) (pg_name (i := 6) sc_law.nd rfl (.inr rfl)) (dss_one (ds_if (dt_cmp (op_eqA (hu64 hr)) og_eq (de_ix (hu_of hr) (de_ix (hu_of hr) (dv 2) (dv 6)) de_int) de_str (nomark _)) (dss_cons (ds_setLc2 (own := [("t", 15)]) (i := 7) rfl sc_law.nd rfl rfl rfl (DI.two (di_range1 T.b_range (da_cons (de_len T.b_len (da_cons (dv 3) da_nil)) da_nil))) (blkOk_by (N := n_law) (sc := defScope s_law) (by decide +kernel)) (fun _ _ _ _ _ => (pg_name (i := 15) sc_law.nd rfl (.inl rfl))) (fun _ _ _ _ _ => (dts_one (dt_tru (de_call ((ok__law_in T).mono (by decide)) hr tk0 (da_cons (de_ix (hu_of hr) (dv 3) (dv 15)) (da_cons (dv 6) da_nil)))))) (fun _ _ _ _ _ => (dv 15)))
  (dss_cons (ds_set (i := 8) sc_law.nd rfl (.inl rfl) (de_if (dt_cmp op_gt og_intB (de_len T.b_len (da_cons (dv 7) da_nil)) de_int (nomark _)) (de_ix (hu_of hr) (dv 7) de_int) de_int))
  (dss_cons (ds_set (i := 9) sc_law.nd rfl (.inl rfl) (de_if (dt_cmp (op_inA (hu_of hr)) og_in (dv 6) (dv 4) (by rfl)) (de_len T.b_len (da_cons (dv 3) da_nil)) (de_if (dt_cmp op_gt og_intB (de_len T.b_len (da_cons (dv 7) da_nil)) de_int (nomark _)) (de_ix (hu_of hr) (dv 7) (de_neg de_int)) de_int)))
  (dss_one (ds_app (i := 5) rfl (.inl rfl) (de_tup (da_cons (dv 8) (da_cons (dv 9) da_nil)))))))) dss_nil)))
  (dss_cons (ds_set (i := 10) sc_law.nd rfl (.inl rfl) (de_call ((ok_lives T).mono (by decide)) hr (takes_of rfl rfl rfl rfl) (da_cons (de_tup (da_cons (dv 2) (da_cons (dv 3) da_nil))) (da_cons (dv 4) da_nil))))
  (dss_cons (ds_if (dt_w (dw_or (dt_not (dt_tru (de_isi T.b_isinstance T.b_tuple (dv 10) (by decide +kernel) (by decide +kernel)))) (dw_or1 (dt_cmp (op_neA (hu64 hr)) og_ne (dv 10) (de_tuple T.b_tuple (da_cons (dv 5) da_nil)) (nomark _))))) (dss_one (ds_ret de_bl)) dss_nil)
  (dss_cons (ds_for (t := (.one 11)) (passes_of rfl) rfl (di_range1 T.b_range (da_cons de_int da_nil)) (pg_name (i := 11) sc_law.nd rfl (.inl rfl)) (dss_cons (ds_set (i := 12) sc_law.nd rfl (.inl rfl) (de_tup (da_cons (de_call ((ok__law_take T).mono (by decide)) hr (takes_of rfl rfl rfl rfl) (da_cons (dv 1) (da_cons de_int da_nil))) (da_cons (de_add de_int (de_call ((ok__law_take T).mono (by decide)) hr (takes_of rfl rfl rfl rfl) (da_cons (dv 1) (da_cons de_int da_nil)))) da_nil))))
  (dss_cons (ds_set (i := 13) sc_law.nd rfl (.inr rfl) (de_tup (da_cons (de_call ((ok__law_take T).mono (by decide)) hr (takes_of rfl rfl rfl rfl) (da_cons (dv 1) (da_cons de_int da_nil))) (da_cons (de_add de_int (de_call ((ok__law_take T).mono (by decide)) hr (takes_of rfl rfl rfl rfl) (da_cons (dv 1) (da_cons de_int da_nil)))) da_nil))))
  (dss_cons (ds_set (i := 14) sc_law.nd rfl (.inl rfl) (de_call ((ok_meet T).mono (by decide)) hr (takes_of rfl rfl rfl rfl) (da_cons (dv 12) (da_cons (dv 13) da_nil))))
  (dss_cons (ds_if (dt_w (dw_or (dt_not (dt_tru (de_isi T.b_isinstance T.b_bool (dv 14) (by decide +kernel) (by decide +kernel)))) (dw_or1 (dt_cmp (op_neA (hu64 hr)) og_ne (dv 14) (de_cmp op_gt og_intB (de_len T.b_len (da_cons (de_lc2 (own := [("t", 15)]) rfl sc_law.nd (DI.two (di_range2 T.b_range (da_cons (de_ix (hu_of hr) (dv 12) de_int) (da_cons (de_add (de_ix (hu_of hr) (dv 12) de_int) de_int) da_nil)))) (blkOk_by (N := n_law) (sc := defScope s_law) (by decide +kernel)) (fun _ _ _ _ _ => (pg_name (i := 15) sc_law.nd rfl (.inl rfl))) (fun _ _ _ _ _ => (dts_one (dt_chain op_le og_intB op_le og_intB (de_ix (hu_of hr) (dv 13) de_int) (dv 15) (de_ix (hu_of hr) (dv 13) de_int)))) (fun _ _ _ _ _ => (dv 15))) da_nil)) de_int (nomark _)) (nomark _))))) (dss_one (ds_ret de_bl)) dss_nil)
  (dss_one (ds_if (dt_w (dw_or (dt_cmp (op_neA (hu64 hr)) og_ne (de_call ((ok_meet T).mono (by decide)) hr (takes_of rfl rfl rfl rfl) (da_cons (dv 13) (da_cons (dv 12) da_nil))) (dv 14) (nomark _)) (dw_or1 (dt_not (dt_tru (de_call ((ok_meet T).mono (by decide)) hr (takes_of rfl rfl rfl rfl) (da_cons (dv 12) (da_cons (dv 12) da_nil)))))))) (dss_one (ds_ret de_bl)) dss_nil)))))))
  (dss_one (ds_ret de_bl)))))))))))
end
/-! ### what the top has written -/
theorem all_mk {P : Program} {w : World} {K : PySem.W.Frag} {h : Heap} {mg : Str → Option Value} {fa : Addr} (X : K.In h) (G : h.Ns mainGlobals mg) (hfa : mg "law" = some (.ref fa))
    {f__law_begin f__law_take f__law_form f__law_copy f__law_signed f__law_point_info f__law_test f__law_expr f__law_body f__law_statement f__law_in_expr f__law_in f__law_program f_expressions_in f_statements_in f_buffers_in f_lives f_meet f_law : Addr}
    {od__law_begin an__law_begin : Option Addr} {sl__law_begin : Array (Option Value)} {oc__law_begin kV__law_begin dc__law_begin pm__law_begin cd__law_begin ct__law_begin : Value}
    {od__law_take an__law_take : Option Addr} {sl__law_take : Array (Option Value)} {oc__law_take kV__law_take dc__law_take pm__law_take cd__law_take ct__law_take : Value}
    {od__law_form an__law_form : Option Addr} {sl__law_form : Array (Option Value)} {oc__law_form kV__law_form dc__law_form pm__law_form cd__law_form ct__law_form : Value}
    {od__law_copy an__law_copy : Option Addr} {sl__law_copy : Array (Option Value)} {oc__law_copy kV__law_copy dc__law_copy pm__law_copy cd__law_copy ct__law_copy : Value}
    {od__law_signed an__law_signed : Option Addr} {sl__law_signed : Array (Option Value)} {oc__law_signed kV__law_signed dc__law_signed pm__law_signed cd__law_signed ct__law_signed : Value}
    {od__law_point_info an__law_point_info : Option Addr} {sl__law_point_info : Array (Option Value)} {oc__law_point_info kV__law_point_info dc__law_point_info pm__law_point_info cd__law_point_info ct__law_point_info : Value}
    {od__law_test an__law_test : Option Addr} {sl__law_test : Array (Option Value)} {oc__law_test kV__law_test dc__law_test pm__law_test cd__law_test ct__law_test : Value}
    {od__law_expr an__law_expr : Option Addr} {sl__law_expr : Array (Option Value)} {oc__law_expr kV__law_expr dc__law_expr pm__law_expr cd__law_expr ct__law_expr : Value}
    {od__law_body an__law_body : Option Addr} {sl__law_body : Array (Option Value)} {oc__law_body kV__law_body dc__law_body pm__law_body cd__law_body ct__law_body : Value}
    {od__law_statement an__law_statement : Option Addr} {sl__law_statement : Array (Option Value)} {oc__law_statement kV__law_statement dc__law_statement pm__law_statement cd__law_statement ct__law_statement : Value}
    {od__law_in_expr an__law_in_expr : Option Addr} {sl__law_in_expr : Array (Option Value)} {oc__law_in_expr kV__law_in_expr dc__law_in_expr pm__law_in_expr cd__law_in_expr ct__law_in_expr : Value}
    {od__law_in an__law_in : Option Addr} {sl__law_in : Array (Option Value)} {oc__law_in kV__law_in dc__law_in pm__law_in cd__law_in ct__law_in : Value}
    {od__law_program an__law_program : Option Addr} {sl__law_program : Array (Option Value)} {oc__law_program kV__law_program dc__law_program pm__law_program cd__law_program ct__law_program : Value}
    {od_expressions_in an_expressions_in : Option Addr} {sl_expressions_in : Array (Option Value)} {oc_expressions_in kV_expressions_in dc_expressions_in pm_expressions_in cd_expressions_in ct_expressions_in : Value}
    {od_statements_in an_statements_in : Option Addr} {sl_statements_in : Array (Option Value)} {oc_statements_in kV_statements_in dc_statements_in pm_statements_in cd_statements_in ct_statements_in : Value}
    {od_buffers_in an_buffers_in : Option Addr} {sl_buffers_in : Array (Option Value)} {oc_buffers_in kV_buffers_in dc_buffers_in pm_buffers_in cd_buffers_in ct_buffers_in : Value}
    {od_lives an_lives : Option Addr} {sl_lives : Array (Option Value)} {oc_lives kV_lives dc_lives pm_lives cd_lives ct_lives : Value}
    {od_meet an_meet : Option Addr} {sl_meet : Array (Option Value)} {oc_meet kV_meet dc_meet pm_meet cd_meet ct_meet : Value}
    {od_law an_law : Option Addr} {sl_law : Array (Option Value)} {oc_law kV_law dc_law pm_law cd_law ct_law : Value}
    (a__law_begin : PySem.W.nsIn K mainGlobals "_law_begin" = some (some (.ref f__law_begin)))
    (l__law_begin : K.lookup f__law_begin = some ⟨oc__law_begin, od__law_begin, .func (PySem.W.fnOf "_law_begin" "_law_begin" (defArgs s__law_begin) (defBody s__law_begin) (defScope s__law_begin) .none kV__law_begin dc__law_begin pm__law_begin an__law_begin cd__law_begin ct__law_begin), sl__law_begin⟩)
    (c__law_begin : PySem.W.codeIn K cd__law_begin "_law_begin" = true)
    (k__law_begin : PySem.W.keepIn K (.ref f__law_begin) = true)
    (a__law_take : PySem.W.nsIn K mainGlobals "_law_take" = some (some (.ref f__law_take)))
    (l__law_take : K.lookup f__law_take = some ⟨oc__law_take, od__law_take, .func (PySem.W.fnOf "_law_take" "_law_take" (defArgs s__law_take) (defBody s__law_take) (defScope s__law_take) .none kV__law_take dc__law_take pm__law_take an__law_take cd__law_take ct__law_take), sl__law_take⟩)
    (c__law_take : PySem.W.codeIn K cd__law_take "_law_take" = true)
    (k__law_take : PySem.W.keepIn K (.ref f__law_take) = true)
    (a__law_form : PySem.W.nsIn K mainGlobals "_law_form" = some (some (.ref f__law_form)))
    (l__law_form : K.lookup f__law_form = some ⟨oc__law_form, od__law_form, .func (PySem.W.fnOf "_law_form" "_law_form" (defArgs s__law_form) (defBody s__law_form) (defScope s__law_form) .none kV__law_form dc__law_form pm__law_form an__law_form cd__law_form ct__law_form), sl__law_form⟩)
    (c__law_form : PySem.W.codeIn K cd__law_form "_law_form" = true)
    (k__law_form : PySem.W.keepIn K (.ref f__law_form) = true)
    (a__law_copy : PySem.W.nsIn K mainGlobals "_law_copy" = some (some (.ref f__law_copy)))
    (l__law_copy : K.lookup f__law_copy = some ⟨oc__law_copy, od__law_copy, .func (PySem.W.fnOf "_law_copy" "_law_copy" (defArgs s__law_copy) (defBody s__law_copy) (defScope s__law_copy) .none kV__law_copy dc__law_copy pm__law_copy an__law_copy cd__law_copy ct__law_copy), sl__law_copy⟩)
    (c__law_copy : PySem.W.codeIn K cd__law_copy "_law_copy" = true)
    (k__law_copy : PySem.W.keepIn K (.ref f__law_copy) = true)
    (a__law_signed : PySem.W.nsIn K mainGlobals "_law_signed" = some (some (.ref f__law_signed)))
    (l__law_signed : K.lookup f__law_signed = some ⟨oc__law_signed, od__law_signed, .func (PySem.W.fnOf "_law_signed" "_law_signed" (defArgs s__law_signed) (defBody s__law_signed) (defScope s__law_signed) .none kV__law_signed dc__law_signed pm__law_signed an__law_signed cd__law_signed ct__law_signed), sl__law_signed⟩)
    (c__law_signed : PySem.W.codeIn K cd__law_signed "_law_signed" = true)
    (k__law_signed : PySem.W.keepIn K (.ref f__law_signed) = true)
    (a__law_point_info : PySem.W.nsIn K mainGlobals "_law_point_info" = some (some (.ref f__law_point_info)))
    (l__law_point_info : K.lookup f__law_point_info = some ⟨oc__law_point_info, od__law_point_info, .func (PySem.W.fnOf "_law_point_info" "_law_point_info" (defArgs s__law_point_info) (defBody s__law_point_info) (defScope s__law_point_info) .none kV__law_point_info dc__law_point_info pm__law_point_info an__law_point_info cd__law_point_info ct__law_point_info), sl__law_point_info⟩)
    (c__law_point_info : PySem.W.codeIn K cd__law_point_info "_law_point_info" = true)
    (k__law_point_info : PySem.W.keepIn K (.ref f__law_point_info) = true)
    (a__law_test : PySem.W.nsIn K mainGlobals "_law_test" = some (some (.ref f__law_test)))
    (l__law_test : K.lookup f__law_test = some ⟨oc__law_test, od__law_test, .func (PySem.W.fnOf "_law_test" "_law_test" (defArgs s__law_test) (defBody s__law_test) (defScope s__law_test) .none kV__law_test dc__law_test pm__law_test an__law_test cd__law_test ct__law_test), sl__law_test⟩)
    (c__law_test : PySem.W.codeIn K cd__law_test "_law_test" = true)
    (k__law_test : PySem.W.keepIn K (.ref f__law_test) = true)
    (a__law_expr : PySem.W.nsIn K mainGlobals "_law_expr" = some (some (.ref f__law_expr)))
    (l__law_expr : K.lookup f__law_expr = some ⟨oc__law_expr, od__law_expr, .func (PySem.W.fnOf "_law_expr" "_law_expr" (defArgs s__law_expr) (defBody s__law_expr) (defScope s__law_expr) .none kV__law_expr dc__law_expr pm__law_expr an__law_expr cd__law_expr ct__law_expr), sl__law_expr⟩)
    (c__law_expr : PySem.W.codeIn K cd__law_expr "_law_expr" = true)
    (k__law_expr : PySem.W.keepIn K (.ref f__law_expr) = true)
    (a__law_body : PySem.W.nsIn K mainGlobals "_law_body" = some (some (.ref f__law_body)))
    (l__law_body : K.lookup f__law_body = some ⟨oc__law_body, od__law_body, .func (PySem.W.fnOf "_law_body" "_law_body" (defArgs s__law_body) (defBody s__law_body) (defScope s__law_body) .none kV__law_body dc__law_body pm__law_body an__law_body cd__law_body ct__law_body), sl__law_body⟩)
    (c__law_body : PySem.W.codeIn K cd__law_body "_law_body" = true)
    (k__law_body : PySem.W.keepIn K (.ref f__law_body) = true)
    (a__law_statement : PySem.W.nsIn K mainGlobals "_law_statement" = some (some (.ref f__law_statement)))
    (l__law_statement : K.lookup f__law_statement = some ⟨oc__law_statement, od__law_statement, .func (PySem.W.fnOf "_law_statement" "_law_statement" (defArgs s__law_statement) (defBody s__law_statement) (defScope s__law_statement) .none kV__law_statement dc__law_statement pm__law_statement an__law_statement cd__law_statement ct__law_statement), sl__law_statement⟩)
    (c__law_statement : PySem.W.codeIn K cd__law_statement "_law_statement" = true)
    (k__law_statement : PySem.W.keepIn K (.ref f__law_statement) = true)
    (a__law_in_expr : PySem.W.nsIn K mainGlobals "_law_in_expr" = some (some (.ref f__law_in_expr)))
    (l__law_in_expr : K.lookup f__law_in_expr = some ⟨oc__law_in_expr, od__law_in_expr, .func (PySem.W.fnOf "_law_in_expr" "_law_in_expr" (defArgs s__law_in_expr) (defBody s__law_in_expr) (defScope s__law_in_expr) .none kV__law_in_expr dc__law_in_expr pm__law_in_expr an__law_in_expr cd__law_in_expr ct__law_in_expr), sl__law_in_expr⟩)
    (c__law_in_expr : PySem.W.codeIn K cd__law_in_expr "_law_in_expr" = true)
    (k__law_in_expr : PySem.W.keepIn K (.ref f__law_in_expr) = true)
    (a__law_in : PySem.W.nsIn K mainGlobals "_law_in" = some (some (.ref f__law_in)))
    (l__law_in : K.lookup f__law_in = some ⟨oc__law_in, od__law_in, .func (PySem.W.fnOf "_law_in" "_law_in" (defArgs s__law_in) (defBody s__law_in) (defScope s__law_in) .none kV__law_in dc__law_in pm__law_in an__law_in cd__law_in ct__law_in), sl__law_in⟩)
    (c__law_in : PySem.W.codeIn K cd__law_in "_law_in" = true)
    (k__law_in : PySem.W.keepIn K (.ref f__law_in) = true)
    (a__law_program : PySem.W.nsIn K mainGlobals "_law_program" = some (some (.ref f__law_program)))
    (l__law_program : K.lookup f__law_program = some ⟨oc__law_program, od__law_program, .func (PySem.W.fnOf "_law_program" "_law_program" (defArgs s__law_program) (defBody s__law_program) (defScope s__law_program) .none kV__law_program dc__law_program pm__law_program an__law_program cd__law_program ct__law_program), sl__law_program⟩)
    (c__law_program : PySem.W.codeIn K cd__law_program "_law_program" = true)
    (k__law_program : PySem.W.keepIn K (.ref f__law_program) = true)
    (a_expressions_in : PySem.W.nsIn K mainGlobals "expressions_in" = some (some (.ref f_expressions_in)))
    (l_expressions_in : K.lookup f_expressions_in = some ⟨oc_expressions_in, od_expressions_in, .func (PySem.W.fnOf "expressions_in" "expressions_in" (defArgs s_expressions_in) (defBody s_expressions_in) (defScope s_expressions_in) .none kV_expressions_in dc_expressions_in pm_expressions_in an_expressions_in cd_expressions_in ct_expressions_in), sl_expressions_in⟩)
    (c_expressions_in : PySem.W.codeIn K cd_expressions_in "expressions_in" = true)
    (k_expressions_in : PySem.W.keepIn K (.ref f_expressions_in) = true)
    (a_statements_in : PySem.W.nsIn K mainGlobals "statements_in" = some (some (.ref f_statements_in)))
    (l_statements_in : K.lookup f_statements_in = some ⟨oc_statements_in, od_statements_in, .func (PySem.W.fnOf "statements_in" "statements_in" (defArgs s_statements_in) (defBody s_statements_in) (defScope s_statements_in) .none kV_statements_in dc_statements_in pm_statements_in an_statements_in cd_statements_in ct_statements_in), sl_statements_in⟩)
    (c_statements_in : PySem.W.codeIn K cd_statements_in "statements_in" = true)
    (k_statements_in : PySem.W.keepIn K (.ref f_statements_in) = true)
    (a_buffers_in : PySem.W.nsIn K mainGlobals "buffers_in" = some (some (.ref f_buffers_in)))
    (l_buffers_in : K.lookup f_buffers_in = some ⟨oc_buffers_in, od_buffers_in, .func (PySem.W.fnOf "buffers_in" "buffers_in" (defArgs s_buffers_in) (defBody s_buffers_in) (defScope s_buffers_in) .none kV_buffers_in dc_buffers_in pm_buffers_in an_buffers_in cd_buffers_in ct_buffers_in), sl_buffers_in⟩)
    (c_buffers_in : PySem.W.codeIn K cd_buffers_in "buffers_in" = true)
    (k_buffers_in : PySem.W.keepIn K (.ref f_buffers_in) = true)
    (a_lives : PySem.W.nsIn K mainGlobals "lives" = some (some (.ref f_lives)))
    (l_lives : K.lookup f_lives = some ⟨oc_lives, od_lives, .func (PySem.W.fnOf "lives" "lives" (defArgs s_lives) (defBody s_lives) (defScope s_lives) .none kV_lives dc_lives pm_lives an_lives cd_lives ct_lives), sl_lives⟩)
    (c_lives : PySem.W.codeIn K cd_lives "lives" = true)
    (k_lives : PySem.W.keepIn K (.ref f_lives) = true)
    (a_meet : PySem.W.nsIn K mainGlobals "meet" = some (some (.ref f_meet)))
    (l_meet : K.lookup f_meet = some ⟨oc_meet, od_meet, .func (PySem.W.fnOf "meet" "meet" (defArgs s_meet) (defBody s_meet) (defScope s_meet) .none kV_meet dc_meet pm_meet an_meet cd_meet ct_meet), sl_meet⟩)
    (c_meet : PySem.W.codeIn K cd_meet "meet" = true)
    (k_meet : PySem.W.keepIn K (.ref f_meet) = true)
    (a_law : PySem.W.nsIn K mainGlobals "law" = some (some (.ref f_law)))
    (l_law : K.lookup f_law = some ⟨oc_law, od_law, .func (PySem.W.fnOf "law" "law" (defArgs s_law) (defBody s_law) (defScope s_law) .none kV_law dc_law pm_law an_law cd_law ct_law), sl_law⟩)
    (c_law : PySem.W.codeIn K cd_law "law" = true)
    (k_law : PySem.W.keepIn K (.ref f_law) = true)
    (z_abs : PySem.W.nsIn K mainGlobals "abs" = some none)
    (z_any : PySem.W.nsIn K mainGlobals "any" = some none)
    (z_bool : PySem.W.nsIn K mainGlobals "bool" = some none)
    (z_int : PySem.W.nsIn K mainGlobals "int" = some none)
    (z_isinstance : PySem.W.nsIn K mainGlobals "isinstance" = some none)
    (z_len : PySem.W.nsIn K mainGlobals "len" = some none)
    (z_list : PySem.W.nsIn K mainGlobals "list" = some none)
    (z_max : PySem.W.nsIn K mainGlobals "max" = some none)
    (z_min : PySem.W.nsIn K mainGlobals "min" = some none)
    (z_range : PySem.W.nsIn K mainGlobals "range" = some none)
    (z_tuple : PySem.W.nsIn K mainGlobals "tuple" = some none) :
    ∃ fd : FuncData, (∀ (s : Shared) (v : Value), BindsTo s fd ⟨[v], []⟩ [("script", v)]) ∧ ∀ base : Heap, K.In base → base.Ns mainGlobals mg → FnOk P w K mg base (L2.CX P w) 22 fa fd ["script"] (spD K mg 1 m_law) := by
  have e := hfa.symm.trans (PySem.W.mg_of X G a_law)
  cases e
  have F__law_begin := fun_mk (st := s__law_begin) l__law_begin c__law_begin k__law_begin
  have B__law_begin := F__law_begin.binds (ps := ["script"]) fun _ _ _ _ _ _ us hl => match us, hl with | [_], _ => rfl
  have F__law_take := fun_mk (st := s__law_take) l__law_take c__law_take k__law_take
  have B__law_take := F__law_take.binds (ps := ["d", "many"]) fun _ _ _ _ _ _ us hl => match us, hl with | [_, _], _ => rfl
  have F__law_form := fun_mk (st := s__law_form) l__law_form c__law_form k__law_form
  have B__law_form := F__law_form.binds (ps := ["d", "env", "size"]) fun _ _ _ _ _ _ us hl => match us, hl with | [_, _, _], _ => rfl
  have F__law_copy := fun_mk (st := s__law_copy) l__law_copy c__law_copy k__law_copy
  have B__law_copy := F__law_copy.binds (ps := ["d", "buffers", "env"]) fun _ _ _ _ _ _ us hl => match us, hl with | [_, _, _], _ => rfl
  have F__law_signed := fun_mk (st := s__law_signed) l__law_signed c__law_signed k__law_signed
  have B__law_signed := F__law_signed.binds (ps := ["d", "most"]) fun _ _ _ _ _ _ us hl => match us, hl with | [_, _], _ => rfl
  have F__law_point_info := fun_mk (st := s__law_point_info) l__law_point_info c__law_point_info k__law_point_info
  have B__law_point_info := F__law_point_info.binds (ps := ["d", "kind"]) fun _ _ _ _ _ _ us hl => match us, hl with | [_, _], _ => rfl
  have F__law_test := fun_mk (st := s__law_test) l__law_test c__law_test k__law_test
  have B__law_test := F__law_test.binds (ps := ["d", "env"]) fun _ _ _ _ _ _ us hl => match us, hl with | [_, _], _ => rfl
  have F__law_expr := fun_mk (st := s__law_expr) l__law_expr c__law_expr k__law_expr
  have B__law_expr := F__law_expr.binds (ps := ["d", "buffers", "env", "level"]) fun _ _ _ _ _ _ us hl => match us, hl with | [_, _, _, _], _ => rfl
  have F__law_body := fun_mk (st := s__law_body) l__law_body c__law_body k__law_body
  have B__law_body := F__law_body.binds (ps := ["d", "buffers", "env", "depth", "many"]) fun _ _ _ _ _ _ us hl => match us, hl with | [_, _, _, _, _], _ => rfl
  have F__law_statement := fun_mk (st := s__law_statement) l__law_statement c__law_statement k__law_statement
  have B__law_statement := F__law_statement.binds (ps := ["d", "buffers", "env", "depth"]) fun _ _ _ _ _ _ us hl => match us, hl with | [_, _, _, _], _ => rfl
  have F__law_in_expr := fun_mk (st := s__law_in_expr) l__law_in_expr c__law_in_expr k__law_in_expr
  have B__law_in_expr := F__law_in_expr.binds (ps := ["expr", "k"]) fun _ _ _ _ _ _ us hl => match us, hl with | [_, _], _ => rfl
  have F__law_in := fun_mk (st := s__law_in) l__law_in c__law_in k__law_in
  have B__law_in := F__law_in.binds (ps := ["s", "k"]) fun _ _ _ _ _ _ us hl => match us, hl with | [_, _], _ => rfl
  have F__law_program := fun_mk (st := s__law_program) l__law_program c__law_program k__law_program
  have B__law_program := F__law_program.binds (ps := ["d", "set_first"]) fun _ _ _ _ _ _ us hl => match us, hl with | [_, _], _ => rfl
  have F_expressions_in := fun_mk (st := s_expressions_in) l_expressions_in c_expressions_in k_expressions_in
  have B_expressions_in := F_expressions_in.binds (ps := ["expr"]) fun _ _ _ _ _ _ us hl => match us, hl with | [_], _ => rfl
  have F_statements_in := fun_mk (st := s_statements_in) l_statements_in c_statements_in k_statements_in
  have B_statements_in := F_statements_in.binds (ps := ["body"]) fun _ _ _ _ _ _ us hl => match us, hl with | [_], _ => rfl
  have F_buffers_in := fun_mk (st := s_buffers_in) l_buffers_in c_buffers_in k_buffers_in
  have B_buffers_in := F_buffers_in.binds (ps := ["statement"]) fun _ _ _ _ _ _ us hl => match us, hl with | [_], _ => rfl
  have F_lives := fun_mk (st := s_lives) l_lives c_lives k_lives
  have B_lives := F_lives.binds (ps := ["program", "outs"]) fun _ _ _ _ _ _ us hl => match us, hl with | [_, _], _ => rfl
  have F_meet := fun_mk (st := s_meet) l_meet c_meet k_meet
  have B_meet := F_meet.binds (ps := ["one", "other"]) fun _ _ _ _ _ _ us hl => match us, hl with | [_, _], _ => rfl
  have F_law := fun_mk (st := s_law) l_law c_law k_law
  have B_law := F_law.binds (ps := ["script"]) fun _ _ _ _ _ _ us hl => match us, hl with | [_], _ => rfl
  have T : Txt K mg := { b_abs := PySem.W.mg_none_of X G z_abs, b_any := PySem.W.mg_none_of X G z_any, b_bool := PySem.W.mg_none_of X G z_bool, b_int := PySem.W.mg_none_of X G z_int, b_isinstance := PySem.W.mg_none_of X G z_isinstance, b_len := PySem.W.mg_none_of X G z_len, b_list := PySem.W.mg_none_of X G z_list, b_max := PySem.W.mg_none_of X G z_max, b_min := PySem.W.mg_none_of X G z_min, b_range := PySem.W.mg_none_of X G z_range, b_tuple := PySem.W.mg_none_of X G z_tuple, d__law_begin := ⟨_, _, PySem.W.mg_of X G a__law_begin, F__law_begin, B__law_begin⟩, d__law_take := ⟨_, _, PySem.W.mg_of X G a__law_take, F__law_take, B__law_take⟩, d__law_form := ⟨_, _, PySem.W.mg_of X G a__law_form, F__law_form, B__law_form⟩, d__law_copy := ⟨_, _, PySem.W.mg_of X G a__law_copy, F__law_copy, B__law_copy⟩, d__law_signed := ⟨_, _, PySem.W.mg_of X G a__law_signed, F__law_signed, B__law_signed⟩, d__law_point_info := ⟨_, _, PySem.W.mg_of X G a__law_point_info, F__law_point_info, B__law_point_info⟩, d__law_test := ⟨_, _, PySem.W.mg_of X G a__law_test, F__law_test, B__law_test⟩, d__law_expr := ⟨_, _, PySem.W.mg_of X G a__law_expr, F__law_expr, B__law_expr⟩, d__law_body := ⟨_, _, PySem.W.mg_of X G a__law_body, F__law_body, B__law_body⟩, d__law_statement := ⟨_, _, PySem.W.mg_of X G a__law_statement, F__law_statement, B__law_statement⟩, d__law_in_expr := ⟨_, _, PySem.W.mg_of X G a__law_in_expr, F__law_in_expr, B__law_in_expr⟩, d__law_in := ⟨_, _, PySem.W.mg_of X G a__law_in, F__law_in, B__law_in⟩, d__law_program := ⟨_, _, PySem.W.mg_of X G a__law_program, F__law_program, B__law_program⟩, d_expressions_in := ⟨_, _, PySem.W.mg_of X G a_expressions_in, F_expressions_in, B_expressions_in⟩, d_statements_in := ⟨_, _, PySem.W.mg_of X G a_statements_in, F_statements_in, B_statements_in⟩, d_buffers_in := ⟨_, _, PySem.W.mg_of X G a_buffers_in, F_buffers_in, B_buffers_in⟩, d_lives := ⟨_, _, PySem.W.mg_of X G a_lives, F_lives, B_lives⟩, d_meet := ⟨_, _, PySem.W.mg_of X G a_meet, F_meet, B_meet⟩, d_law := ⟨_, _, PySem.W.mg_of X G a_law, F_law, B_law⟩ }
  refine ⟨PySem.W.fnOf "law" "law" (defArgs s_law) (defBody s_law) (defScope s_law) .none kV_law dc_law pm_law an_law cd_law ct_law, fun s v => .of_eq rfl, fun base _ _ => ?_⟩
  exact fn_ok F_law sc_law fun cdv A outer s H E hr =>
  (dss_cons (ds_set (i := 1) sc_law.nd rfl (.inr rfl) (de_call ((ok__law_begin T).mono (by decide)) hr (takes_of rfl rfl rfl rfl) (da_cons (dv 0) da_nil)))
  (dss_cons (ds_unpT rfl (pgs_cons (pg_name (i := 2) sc_law.nd rfl (.inr rfl)) (pgs_cons (pg_name (i := 3) sc_law.nd rfl (.inr rfl)) pgs_nil)) (de_call ((ok__law_program T).mono (by decide)) hr (takes_of rfl rfl rfl rfl) (da_cons (dv 1) (da_cons (de_cmp (op_eqA (hu64 hr)) og_eq (de_call ((ok__law_take T).mono (by decide)) hr (takes_of rfl rfl rfl rfl) (da_cons (dv 1) (da_cons de_int da_nil))) de_int (nomark _)) da_nil))) rfl)
  (dss_cons (ds_set (i := 3) sc_law.nd rfl (.inr rfl) (de_add (dv 3) (de_call ((ok__law_body T).mono (by decide)) hr (takes_of rfl rfl rfl rfl) (da_cons (dv 1) (da_cons (dv 2) (da_cons (de_lst da_nil) (da_cons de_int (da_cons (de_add de_int (de_call ((ok__law_take T).mono (by decide)) hr (takes_of rfl rfl rfl rfl) (da_cons (dv 1) (da_cons de_int da_nil)))) da_nil))))))))
  (dss_cons (ds_set (i := 4) sc_law.nd rfl (.inl rfl) (de_tuple T.b_tuple (da_cons (de_lc2 (own := [("k", 6)]) rfl sc_law.nd (DI.two (di_range1 T.b_range (da_cons (de_call ((ok__law_take T).mono (by decide)) hr (takes_of rfl rfl rfl rfl) (da_cons (dv 1) (da_cons de_int da_nil))) da_nil))) (blkOk_by (N := n_law) (sc := defScope s_law) (by decide +kernel)) (fun _ _ _ _ _ => (pg_name (i := 6) sc_law.nd rfl (.inl rfl))) (fun _ _ _ _ _ => dts_nil) (fun _ _ _ _ _ => (de_call ((ok__law_take T).mono (by decide)) hr tk0 (da_cons (dv 1) (da_cons (de_len T.b_len (da_cons (dv 2) da_nil)) da_nil))))) da_nil)))
  (dss_cons (ds_set (i := 5) sc_law.nd rfl (.inl rfl) (de_lst da_nil))
  (dss_cons (ds_for (t := (.one 6)) (passes_of rfl) rfl (di_range1 T.b_range (da_cons (de_len T.b_len (da_cons (dv 2) da_nil)) da_nil)) (pg_name (i := 6) sc_law.nd rfl (.inr rfl)) (dss_one (ds_if (dt_cmp (op_eqA (hu64 hr)) og_eq (de_ix (hu_of hr) (de_ix (hu_of hr) (dv 2) (dv 6)) de_int) de_str (nomark _)) (dss_cons (ds_setLc2 (own := [("t", 15)]) (i := 7) rfl sc_law.nd rfl rfl rfl (DI.two (di_range1 T.b_range (da_cons (de_len T.b_len (da_cons (dv 3) da_nil)) da_nil))) (blkOk_by (N := n_law) (sc := defScope s_law) (by decide +kernel)) (fun _ _ _ _ _ => (pg_name (i := 15) sc_law.nd rfl (.inl rfl))) (fun _ _ _ _ _ => (dts_one (dt_tru (de_call ((ok__law_in T).mono (by decide)) hr tk0 (da_cons (de_ix (hu_of hr) (dv 3) (dv 15)) (da_cons (dv 6) da_nil)))))) (fun _ _ _ _ _ => (dv 15)))
  (dss_cons (ds_set (i := 8) sc_law.nd rfl (.inl rfl) (de_if (dt_cmp op_gt og_intB (de_len T.b_len (da_cons (dv 7) da_nil)) de_int (nomark _)) (de_ix (hu_of hr) (dv 7) de_int) de_int))
  (dss_cons (ds_set (i := 9) sc_law.nd rfl (.inl rfl) (de_if (dt_cmp (op_inA (hu_of hr)) og_in (dv 6) (dv 4) (by rfl)) (de_len T.b_len (da_cons (dv 3) da_nil)) (de_if (dt_cmp op_gt og_intB (de_len T.b_len (da_cons (dv 7) da_nil)) de_int (nomark _)) (de_ix (hu_of hr) (dv 7) (de_neg de_int)) de_int)))
  (dss_one (ds_app (i := 5) rfl (.inl rfl) (de_tup (da_cons (dv 8) (da_cons (dv 9) da_nil)))))))) dss_nil)))
  (dss_cons (ds_set (i := 10) sc_law.nd rfl (.inl rfl) (de_call ((ok_lives T).mono (by decide)) hr (takes_of rfl rfl rfl rfl) (da_cons (de_tup (da_cons (dv 2) (da_cons (dv 3) da_nil))) (da_cons (dv 4) da_nil))))
  (dss_cons (ds_if (dt_w (dw_or (dt_not (dt_tru (de_isi T.b_isinstance T.b_tuple (dv 10) (by decide +kernel) (by decide +kernel)))) (dw_or1 (dt_cmp (op_neA (hu64 hr)) og_ne (dv 10) (de_tuple T.b_tuple (da_cons (dv 5) da_nil)) (nomark _))))) (dss_one (ds_ret de_bl)) dss_nil)
  (dss_cons (ds_for (t := (.one 11)) (passes_of rfl) rfl (di_range1 T.b_range (da_cons de_int da_nil)) (pg_name (i := 11) sc_law.nd rfl (.inl rfl)) (dss_cons (ds_set (i := 12) sc_law.nd rfl (.inl rfl) (de_tup (da_cons (de_call ((ok__law_take T).mono (by decide)) hr (takes_of rfl rfl rfl rfl) (da_cons (dv 1) (da_cons de_int da_nil))) (da_cons (de_add de_int (de_call ((ok__law_take T).mono (by decide)) hr (takes_of rfl rfl rfl rfl) (da_cons (dv 1) (da_cons de_int da_nil)))) da_nil))))
  (dss_cons (ds_set (i := 13) sc_law.nd rfl (.inr rfl) (de_tup (da_cons (de_call ((ok__law_take T).mono (by decide)) hr (takes_of rfl rfl rfl rfl) (da_cons (dv 1) (da_cons de_int da_nil))) (da_cons (de_add de_int (de_call ((ok__law_take T).mono (by decide)) hr (takes_of rfl rfl rfl rfl) (da_cons (dv 1) (da_cons de_int da_nil)))) da_nil))))
  (dss_cons (ds_set (i := 14) sc_law.nd rfl (.inl rfl) (de_call ((ok_meet T).mono (by decide)) hr (takes_of rfl rfl rfl rfl) (da_cons (dv 12) (da_cons (dv 13) da_nil))))
  (dss_cons (ds_if (dt_w (dw_or (dt_not (dt_tru (de_isi T.b_isinstance T.b_bool (dv 14) (by decide +kernel) (by decide +kernel)))) (dw_or1 (dt_cmp (op_neA (hu64 hr)) og_ne (dv 14) (de_cmp op_gt og_intB (de_len T.b_len (da_cons (de_lc2 (own := [("t", 15)]) rfl sc_law.nd (DI.two (di_range2 T.b_range (da_cons (de_ix (hu_of hr) (dv 12) de_int) (da_cons (de_add (de_ix (hu_of hr) (dv 12) de_int) de_int) da_nil)))) (blkOk_by (N := n_law) (sc := defScope s_law) (by decide +kernel)) (fun _ _ _ _ _ => (pg_name (i := 15) sc_law.nd rfl (.inl rfl))) (fun _ _ _ _ _ => (dts_one (dt_chain op_le og_intB op_le og_intB (de_ix (hu_of hr) (dv 13) de_int) (dv 15) (de_ix (hu_of hr) (dv 13) de_int)))) (fun _ _ _ _ _ => (dv 15))) da_nil)) de_int (nomark _)) (nomark _))))) (dss_one (ds_ret de_bl)) dss_nil)
  (dss_one (ds_if (dt_w (dw_or (dt_cmp (op_neA (hu64 hr)) og_ne (de_call ((ok_meet T).mono (by decide)) hr (takes_of rfl rfl rfl rfl) (da_cons (dv 13) (da_cons (dv 12) da_nil))) (dv 14) (nomark _)) (dw_or1 (dt_not (dt_tru (de_call ((ok_meet T).mono (by decide)) hr (takes_of rfl rfl rfl rfl) (da_cons (dv 12) (da_cons (dv 12) da_nil)))))))) (dss_one (ds_ret de_bl)) dss_nil)))))))
  (dss_one (ds_ret de_bl)))))))))))
end Lw
namespace Lw
open PySem PySem.Spec PyProof.Rows L2 DL
theorem big {n : Nat} (h : n ≤ 1000000) : n ≤ sizeLine := Nat.le_trans h (by decide)
theorem add_l {xs ys : List P} (h : xs.length + ys.length ≤ 1000000) : fAdd (.lst xs) (.lst ys) = .ok (.own (.lst (xs ++ ys))) := if_pos (big h)
theorem add_t {xs ys : List P} (h : xs.length + ys.length ≤ 1000000) : fAdd (.p (.tup xs)) (.p (.tup ys)) = .ok (.own (.p (.tup (xs ++ ys)))) := if_pos (big h)
theorem lc_cons {i : Nat} {ge : GE} {δ : Sl} {x y : P} {xs acc : List P} {r : R} (h : ge (δ.set i (.own (.p x))) = .ok r) (e : r.d = .p y) (hl : acc.length ≤ 1000) : lcL (.one i) gYes ge δ (x :: xs) acc = lcL (.one i) gYes ge δ xs (acc ++ [y]) := by
  have un : lcL (.one i) gYes ge δ (x :: xs) acc = ((ge (δ.set i (.own (.p x)))).noErr.bind fun r => match r.d with
      | .p y => if acc.length < sizeLine then lcL (.one i) gYes ge δ xs (acc ++ [y]) else .bad
      | _ => .bad) := rfl
  rw [un, h]
  show (match r.d with
      | .p y => if acc.length < sizeLine then lcL (.one i) gYes ge δ xs (acc ++ [y]) else .bad
      | _ => .bad) = _
  rw [e]
  exact if_pos (Nat.lt_of_lt_of_le (Nat.lt_succ_of_le hl) (by decide))
theorem glc_list {i : Nat} {gi : GI} {ge : GE} {δ : Sl} {xs ys : List P} (hg : gi δ = .ok xs) (h : lcL (.one i) gYes ge (δ.set i .no) xs [] = .ok ys) : gLc (.one i) [i] gi gYes ge δ = .ok (.own (.lst ys)) := by
  unfold gLc
  rw [hg]
  show ((lcL (.one i) gYes ge (δ.set i .no) xs []).bind _) = _
  rw [h]
  rfl
theorem lcL_ok {t : Tg} {gt : GT} {ge : GE} {δ : Sl} (b : P → Bool) (f : P → P) : ∀ (xs acc : List P), (∀ x ∈ xs, ∃ δ1, t.set (.p x) δ = some δ1 ∧ gt δ1 = .ok (b x) ∧ (b x = true → ∃ r, ge δ1 = .ok r ∧ r.d = .p (f x))) → acc.length + xs.length ≤ sizeLine →
    lcL t gt ge δ xs acc = .ok (acc ++ (xs.filter b).map f)
  | [], acc, _, _ => by simp [lcL]
  | x :: xs, acc, h, hz => by
    obtain ⟨δ1, e1, e2, e3⟩ := h x (by simp)
    simp only [List.length_cons] at hz
    unfold lcL
    rw [e1]
    dsimp only
    rw [e2]
    cases hb : b x with
    | false =>
      show lcL t gt ge δ xs acc = _
      rw [lcL_ok b f xs acc (fun y hy => h y (by simp [hy])) (by omega)]
      simp [hb]
    | true =>
      obtain ⟨r, e4, e5⟩ := e3 hb
      simp only [Rn.noErr, Rn.bind, if_true]
      rw [e4]
      simp only [Rn.noErr, Rn.bind]
      rw [e5]
      dsimp only
      rw [if_pos (by omega), lcL_ok b f xs (acc ++ [f x]) (fun y hy => h y (by simp [hy])) (by simp; omega)]
      simp [hb]

/-! expressions -/
inductive Ex where
  | num (a : P) | idx (a : P) | load (k : Int) (f : P) | guard (t : P) (a b : Ex) | pick (k : Int) (f s c : P) (e : Ex)
  | app1 (kd i : P) (a : Ex) | app2 (kd i : P) (a b : Ex) | app3 (kd i : P) (a b c : Ex)
def Ex.p : Ex → P
  | .num a => .tup [.str "number", a]
  | .idx a => .tup [.str "index", a]
  | .load k f => .tup [.str "load", .int k, f]
  | .guard t a b => .tup [.str "guard", t, a.p, b.p]
  | .pick k f s c e => .tup [.str "pick", .int k, f, s, c, e.p]
  | .app1 kd i a => .tup [.str "apply", kd, .tup [a.p], i]
  | .app2 kd i a b => .tup [.str "apply", kd, .tup [a.p, b.p], i]
  | .app3 kd i a b c => .tup [.str "apply", kd, .tup [a.p, b.p, c.p], i]
def Ex.dep : Ex → Nat
  | .num _ => 1
  | .idx _ => 1
  | .load _ _ => 1
  | .guard _ a b => 1 + max a.dep b.dep
  | .pick _ _ _ _ e => 1 + e.dep
  | .app1 _ _ a => 1 + a.dep
  | .app2 _ _ a b => 1 + max a.dep b.dep
  | .app3 _ _ a b c => 1 + max a.dep (max b.dep c.dep)
def Ex.all : Ex → List Ex
  | .num a => [.num a]
  | .idx a => [.idx a]
  | .load k f => [.load k f]
  | .guard t a b => .guard t a b :: (a.all ++ b.all)
  | .pick k f s c e => .pick k f s c e :: e.all
  | .app1 kd i a => .app1 kd i a :: a.all
  | .app2 kd i a b => .app2 kd i a b :: (a.all ++ b.all)
  | .app3 kd i a b c => .app3 kd i a b c :: (a.all ++ (b.all ++ c.all))
def Ex.buf : Ex → Option Int
  | .load k _ => some k
  | .pick k _ _ _ _ => some k
  | _ => none
def Ex.has (k : Int) : Ex → Bool
  | .num _ => false
  | .idx _ => false
  | .load j _ => decide (j = k)
  | .guard _ a b => a.has k || b.has k
  | .pick j _ _ _ e => decide (j = k) || e.has k
  | .app1 _ _ a => a.has k
  | .app2 _ _ a b => a.has k || b.has k
  | .app3 _ _ a b c => a.has k || (b.has k || c.has k)
def Ex.bufs (x : Ex) : List Int := x.all.filterMap Ex.buf
theorem Ex.has_bufs (k : Int) : ∀ x : Ex, x.has k = decide (k ∈ x.bufs)
  | .num _ => rfl
  | .idx _ => rfl
  | .load j _ => by simp [Ex.has, Ex.bufs, Ex.all, Ex.buf, eq_comm]
  | .guard _ a b => by
    have h1 := Ex.has_bufs k a
    have h2 := Ex.has_bufs k b
    simp only [Ex.has, h1, h2, Ex.bufs, Ex.all, Ex.buf, List.filterMap_cons, List.filterMap_append, List.mem_append, Bool.decide_or] <;> congr
  | .pick j _ _ _ e => by
    have h1 := Ex.has_bufs k e
    simp only [Ex.has, h1, Ex.bufs, Ex.all, Ex.buf, List.filterMap_cons, List.mem_cons, Bool.decide_or, eq_comm] <;> congr
  | .app1 _ _ a => by
    have h1 := Ex.has_bufs k a
    simp only [Ex.has, h1, Ex.bufs, Ex.all, Ex.buf, List.filterMap_cons] <;> congr
  | .app2 _ _ a b => by
    have h1 := Ex.has_bufs k a
    have h2 := Ex.has_bufs k b
    simp only [Ex.has, h1, h2, Ex.bufs, Ex.all, Ex.buf, List.filterMap_cons, List.filterMap_append, List.mem_append, Bool.decide_or] <;> congr
  | .app3 _ _ a b c => by
    have h1 := Ex.has_bufs k a
    have h2 := Ex.has_bufs k b
    have h3 := Ex.has_bufs k c
    simp only [Ex.has, h1, h2, h3, Ex.bufs, Ex.all, Ex.buf, List.filterMap_cons, List.filterMap_append, List.mem_append, Bool.decide_or] <;> congr
theorem Ex.len : ∀ (n : Nat) (x : Ex), x.dep ≤ n → x.all.length ≤ 4 ^ n
  | 0, x, h => by cases x <;> simp only [Ex.dep] at h <;> omega
  | n + 1, x, h => by
    have ih := Ex.len n
    have p : 1 ≤ 4 ^ n := Nat.one_le_pow _ _ (by decide)
    rw [Nat.pow_succ]
    cases x with
    | num a => simp only [Ex.all, List.length_cons, List.length_nil]; omega
    | idx a => simp only [Ex.all, List.length_cons, List.length_nil]; omega
    | load k f => simp only [Ex.all, List.length_cons, List.length_nil]; omega
    | guard t a b =>
      simp only [Ex.dep] at h
      have h1 := ih a (by omega)
      have h2 := ih b (by omega)
      simp only [Ex.all, List.length_cons, List.length_append]; omega
    | pick k f s c e =>
      simp only [Ex.dep] at h
      have h1 := ih e (by omega)
      simp only [Ex.all, List.length_cons]; omega
    | app1 kd i a =>
      simp only [Ex.dep] at h
      have h1 := ih a (by omega)
      simp only [Ex.all, List.length_cons]; omega
    | app2 kd i a b =>
      simp only [Ex.dep] at h
      have h1 := ih a (by omega)
      have h2 := ih b (by omega)
      simp only [Ex.all, List.length_cons, List.length_append]; omega
    | app3 kd i a b c =>
      simp only [Ex.dep] at h
      have h1 := ih a (by omega)
      have h2 := ih b (by omega)
      have h3 := ih c (by omega)
      simp only [Ex.all, List.length_cons, List.length_append]; omega

theorem ei : ∀ (n : Nat) (x : Ex), x.dep ≤ n → n ≤ 4 → m_expressions_in_r n [.p x.p] = .ok (.lst (x.all.map Ex.p))
  | 0, x, h, _ => by cases x <;> simp only [Ex.dep] at h <;> omega
  | n + 1, x, h, h4 => by
    have ih := ei n
    have len : ∀ y : Ex, y.dep ≤ n → y.all.length ≤ 64 := fun y hy => Nat.le_trans (Ex.len n y hy) (Nat.pow_le_pow_right (by decide) (by omega : n ≤ 3))
    cases x with
    | num a => exact fn_eq (seq_eq rfl (seq_eq (if_eqF rfl (if_eqF rfl (if_eqF rfl rfl))) rfl))
    | idx a => exact fn_eq (seq_eq rfl (seq_eq (if_eqF rfl (if_eqF rfl (if_eqF rfl rfl))) rfl))
    | load k f => exact fn_eq (seq_eq rfl (seq_eq (if_eqF rfl (if_eqF rfl (if_eqF rfl rfl))) rfl))
    | guard t a b =>
      simp only [Ex.dep] at h
      have la := len a (by omega)
      have lb := len b (by omega)
      refine fn_eq (seq_eq rfl (seq_eq (if_eqF rfl (if_eqF rfl (if_eqT rfl (set_eq (op2_eq (x := .own (.lst ([(Ex.guard t a b).p] ++ a.all.map Ex.p))) (y := .own (.lst (b.all.map Ex.p))) (op2_eq (x := .vw (.lst [(Ex.guard t a b).p])) (y := .own (.lst (a.all.map Ex.p))) rfl (fn_val (rs := [.own (.p a.p)]) rfl rfl (ih a (by omega) (by omega))) (add_l (by simp; omega))) (fn_val (rs := [.own (.p b.p)]) rfl rfl (ih b (by omega) (by omega))) (add_l (by simp; omega))))))) ?_))
      simp only [Ex.all, List.map_cons, List.map_append, List.singleton_append, List.cons_append]
      rfl
    | pick k f s c e =>
      simp only [Ex.dep] at h
      have la := len e (by omega)
      refine fn_eq (seq_eq rfl (seq_eq (if_eqT rfl (set_eq (op2_eq (x := .vw (.lst [(Ex.pick k f s c e).p])) (y := .own (.lst (e.all.map Ex.p))) rfl (fn_val (rs := [.own (.p e.p)]) rfl rfl (ih e (by omega) (by omega))) (add_l (by simp; omega))))) ?_))
      simp only [Ex.all, List.map_cons, List.map_append, List.singleton_append, List.cons_append]
      rfl
    | app1 kd i a =>
      simp only [Ex.dep] at h
      have la := len a (by omega)
      refine fn_eq (seq_eq rfl (seq_eq (if_eqF rfl (if_eqT rfl (for_eq (xs := [a.p]) rfl (forL_eq rfl (set_eq (op2_eq (x := .vw (.lst [(Ex.app1 kd i a).p])) (y := .own (.lst (a.all.map Ex.p))) rfl (fn_val (rs := [.own (.p a.p)]) rfl rfl (ih a (by omega) (by omega))) (add_l (by simp; omega)))) rfl)))) ?_))
      simp only [Ex.all, List.map_cons, List.map_append, List.singleton_append, List.cons_append]
      rfl
    | app2 kd i a b =>
      simp only [Ex.dep] at h
      have la := len a (by omega)
      have lb := len b (by omega)
      refine fn_eq (seq_eq rfl (seq_eq (if_eqF rfl (if_eqT rfl (for_eq (xs := [a.p, b.p]) rfl (forL_eq rfl (set_eq (op2_eq (x := .vw (.lst [(Ex.app2 kd i a b).p])) (y := .own (.lst (a.all.map Ex.p))) rfl (fn_val (rs := [.own (.p a.p)]) rfl rfl (ih a (by omega) (by omega))) (add_l (by simp; omega))))
        (forL_eq rfl (set_eq (op2_eq (x := .vw (.lst ([(Ex.app2 kd i a b).p] ++ a.all.map Ex.p))) (y := .own (.lst (b.all.map Ex.p))) rfl (fn_val (rs := [.own (.p b.p)]) rfl rfl (ih b (by omega) (by omega))) (add_l (by simp; omega)))) rfl))))) ?_))
      simp only [Ex.all, List.map_cons, List.map_append, List.singleton_append, List.cons_append]
      rfl
    | app3 kd i a b c =>
      simp only [Ex.dep] at h
      have la := len a (by omega)
      have lb := len b (by omega)
      have lc := len c (by omega)
      refine fn_eq (seq_eq rfl (seq_eq (if_eqF rfl (if_eqT rfl (for_eq (xs := [a.p, b.p, c.p]) rfl (forL_eq rfl (set_eq (op2_eq (x := .vw (.lst [(Ex.app3 kd i a b c).p])) (y := .own (.lst (a.all.map Ex.p))) rfl (fn_val (rs := [.own (.p a.p)]) rfl rfl (ih a (by omega) (by omega))) (add_l (by simp; omega))))
        (forL_eq rfl (set_eq (op2_eq (x := .vw (.lst ([(Ex.app3 kd i a b c).p] ++ a.all.map Ex.p))) (y := .own (.lst (b.all.map Ex.p))) rfl (fn_val (rs := [.own (.p b.p)]) rfl rfl (ih b (by omega) (by omega))) (add_l (by simp; omega))))
        (forL_eq rfl (set_eq (op2_eq (x := .vw (.lst ([(Ex.app3 kd i a b c).p] ++ a.all.map Ex.p ++ b.all.map Ex.p))) (y := .own (.lst (c.all.map Ex.p))) rfl (fn_val (rs := [.own (.p c.p)]) rfl rfl (ih c (by omega) (by omega))) (add_l (by simp; omega)))) rfl)))))) ?_))
      simp only [Ex.all, List.map_cons, List.map_append, List.singleton_append, List.cons_append, List.append_assoc]
      rfl

theorem hx : ∀ (n : Nat) (x : Ex) (k : Int), x.dep ≤ n → m__law_in_expr_r n [.p x.p, .p (.int k)] = .ok (.p (.bl (x.has k)))
  | 0, x, k, h => by cases x <;> simp only [Ex.dep] at h <;> omega
  | n + 1, x, k, h => by
    have ih := hx n
    have ee : ∀ (i j : Int), fB (fEqB false) (.p (.int i)) (.p (.int j)) = .ok (.own (.p (.bl (decide (i = j))))) := eq_ints
    cases x with
    | num a => exact fn_eq (seq_eq (if_eqF rfl rfl) (seq_eq (if_eqF rfl rfl) (seq_eq (if_eqF rfl rfl) (ret_eq (if_eq (k := false) rfl rfl)))))
    | idx a => exact fn_eq (seq_eq (if_eqF rfl rfl) (seq_eq (if_eqF rfl rfl) (seq_eq (if_eqF rfl rfl) (ret_eq (if_eq (k := false) rfl rfl)))))
    | load j f => exact fn_eq (seq_eqr (if_eqT rfl (ret_eq (op2_eq (x := .own (.p (.int j))) (y := .own (.p (.int k))) rfl rfl (ee j k)))))
    | guard t a b =>
      simp only [Ex.dep] at h
      refine fn_eq (seq_eq (if_eqF rfl rfl) (seq_eq (if_eqF rfl rfl) (seq_eqr (if_eqT rfl (ret_eq ?_)))))
      have ha := fn_val (n := 2) (f := m__law_in_expr_r n) (gs := DL.gCons (gOp2 fIx (gVar 0) (gC (.int 2))) (DL.gCons (gVar 1) DL.gNil)) (δ := [.bor none (.p (Ex.guard t a b).p), .bor none (.p (.int k)), .no]) (rs := [.own (.p a.p), .own (.p (.int k))]) rfl rfl (ih a k (by omega))
      have hb := fn_val (n := 2) (f := m__law_in_expr_r n) (gs := DL.gCons (gOp2 fIx (gVar 0) (gC (.int 3))) (DL.gCons (gVar 1) DL.gNil)) (δ := [.bor none (.p (Ex.guard t a b).p), .bor none (.p (.int k)), .no]) (rs := [.own (.p b.p), .own (.p (.int k))]) rfl rfl (ih b k (by omega))
      simp only [Ex.has]
      cases e : a.has k with
      | true => rw [e] at ha; exact orV_eqT ha
      | false => rw [e] at ha; exact orV_eqF ha hb
    | pick j f s c e =>
      simp only [Ex.dep] at h
      refine fn_eq (seq_eq (if_eqF rfl rfl) (seq_eqr (if_eqT rfl (ret_eq ?_))))
      have ha : gOp2 (fB (fEqB false)) (gOp2 fIx (gVar 0) (gC (.int 1))) (gVar 1) [.bor none (.p (Ex.pick j f s c e).p), .bor none (.p (.int k)), .no] = .ok (.own (.p (.bl (decide (j = k))))) := op2_eq (x := .own (.p (.int j))) (y := .own (.p (.int k))) rfl rfl (ee j k)
      have hb := fn_val (n := 2) (f := m__law_in_expr_r n) (gs := DL.gCons (gOp2 fIx (gVar 0) (gC (.int 5))) (DL.gCons (gVar 1) DL.gNil)) (δ := [.bor none (.p (Ex.pick j f s c e).p), .bor none (.p (.int k)), .no]) (rs := [.own (.p e.p), .own (.p (.int k))]) rfl rfl (ih e k (by omega))
      simp only [Ex.has]
      by_cases q : j = k
      · rw [decide_eq_true q] at ha ⊢; exact orV_eqT ha
      · rw [decide_eq_false q] at ha ⊢; exact orV_eqF ha hb
    | app1 kd i a =>
      simp only [Ex.dep] at h
      refine fn_eq (seq_eq (if_eqF rfl rfl) (seq_eq (if_eqF rfl rfl) (seq_eq (if_eqF rfl rfl) (ret_eq (if_eq (k := true) rfl ?_)))))
      have c1 : ∀ (acc : List P) (xs : List P), acc.length ≤ 1000 → lcL (.one 2) gYes (gFn 2 (m__law_in_expr_r n) (DL.gCons (gVar 2) (DL.gCons (gVar 1) DL.gNil))) [.bor none (.p (Ex.app1 kd i a).p), .bor none (.p (.int k)), .no] (a.p :: xs) acc = _ := fun acc xs hl => lc_cons (y := .bl (a.has k)) (fn_val (rs := [.own (.p a.p), .own (.p (.int k))]) rfl rfl (ih a k (by omega))) rfl hl
      refine call_eq (rs := [.own (.lst [.bl (a.has k)])]) (cons_eq ?_ rfl) ?_
      · exact glc_list (xs := [a.p]) rfl ((c1 [] [] (by decide)).trans rfl)
      · show Rn.ok (R.own (.p (.bl ([a.has k].any id)))) = _
        simp [Ex.has]
    | app2 kd i a b =>
      simp only [Ex.dep] at h
      refine fn_eq (seq_eq (if_eqF rfl rfl) (seq_eq (if_eqF rfl rfl) (seq_eq (if_eqF rfl rfl) (ret_eq (if_eq (k := true) rfl ?_)))))
      have c1 : ∀ (y : Ex) (acc : List P) (xs : List P), y.dep ≤ n → acc.length ≤ 1000 → lcL (.one 2) gYes (gFn 2 (m__law_in_expr_r n) (DL.gCons (gVar 2) (DL.gCons (gVar 1) DL.gNil))) [.bor none (.p (Ex.app2 kd i a b).p), .bor none (.p (.int k)), .no] (y.p :: xs) acc = _ := fun y acc xs hy hl => lc_cons (y := .bl (y.has k)) (fn_val (rs := [.own (.p y.p), .own (.p (.int k))]) rfl rfl (ih y k hy)) rfl hl
      refine call_eq (rs := [.own (.lst [.bl (a.has k), .bl (b.has k)])]) (cons_eq ?_ rfl) ?_
      · exact glc_list (xs := [a.p, b.p]) rfl ((c1 a [] [b.p] (by omega) (by decide)).trans ((c1 b [.bl (a.has k)] [] (by omega) (by simp)).trans rfl))
      · show Rn.ok (R.own (.p (.bl ([a.has k, b.has k].any id)))) = _
        simp [Ex.has]
    | app3 kd i a b c =>
      simp only [Ex.dep] at h
      refine fn_eq (seq_eq (if_eqF rfl rfl) (seq_eq (if_eqF rfl rfl) (seq_eq (if_eqF rfl rfl) (ret_eq (if_eq (k := true) rfl ?_)))))
      have c1 : ∀ (y : Ex) (acc : List P) (xs : List P), y.dep ≤ n → acc.length ≤ 1000 → lcL (.one 2) gYes (gFn 2 (m__law_in_expr_r n) (DL.gCons (gVar 2) (DL.gCons (gVar 1) DL.gNil))) [.bor none (.p (Ex.app3 kd i a b c).p), .bor none (.p (.int k)), .no] (y.p :: xs) acc = _ := fun y acc xs hy hl => lc_cons (y := .bl (y.has k)) (fn_val (rs := [.own (.p y.p), .own (.p (.int k))]) rfl rfl (ih y k hy)) rfl hl
      refine call_eq (rs := [.own (.lst [.bl (a.has k), .bl (b.has k), .bl (c.has k)])]) (cons_eq ?_ rfl) ?_
      · exact glc_list (xs := [a.p, b.p, c.p]) rfl ((c1 a [] [b.p, c.p] (by omega) (by decide)).trans ((c1 b [.bl (a.has k)] [c.p] (by omega) (by simp)).trans ((c1 c [.bl (a.has k), .bl (b.has k)] [] (by omega) (by simp)).trans rfl)))
      · show Rn.ok (R.own (.p (.bl ([a.has k, b.has k, c.has k].any id)))) = _
        simp [Ex.has]
/-! statements -/
inductive Hd where
  | lp (v s t c : P) | wh (t : P)
inductive St where
  | put (k : Int) (f : P) (e : Ex) | copy (a : Int) (f : P) (b : Int) (g c : P) | one (h : Hd) (a : St) | two (h : Hd) (a b : St)
def Hd.wrap : Hd → P → P
  | .lp v s t c, b => .tup [.str "loop", v, s, t, c, b]
  | .wh t, b => .tup [.str "when", t, b]
def St.p : St → P
  | .put k f e => .tup [.str "put", .int k, f, e.p]
  | .copy a f b g c => .tup [.str "copy", .int a, f, .int b, g, c]
  | .one h a => h.wrap (.tup [a.p])
  | .two h a b => h.wrap (.tup [a.p, b.p])
def St.dep : St → Nat
  | .put _ _ _ => 1
  | .copy _ _ _ _ _ => 1
  | .one _ a => 1 + a.dep
  | .two _ a b => 1 + max a.dep b.dep
def St.good : St → Prop
  | .put _ _ e => e.dep ≤ 4
  | .copy _ _ _ _ _ => True
  | .one _ a => a.good
  | .two _ a b => a.good ∧ b.good
def St.all : St → List St
  | .put k f e => [.put k f e]
  | .copy a f b g c => [.copy a f b g c]
  | .one h a => .one h a :: a.all
  | .two h a b => .two h a b :: (a.all ++ b.all)
def St.own : St → List Int
  | .put k _ e => k :: e.bufs
  | .copy a _ b _ _ => [a, b]
  | _ => []
def St.bufs (s : St) : List Int := s.all.flatMap St.own
def St.has (k : Int) : St → Bool
  | .put j _ e => decide (j = k) || e.has k
  | .copy a _ b _ _ => decide (a = k) || decide (b = k)
  | .one _ a => a.has k
  | .two _ a b => a.has k || b.has k
theorem St.has_bufs (k : Int) : ∀ s : St, s.has k = decide (k ∈ s.bufs)
  | .put j _ e => by
    have h := Ex.has_bufs k e
    rw [Bool.eq_iff_iff]
    simp only [St.has, h, St.bufs, St.all, St.own, List.flatMap_cons, List.flatMap_nil, List.append_nil, Bool.or_eq_true, decide_eq_true_eq, List.mem_cons]
    exact ⟨fun h => h.imp Eq.symm id, fun h => h.imp Eq.symm id⟩
  | .copy a _ b _ _ => by
    rw [Bool.eq_iff_iff]
    simp only [St.has, St.bufs, St.all, St.own, List.flatMap_cons, List.flatMap_nil, List.append_nil, Bool.or_eq_true, decide_eq_true_eq, List.mem_cons, List.not_mem_nil, or_false]
    exact ⟨fun h => h.imp Eq.symm Eq.symm, fun h => h.imp Eq.symm Eq.symm⟩
  | .one _ a => St.has_bufs k a
  | .two w a b => by
    have h := St.has_bufs k a
    have h' := St.has_bufs k b
    have e : (St.two w a b).bufs = a.bufs ++ b.bufs := by simp [St.bufs, St.all, St.own]
    show (a.has k || b.has k) = _
    rw [h, h', Bool.eq_iff_iff, Bool.or_eq_true]
    constructor
    · rintro (q | q)
      · exact decide_eq_true (by rw [e]; exact List.mem_append.mpr (.inl (of_decide_eq_true q)))
      · exact decide_eq_true (by rw [e]; exact List.mem_append.mpr (.inr (of_decide_eq_true q)))
    · intro q
      have := of_decide_eq_true q
      rw [e] at this
      rcases List.mem_append.mp this with q | q
      · exact .inl (decide_eq_true q)
      · exact .inr (decide_eq_true q)
def St.kids : St → List St
  | .one _ a => [a]
  | .two _ a b => [a, b]
  | _ => []
theorem St.all_kids : ∀ s : St, s.all = s :: s.kids.flatMap St.all
  | .put _ _ _ => rfl
  | .copy _ _ _ _ _ => rfl
  | .one _ a => by simp [St.all, St.kids]
  | .two _ a b => by simp [St.all, St.kids]
theorem St.len : ∀ (n : Nat) (s : St), s.dep ≤ n → s.all.length ≤ 3 ^ n
  | 0, s, h => by cases s <;> simp only [St.dep] at h <;> omega
  | n + 1, s, h => by
    have ih := St.len n
    have p : 1 ≤ 3 ^ n := Nat.one_le_pow _ _ (by decide)
    rw [Nat.pow_succ]
    cases s with
    | put _ _ _ => simp only [St.all, List.length_cons, List.length_nil]; omega
    | copy _ _ _ _ _ => simp only [St.all, List.length_cons, List.length_nil]; omega
    | one w a =>
      simp only [St.dep] at h
      have := ih a (by omega)
      simp only [St.all, List.length_cons]; omega
    | two w a b =>
      simp only [St.dep] at h
      have h1 := ih a (by omega)
      have h2 := ih b (by omega)
      simp only [St.all, List.length_cons, List.length_append]; omega
theorem len_all : ∀ (l : List St), (∀ s ∈ l, s.dep ≤ 6) → (l.flatMap St.all).length ≤ 729 * l.length
  | [], _ => by simp
  | s :: l, h => by
    have h1 := St.len 6 s (h s (by simp))
    have h2 := len_all l fun t ht => h t (by simp [ht])
    simp only [List.flatMap_cons, List.length_append, List.length_cons]
    have : (3 : Nat) ^ 6 = 729 := by decide
    omega
theorem app_eq {i : Nat} {a : GE} {δ : Sl} {xs : List P} {x : P} (e : δ[i]? = some (.own (.lst xs))) (h : a δ = .ok (.own (.p x))) (hl : xs.length < 1000000) : gApp i a δ = .ok (.nx (δ.set i (.own (.lst (xs ++ [x]))))) := by
  unfold gApp
  rw [e]
  dsimp only
  rw [if_pos (show (D.lst xs).isL = true from rfl), h]
  show (match fApp (.lst xs) (.own (.p x)) with | some d' => Rn.ok (Fl.nx (δ.set i (.own d'))) | none => Rn.bad) = _
  have : fApp (.lst xs) (.own (.p x)) = some (.lst (xs ++ [x])) := if_pos (Nat.lt_of_lt_of_le hl (by decide))
  rw [this]
def bodyS (mh : Fn) : GS := gSeq (gApp 1 (gVar 2))
  (gIfS (gTB (gOp2 (fB (fIn false)) (gOp2 fIx (gVar 2) (gC (.int 0))) (DL.gTup (DL.gCons (gC (.str "loop")) (DL.gCons (gC (.str "when")) DL.gNil))))) (gSet 1 (gOp2 fAdd (gVar 1) (gFn 1 mh (DL.gCons (gOp2 fIx (gVar 2) (gOp1 fNeg (gC (.int 1)))) DL.gNil)))) gNext)
theorem nestS {mh : Fn} {h : Hd} {B : P} {zs A C : List P} {s0 : S} (r : mh [.p B] = .ok (.lst zs)) (g : fAdd (.lst A) (.lst zs) = .ok (.own (.lst C))) :
    gIfS (gTB (gOp2 (fB (fIn false)) (gOp2 fIx (gVar 2) (gC (.int 0))) (DL.gTup (DL.gCons (gC (.str "loop")) (DL.gCons (gC (.str "when")) DL.gNil))))) (gSet 1 (gOp2 fAdd (gVar 1) (gFn 1 mh (DL.gCons (gOp2 fIx (gVar 2) (gOp1 fNeg (gC (.int 1)))) DL.gNil)))) gNext [s0, .own (.lst A), .own (.p (h.wrap B))] = .ok (.nx [s0, .own (.lst C), .own (.p (h.wrap B))]) := by
  cases h with
  | lp v s t c => exact if_eqT rfl (set_eq (op2_eq (x := .vw (.lst A)) (y := .own (.lst zs)) rfl (fn_val (rs := [.own (.p B)]) rfl rfl r) g))
  | wh t => exact if_eqT rfl (set_eq (op2_eq (x := .vw (.lst A)) (y := .own (.lst zs)) rfl (fn_val (rs := [.own (.p B)]) rfl rfl r) g))
theorem si_step (n : Nat) (ih : ∀ l : List St, (∀ s ∈ l, s.dep ≤ n) → n ≤ 6 → l.length ≤ 20 → l ≠ [] → m_statements_in_r n [.p (.tup (l.map St.p))] = .ok (.lst ((l.flatMap St.all).map St.p))) (hn : n + 1 ≤ 6) (s : St) (hs : s.dep ≤ n + 1) (acc : List P) (ha : acc.length ≤ 20000) (s0 : S) :
    bodyS (m_statements_in_r n) [s0, .own (.lst acc), .own (.p s.p)] = .ok (.nx [s0, .own (.lst (acc ++ s.all.map St.p)), .own (.p s.p)]) := by
  have ap : gApp 1 (gVar 2) [s0, .own (.lst acc), .own (.p s.p)] = .ok (.nx [s0, .own (.lst (acc ++ [s.p])), .own (.p s.p)]) := by
    exact app_eq rfl rfl (by omega)
  have nest : ∀ (h : Hd) (kids : List St), s.p = h.wrap (.tup (kids.map St.p)) → s.kids = kids → kids.length ≤ 2 → kids ≠ [] → (∀ t ∈ kids, t.dep ≤ n) → bodyS (m_statements_in_r n) [s0, .own (.lst acc), .own (.p s.p)] = .ok (.nx [s0, .own (.lst (acc ++ s.all.map St.p)), .own (.p s.p)]) := by
    intro h kids e ek hl hne hd
    refine seq_eq ap ?_
    have l2 := len_all kids fun t ht => Nat.le_trans (hd t ht) (by omega)
    have r : m_statements_in_r n [.p (.tup (kids.map St.p))] = _ := ih kids hd (by omega) (by omega) hne
    have fin : (acc ++ [s.p]) ++ (kids.flatMap St.all).map St.p = acc ++ s.all.map St.p := by
      rw [St.all_kids, ek]
      simp
    have g1 : fAdd (.lst (acc ++ [s.p])) (.lst ((kids.flatMap St.all).map St.p)) = .ok (.own (.lst (acc ++ s.all.map St.p))) := by
      rw [← fin]
      exact add_l (by simp only [List.length_append, List.length_map, List.length_cons, List.length_nil]; omega)
    have := nestS (h := h) (s0 := s0) r g1
    rw [← e] at this
    exact this
  cases s with
  | put k f e => exact seq_eq ap (if_eqF rfl rfl)
  | copy a f b g c => exact seq_eq ap (if_eqF rfl rfl)
  | one h a =>
    simp only [St.dep] at hs
    exact nest h [a] rfl rfl (by simp) (by simp) (by simp; omega)
  | two h a b =>
    simp only [St.dep] at hs
    exact nest h [a, b] rfl rfl (by simp) (by simp) (by simp; omega)
theorem si_loop (n : Nat) (ih : ∀ l : List St, (∀ s ∈ l, s.dep ≤ n) → n ≤ 6 → l.length ≤ 20 → l ≠ [] → m_statements_in_r n [.p (.tup (l.map St.p))] = .ok (.lst ((l.flatMap St.all).map St.p))) (hn : n + 1 ≤ 6) (s0 : S) : ∀ (l : List St) (acc : List P) (s2 : S), (∀ s ∈ l, s.dep ≤ n + 1) → acc.length + 729 * l.length ≤ 20000 →
    ∃ s2', gForL (.one 2) (bodyS (m_statements_in_r n)) (l.map St.p) [s0, .own (.lst acc), s2] = .ok (.nx [s0, .own (.lst (acc ++ (l.flatMap St.all).map St.p)), s2'])
  | [], acc, s2, _, _ => ⟨s2, by simp [gForL]⟩
  | s :: l, acc, s2, hd, hl => by
    simp only [List.length_cons] at hl
    have h1 := St.len 6 s (Nat.le_trans (hd s (by simp)) hn)
    have e6 : (3 : Nat) ^ 6 = 729 := by decide
    obtain ⟨s2', w⟩ := si_loop n ih hn s0 l (acc ++ s.all.map St.p) (.own (.p s.p)) (fun t ht => hd t (by simp [ht])) (by simp; omega)
    refine ⟨s2', forL_eq rfl (si_step n ih hn s (hd s (by simp)) acc (by omega) s0) (w.trans ?_)⟩
    simp
theorem si : ∀ (n : Nat) (l : List St), (∀ s ∈ l, s.dep ≤ n) → n ≤ 6 → l.length ≤ 20 → l ≠ [] → m_statements_in_r n [.p (.tup (l.map St.p))] = .ok (.lst ((l.flatMap St.all).map St.p))
  | 0, l, h, _, _, hne => by
    cases l with
    | nil => exact absurd rfl hne
    | cons s l =>
      have := h s (by simp)
      cases s <;> simp only [St.dep] at this <;> omega
  | n + 1, l, h, hn, hl, _ => by
    obtain ⟨s2', w⟩ := si_loop n (si n) hn (.bor none (.p (.tup (l.map St.p)))) l [] .no h (by simp; omega)
    exact fn_eq (seq_eq rfl (seq_eq w rfl))

theorem sh : ∀ (n : Nat) (s : St) (k : Int), s.dep ≤ n → s.good → m__law_in_r n [.p s.p, .p (.int k)] = .ok (.p (.bl (s.has k)))
  | 0, s, k, h, _ => by cases s <;> simp only [St.dep] at h <;> omega
  | n + 1, s, k, h, hg => by
    have ih := sh n
    cases s with
    | put j f e =>
      refine fn_eq (seq_eq (if_eqF rfl rfl) (seq_eq (if_eqF rfl rfl) (ret_eq ?_)))
      have ha : gOp2 (fB (fEqB false)) (gOp2 fIx (gVar 0) (gC (.int 1))) (gVar 1) [.bor none (.p (St.put j f e).p), .bor none (.p (.int k)), .no] = .ok (.own (.p (.bl (decide (j = k))))) := op2_eq (x := .own (.p (.int j))) (y := .own (.p (.int k))) rfl rfl (eq_ints j k)
      have hb := fn_val (n := 2) (f := m__law_in_expr) (gs := DL.gCons (gOp2 fIx (gVar 0) (gC (.int 3))) (DL.gCons (gVar 1) DL.gNil)) (δ := [.bor none (.p (St.put j f e).p), .bor none (.p (.int k)), .no]) (rs := [.own (.p e.p), .own (.p (.int k))]) rfl rfl (hx 4 e k hg)
      simp only [St.has]
      by_cases q : j = k
      · rw [decide_eq_true q] at ha ⊢; exact orV_eqT ha
      · rw [decide_eq_false q] at ha ⊢; exact orV_eqF ha hb
    | copy a f b g c =>
      refine fn_eq (seq_eq (if_eqF rfl rfl) (seq_eqr (if_eqT rfl (ret_eq ?_))))
      have ha : gOp2 (fB (fEqB false)) (gOp2 fIx (gVar 0) (gC (.int 1))) (gVar 1) [.bor none (.p (St.copy a f b g c).p), .bor none (.p (.int k)), .no] = .ok (.own (.p (.bl (decide (a = k))))) := op2_eq (x := .own (.p (.int a))) (y := .own (.p (.int k))) rfl rfl (eq_ints a k)
      have hb : gOp2 (fB (fEqB false)) (gOp2 fIx (gVar 0) (gC (.int 3))) (gVar 1) [.bor none (.p (St.copy a f b g c).p), .bor none (.p (.int k)), .no] = .ok (.own (.p (.bl (decide (b = k))))) := op2_eq (x := .own (.p (.int b))) (y := .own (.p (.int k))) rfl rfl (eq_ints b k)
      simp only [St.has]
      by_cases q : a = k
      · rw [decide_eq_true q] at ha ⊢; exact orV_eqT ha
      · rw [decide_eq_false q] at ha ⊢; exact orV_eqF ha hb
    | one w a =>
      simp only [St.dep] at h
      have c1 : ∀ (δ : Sl), lcL (.one 2) gYes (gFn 2 (m__law_in_r n) (DL.gCons (gVar 2) (DL.gCons (gVar 1) DL.gNil))) [.bor none (.p (w.wrap (.tup [a.p]))), .bor none (.p (.int k)), .no] [a.p] [] = _ := fun _ => lc_cons (y := .bl (a.has k)) (fn_val (rs := [.own (.p a.p), .own (.p (.int k))]) rfl rfl (ih a k (by omega) hg)) rfl (by decide)
      have c2 : fAnyAll (fun bs => bs.any id) [.lst [.bl (a.has k)]] = .ok (.own (.p (.bl ((St.one w a).has k)))) := by
        show Rn.ok (R.own (.p (.bl ([a.has k].any id)))) = _
        simp [St.has]
      cases w with
      | lp v s t c => exact fn_eq (seq_eqr (if_eqT rfl (ret_eq (call_eq (rs := [.own (.lst [.bl (a.has k)])]) (cons_eq (glc_list (xs := [a.p]) rfl ((c1 []).trans rfl)) rfl) c2))))
      | wh t => exact fn_eq (seq_eqr (if_eqT rfl (ret_eq (call_eq (rs := [.own (.lst [.bl (a.has k)])]) (cons_eq (glc_list (xs := [a.p]) rfl ((c1 []).trans rfl)) rfl) c2))))
    | two w a b =>
      simp only [St.dep] at h
      have c1 : ∀ (y : St) (acc : List P) (xs : List P), y.dep ≤ n → y.good → acc.length ≤ 1000 → lcL (.one 2) gYes (gFn 2 (m__law_in_r n) (DL.gCons (gVar 2) (DL.gCons (gVar 1) DL.gNil))) [.bor none (.p (w.wrap (.tup [a.p, b.p]))), .bor none (.p (.int k)), .no] (y.p :: xs) acc = _ := fun y acc xs hy hg hl => lc_cons (y := .bl (y.has k)) (fn_val (rs := [.own (.p y.p), .own (.p (.int k))]) rfl rfl (ih y k hy hg)) rfl hl
      have c2 : fAnyAll (fun bs => bs.any id) [.lst [.bl (a.has k), .bl (b.has k)]] = .ok (.own (.p (.bl ((St.two w a b).has k)))) := by
        show Rn.ok (R.own (.p (.bl ([a.has k, b.has k].any id)))) = _
        simp [St.has]
      cases w with
      | lp v s t c => exact fn_eq (seq_eqr (if_eqT rfl (ret_eq (call_eq (rs := [.own (.lst [.bl (a.has k), .bl (b.has k)])]) (cons_eq (glc_list (xs := [a.p, b.p]) rfl ((c1 a [] [b.p] (by omega) hg.1 (by decide)).trans ((c1 b [.bl (a.has k)] [] (by omega) hg.2 (by simp)).trans rfl))) rfl) c2))))
      | wh t => exact fn_eq (seq_eqr (if_eqT rfl (ret_eq (call_eq (rs := [.own (.lst [.bl (a.has k), .bl (b.has k)])]) (cons_eq (glc_list (xs := [a.p, b.p]) rfl ((c1 a [] [b.p] (by omega) hg.1 (by decide)).trans ((c1 b [.bl (a.has k)] [] (by omega) hg.2 (by simp)).trans rfl))) rfl) c2))))

/-! buffers in a statement -/
def pI (l : List Int) : List P := l.map P.int
def isB (x : P) : Bool := match x with
  | .tup (.str s :: _) => decide (s = "load") || decide (s = "pick")
  | _ => false
def sec (x : P) : P := match x with
  | .tup (_ :: y :: _) => y
  | _ => .non
theorem isB_p (x : Ex) : isB x.p = x.buf.isSome := by cases x <;> rfl
theorem sec_p (x : Ex) (k : Int) (h : x.buf = some k) : sec x.p = .int k := by
  cases x <;> first
    | (cases h; done)
    | (obtain rfl := Option.some.inj h; rfl)
theorem bf_list : ∀ l : List Ex, ((l.map Ex.p).filter isB).map sec = pI (l.filterMap Ex.buf)
  | [] => rfl
  | x :: l => by
    have ih := bf_list l
    rw [List.map_cons, List.filter_cons, isB_p, List.filterMap_cons]
    cases e : x.buf with
    | none => exact ih
    | some k =>
      show sec x.p :: ((l.map Ex.p).filter isB).map sec = .int k :: pI (l.filterMap Ex.buf)
      rw [ih, sec_p x k e]
theorem seqL_eq {ga : GE} {δ : Sl} {r : R} {xs : List P} (h : ga δ = .ok r) (e : r.itemsL = some xs) : gSeqL ga δ = .ok xs := by
  unfold gSeqL
  rw [h, Rn.bind_ok, e]
theorem seqI_eq {ga : GE} {δ : Sl} {r : R} {xs : List P} (h : ga δ = .ok r) (e : r.items = some xs) : gSeqI ga δ = .ok xs := by
  unfold gSeqI
  rw [h, Rn.bind_ok, e]
theorem bf_eq (x : Ex) (hd : x.dep ≤ 4) (s0 s1 : S) (f : P) (k : Int) : gLc (.one 3) [3] (gSeqL (gFn 1 m_expressions_in (DL.gCons (gOp2 fIx (gVar 2) (gC (.int 3))) DL.gNil))) (gTB (gOp2 (fB (fIn false)) (gOp2 fIx (gVar 3) (gC (.int 0))) (DL.gTup (DL.gCons (gC (.str "load")) (DL.gCons (gC (.str "pick")) DL.gNil))))) (gOp2 fIx (gVar 3) (gC (.int 1))) [s0, s1, .own (.p (St.put k f x).p), .no] = .ok (.own (.lst (pI x.bufs))) := by
  have lc := lcL_ok (t := .one 3) (gt := gTB (gOp2 (fB (fIn false)) (gOp2 fIx (gVar 3) (gC (.int 0))) (DL.gTup (DL.gCons (gC (.str "load")) (DL.gCons (gC (.str "pick")) DL.gNil))))) (ge := gOp2 fIx (gVar 3) (gC (.int 1))) (δ := [s0, s1, .own (.p (St.put k f x).p), .no]) isB sec (x.all.map Ex.p) [] (fun y hy => by
      obtain ⟨z, hz, rfl⟩ := List.mem_map.mp hy
      cases z with
      | num a => exact ⟨_, rfl, rfl, fun q => nomatch q⟩
      | idx a => exact ⟨_, rfl, rfl, fun q => nomatch q⟩
      | load k f => exact ⟨_, rfl, rfl, fun q => ⟨.own (.p (.int k)), rfl, rfl⟩⟩
      | guard t a b => exact ⟨_, rfl, rfl, fun q => nomatch q⟩
      | pick k f s c e => exact ⟨_, rfl, rfl, fun q => ⟨.own (.p (.int k)), rfl, rfl⟩⟩
      | app1 kd i a => exact ⟨_, rfl, rfl, fun q => nomatch q⟩
      | app2 kd i a b => exact ⟨_, rfl, rfl, fun q => nomatch q⟩
      | app3 kd i a b c => exact ⟨_, rfl, rfl, fun q => nomatch q⟩) (by
      have := Ex.len 4 x hd
      simp only [List.length_nil, List.length_map]
      exact big (by omega))
  have hg : gSeqL (gFn 1 m_expressions_in (DL.gCons (gOp2 fIx (gVar 2) (gC (.int 3))) DL.gNil)) [s0, s1, .own (.p (St.put k f x).p), .no] = .ok (x.all.map Ex.p) := by
    exact seqL_eq (fn_val (rs := [.own (.p x.p)]) rfl rfl (ei 4 x hd (by decide))) rfl
  unfold gLc
  rw [hg]
  show ((lcL _ _ _ [s0, s1, .own (.p (St.put k f x).p), .no] _ []).bind _) = _
  rw [lc, List.nil_append, bf_list]
  rfl
def bodyB : GS := gIfS (gTB (gOp2 (fB (fEqB false)) (gOp2 fIx (gVar 2) (gC (.int 0))) (gC (.str "put")))) (gSeq (gApp 1 (gOp2 fIx (gVar 2) (gC (.int 1))))
  (gSet 1 (gOp2 fAdd (gVar 1) (gLc (.one 3) [3] (gSeqL (gFn 1 m_expressions_in (DL.gCons (gOp2 fIx (gVar 2) (gC (.int 3))) DL.gNil))) (gTB (gOp2 (fB (fIn false)) (gOp2 fIx (gVar 3) (gC (.int 0))) (DL.gTup (DL.gCons (gC (.str "load")) (DL.gCons (gC (.str "pick")) DL.gNil))))) (gOp2 fIx (gVar 3) (gC (.int 1))))))) (gIfS (gTB (gOp2 (fB (fEqB false)) (gOp2 fIx (gVar 2) (gC (.int 0))) (gC (.str "copy")))) (gSet 1 (gOp2 fAdd (gVar 1) (DL.gLst (DL.gCons (gOp2 fIx (gVar 2) (gC (.int 1))) (DL.gCons (gOp2 fIx (gVar 2) (gC (.int 3))) DL.gNil))))) gNext)
def St.top : St → Prop
  | .put _ _ e => e.dep ≤ 4
  | _ => True
theorem own_len (s : St) (h : s.top) : s.own.length ≤ 257 := by
  cases s with
  | put k f e =>
    have h1 := Ex.len 4 e h
    have h2 : e.bufs.length ≤ e.all.length := List.length_filterMap_le _ _
    have : (4 : Nat) ^ 4 = 256 := by decide
    simp only [St.own, List.length_cons]
    omega
  | copy _ _ _ _ _ => simp [St.own]
  | one _ _ => simp [St.own]
  | two _ _ _ => simp [St.own]
theorem bi_step (s : St) (h : s.top) (s0 : S) (acc : List Int) (ha : acc.length ≤ 500000) : bodyB [s0, .own (.lst (pI acc)), .own (.p s.p), .no] = .ok (.nx [s0, .own (.lst (pI (acc ++ s.own))), .own (.p s.p), .no]) := by
  have l0 : (pI acc).length = acc.length := List.length_map ..
  cases s with
  | put k f e =>
    have ol := own_len _ h
    have hd : e.dep ≤ 4 := h
    simp only [St.own, List.length_cons] at ol
    have e1 : fAdd (.lst (pI acc ++ [P.int k])) (.lst (pI e.bufs)) = .ok (.own (.lst (pI (acc ++ (St.put k f e).own)))) := by
      rw [add_l (by simp [pI]; omega)]
      simp [pI, St.own]
    exact if_eqT rfl (seq_eq (app_eq (x := P.int k) rfl rfl (by omega)) (set_eq (op2_eq (x := .vw (.lst (pI acc ++ [P.int k]))) (y := .own (.lst (pI e.bufs))) rfl (bf_eq e hd _ _ f k) e1)))
  | copy a f b g c =>
    have e1 : fAdd (.lst (pI acc)) (.lst (pI [a, b])) = .ok (.own (.lst (pI (acc ++ [a, b])))) := by
      rw [add_l (by simp [pI]; omega)]
      simp [pI]
    exact if_eqF rfl (if_eqT rfl (set_eq (op2_eq (x := .vw (.lst (pI acc))) (y := .own (.lst (pI [a, b]))) rfl rfl e1)))
  | one w a =>
    rw [show (St.one w a).own = [] from rfl, List.append_nil]
    cases w with
    | lp v s t c => exact if_eqF rfl (if_eqF rfl rfl)
    | wh t => exact if_eqF rfl (if_eqF rfl rfl)
  | two w a b =>
    rw [show (St.two w a b).own = [] from rfl, List.append_nil]
    cases w with
    | lp v s t c => exact if_eqF rfl (if_eqF rfl rfl)
    | wh t => exact if_eqF rfl (if_eqF rfl rfl)
theorem bi_loop (s0 : S) : ∀ (l : List St) (acc : List Int) (s2 : S), (∀ s ∈ l, s.top) → acc.length + 257 * l.length ≤ 500000 →
    ∃ s2', gForL (.one 2) bodyB (l.map St.p) [s0, .own (.lst (pI acc)), s2, .no] = .ok (.nx [s0, .own (.lst (pI (acc ++ l.flatMap St.own))), s2', .no])
  | [], acc, s2, _, _ => ⟨s2, by simp [gForL]⟩
  | s :: l, acc, s2, h, hl => by
    simp only [List.length_cons] at hl
    have h1 := own_len s (h s (by simp))
    obtain ⟨s2', w⟩ := bi_loop s0 l (acc ++ s.own) (.own (.p s.p)) (fun t ht => h t (by simp [ht])) (by simp; omega)
    refine ⟨s2', forL_eq rfl (bi_step s (h s (by simp)) s0 acc (by omega)) (w.trans ?_)⟩
    simp
theorem top_all : ∀ s : St, s.good → ∀ t ∈ s.all, t.top
  | .put k f e, h, t, ht => by
    obtain rfl : t = .put k f e := by simpa [St.all] using ht
    exact h
  | .copy a f b g c, h, t, ht => by
    obtain rfl : t = .copy a f b g c := by simpa [St.all] using ht
    trivial
  | .one w a, h, t, ht => by
    rcases (by simpa [St.all] using ht : t = .one w a ∨ t ∈ a.all) with rfl | q
    · trivial
    · exact top_all a h t q
  | .two w a b, h, t, ht => by
    rcases (by simpa [St.all] using ht : t = .two w a b ∨ t ∈ a.all ∨ t ∈ b.all) with rfl | q | q
    · trivial
    · exact top_all a h.1 t q
    · exact top_all b h.2 t q
theorem v_buffers_in (s : St) (hd : s.dep ≤ 6) (hg : s.good) : m_buffers_in [.p s.p] = .ok (.lst (pI s.bufs)) := by
  have l1 := St.len 6 s hd
  have e6 : (3 : Nat) ^ 6 = 729 := by decide
  obtain ⟨s2', w⟩ := bi_loop (.bor none (.p s.p)) s.all [] .no (top_all s hg) (by simp; omega)
  have r : m_statements_in [.p (.tup ([s].map St.p))] = .ok (.lst (([s].flatMap St.all).map St.p)) := si 6 [s] (by simpa using hd) (by decide) (by simp) (by simp)
  have hgx : gSeqI (gFn 1 m_statements_in (DL.gCons (DL.gTup (DL.gCons (gVar 0) DL.gNil)) DL.gNil)) [.bor none (.p s.p), .own (.lst []), .no, .no] = .ok (s.all.map St.p) := by
    refine (seqI_eq (fn_val (rs := [.own (.p (.tup [s.p]))]) rfl rfl r) rfl).trans ?_
    simp
  refine (fn_eq (seq_eq rfl (seq_eq (for_eq hgx w) rfl))).trans ?_
  simp [St.bufs]
/-! lives -/
theorem eq_strs (n : Bool) (a b : Str) : fEqB n (.p (.str a)) (.p (.str b)) = .ok (if n then !decide (a = b) else decide (a = b)) := rfl
theorem at_nat {xs : List P} {k : Nat} {x : P} (h : xs[k]? = some x) : atI xs (k : Int) = some x := by
  have hk : k < xs.length := (List.getElem?_eq_some_iff.mp h).1
  unfold atI ixN
  rw [if_pos (by omega), if_pos (by omega)]
  simpa using h
theorem at_last {ps : List P} {a : P} : atI (ps ++ [a]) (-1) = some a := by
  unfold atI ixN
  rw [if_neg (by omega), if_pos (by simp; omega)]
  simp only [List.length_append, List.length_cons, List.length_nil]
  rw [show (-1 + ((ps.length + (0 + 1) : Nat) : Int)).toNat = ps.length from by omega]
  simp
theorem ix_l {xs : List P} {i : Int} {x : P} (h : atI xs i = some x) : fIx (.lst xs) (.p (.int i)) = .ok (.own (.p x)) := by
  show (match atI xs i with | some x => _ | none => _) = _
  rw [h]
theorem ix_t {xs : List P} {i : Int} {x : P} (h : atI xs i = some x) : fIx (.p (.tup xs)) (.p (.int i)) = .ok (.own (.p x)) := by
  show (match atI xs i with | some x => _ | none => _) = _
  rw [h]
theorem inP_int (k : Int) : ∀ l : List Int, inP (.int k) (pI l) = decide (k ∈ l)
  | [] => by simp [inP, pI]
  | x :: l => by
    have ih := inP_int k l
    unfold inP pI at ih ⊢
    rw [List.map_cons, List.any_cons, ih]
    show ((x == k) || _) = _
    rw [Bool.eq_iff_iff]
    simp only [Bool.or_eq_true, beq_iff_eq, decide_eq_true_eq, List.mem_cons]
    exact ⟨fun h => h.imp Eq.symm id, fun h => h.imp Eq.symm id⟩
theorem in_fl (k : Int) (l : List Int) : fIn false (.p (.int k)) (.p (.fl l)) = .ok (decide (k ∈ l)) := by
  show Rn.ok (inP (.int k) (pI l)) = _
  rw [inP_int]
theorem in_t (k : Int) (l : List Int) : fIn false (.p (.int k)) (.p (.tup (pI l))) = .ok (decide (k ∈ l)) := by
  show (if (P.int k).flat = true ∧ (pI l).all P.flat = true then Rn.ok (if false = true then !inP (.int k) (pI l) else inP (.int k) (pI l)) else Rn.bad) = _
  rw [if_pos ⟨rfl, flat_ints l⟩]
  show Rn.ok (inP (.int k) (pI l)) = _
  rw [inP_int]
theorem pInts_of : ∀ ns : List Int, pInts (pI ns) = some ns
  | [] => rfl
  | n :: ns => by
    show (pInts (pI ns)).map (n :: ·) = _
    rw [pInts_of ns]
    rfl
theorem max_l {ns : List Int} (h : 0 < ns.length) : fMaxL [.lst (pI ns)] = .ok (.own (.p (.int (maxL ns)))) := by
  show (match pInts (pI ns) with | some ns => _ | none => _) = _
  rw [pInts_of]
  exact if_pos h
theorem min_l {ns : List Int} (h : 0 < ns.length) : fMinL [.lst (pI ns)] = .ok (.own (.p (.int (minL ns)))) := by
  show (match pInts (pI ns) with | some ns => _ | none => _) = _
  rw [pInts_of]
  exact if_pos h
theorem ks_range (n : Nat) : rangeP 0 (n : Int) = (List.range n).map fun (k : Nat) => P.int (k : Int) := by simp [rangeP]
def bU (body : List St) (k : Int) (x : P) : Bool := match x with
  | .int t => (body[t.toNat]?).any (St.has k)
  | _ => false
def usd (body : List St) (k : Int) : List Int := ((List.range body.length).filter fun t => (body[t]?).any (St.has k)).map fun (t : Nat) => (t : Int)
theorem usd_eq (body : List St) (k : Int) : ((rangeP 0 (body.length : Int)).filter (bU body k)).map id = pI (usd body k) := by
  rw [List.map_id, ks_range, List.filter_map]
  unfold usd pI
  rw [List.map_map]
  rfl
theorem usd_lt (body : List St) (k : Int) : (usd body k).Pairwise (· < ·) := by
  unfold usd
  rw [List.pairwise_map]
  exact (List.pairwise_lt_range.filter _).imp fun h => by omega
theorem usd_mem (body : List St) (k : Int) : ∀ y ∈ usd body k, 0 ≤ y ∧ y < body.length := by
  intro y hy
  unfold usd at hy
  simp only [List.mem_map, List.mem_filter, List.mem_range] at hy
  obtain ⟨t, ⟨h1, _⟩, rfl⟩ := hy
  omega
def fstI (us : List Int) : Int := us.head?.getD 0
def lstI (us : List Int) : Int := us.getLast?.getD 0
theorem first_eq {us : List Int} {n : Int} (hp : us.Pairwise (· < ·)) (hn : ∀ y ∈ us, 0 ≤ y ∧ y < n) (h : us ≠ []) : minL (us ++ [n]) = fstI us := by
  cases us with
  | nil => exact absurd rfl h
  | cons a us =>
    refine minL_fold (us ++ [n]) a a (by simp) fun y hy => ?_
    rw [List.pairwise_cons] at hp
    rcases (by simpa using hy : y = a ∨ y ∈ us ∨ y = n) with rfl | q | rfl
    · exact Int.le_refl _
    · exact Int.le_of_lt (hp.1 y q)
    · exact Int.le_of_lt (hn a (by simp)).2
theorem last_eq {us : List Int} {n : Int} (hp : us.Pairwise (· < ·)) (hn : ∀ y ∈ us, 0 ≤ y ∧ y < n) : maxL (0 :: us) = lstI us := by
  rcases List.eq_nil_or_concat us with rfl | ⟨i, a, rfl⟩
  · rfl
  · rw [List.concat_eq_append] at hp hn ⊢
    have : lstI (i ++ [a]) = a := by simp [lstI]
    rw [this]
    refine maxL_fold (i ++ [a]) 0 a (by simp) fun y hy => ?_
    rw [List.pairwise_append] at hp
    rcases (by simpa using hy : y = 0 ∨ y ∈ i ∨ y = a) with rfl | q | rfl
    · exact (hn a (by simp)).1
    · exact Int.le_of_lt (hp.2.2 y q a (by simp))
    · exact Int.le_refl _
def bP (bs : List (Str × Int)) : List P := bs.map fun b => P.tup [.str b.1, .int b.2]
def isM (bs : List (Str × Int)) (k : Nat) : Bool := match bs[k]? with
  | some b => decide (b.1 = "main")
  | none => false
def rowOf (body : List St) (outs : List Int) (k : Nat) : P := .tup [.int (fstI (usd body k)), .int (if (k : Int) ∈ outs then (body.length : Int) else lstI (usd body k))]
def slV (pr : P) (outs : List Int) (bs : List (Str × Int)) (body : List St) (re : List P) (s6 s7 s8 s9 : S) : Sl := [.bor none (.p pr), .bor none (.p (.tup (pI outs))), .own (.p (.tup (bP bs))), .own (.p (.tup (body.map St.p))), .own (.lst (body.map fun s => .fl s.bufs)), .own (.lst re), s6, s7, s8, s9, .no, .no]
def bodyV : GS := gIfS (gTB (gOp2 (fB (fEqB false)) (gOp2 fIx (gOp2 fIx (gVar 2) (gVar 6)) (gC (.int 0))) (gC (.str "main")))) (gSeq (gSet 7 (gLc (.one 11) [11] (gRangeI fRange1 (DL.gCons (gCall fLen (DL.gCons (gVar 3) DL.gNil)) DL.gNil)) (gTB (gOp2 (fB (fIn false)) (gVar 6) (gOp2 fIx (gVar 4) (gVar 11)))) (gVar 11)))
  (gSeq (gSet 8 (gIf (gTB (gOp2 (fB fGt) (gCall fLen (DL.gCons (gVar 7) DL.gNil)) (gC (.int 0)))) (gCall fMinL (DL.gCons (gOp2 fAdd (gVar 7) (DL.gLst (DL.gCons (gCall fLen (DL.gCons (gVar 3) DL.gNil)) DL.gNil))) DL.gNil)) (gC (.int 0))))
  (gSeq (gSet 9 (gCall fMaxL (DL.gCons (gOp2 fAdd (DL.gLst (DL.gCons (gC (.int 0)) DL.gNil)) (gVar 7)) DL.gNil)))
  (gSeq (gIfS (gTB (gOp2 (fB (fIn false)) (gVar 6) (gVar 1))) (gSet 9 (gCall fLen (DL.gCons (gVar 3) DL.gNil))) gNext)
  (gApp 5 (DL.gTup (DL.gCons (gVar 8) (DL.gCons (gVar 9) DL.gNil)))))))) gNext
theorem isM_eq {bs : List (Str × Int)} {k : Nat} (hk : k < bs.length) {i j : Nat} {δ : Sl} (hb : gVar i δ = .ok (.own (.p (.tup (bP bs))))) (hk2 : gVar j δ = .ok (.own (.p (.int (k : Int))))) : gTB (gOp2 (fB (fEqB false)) (gOp2 fIx (gOp2 fIx (gVar i) (gVar j)) (gC (.int 0))) (gC (.str "main"))) δ = .ok (isM bs k) := by
  have e : bs[k]? = some bs[k] := List.getElem?_eq_getElem hk
  have e2 : (bP bs)[k]? = some (P.tup [.str bs[k].1, .int bs[k].2]) := by simp [bP, e]
  have e3 : isM bs k = decide (bs[k].1 = "main") := by unfold isM; rw [e]
  rw [e3]
  exact tb_eq (op2_eq (x := .own (.p (.str bs[k].1))) (y := .own (.p (.str "main"))) (op2_eq (x := .own (.p (.tup [.str bs[k].1, .int bs[k].2]))) (y := .own (.p (.int 0))) (op2_eq hb hk2 (ix_t (at_nat e2))) rfl rfl) rfl (fB_eq (eq_strs false _ _)))
theorem used_v (pr : P) (outs : List Int) (bs : List (Str × Int)) (body : List St) (hb : body.length ≤ 100) (re : List P) (k : Nat) (s7 s8 s9 : S) :
    gLc (.one 11) [11] (gRangeI fRange1 (DL.gCons (gCall fLen (DL.gCons (gVar 3) DL.gNil)) DL.gNil)) (gTB (gOp2 (fB (fIn false)) (gVar 6) (gOp2 fIx (gVar 4) (gVar 11)))) (gVar 11) (slV pr outs bs body re (.own (.p (.int (k : Int)))) s7 s8 s9) = .ok (.own (.lst (pI (usd body k)))) := by
  have lc := lcL_ok (t := .one 11) (gt := gTB (gOp2 (fB (fIn false)) (gVar 6) (gOp2 fIx (gVar 4) (gVar 11)))) (ge := gVar 11) (δ := slV pr outs bs body re (.own (.p (.int (k : Int)))) s7 s8 s9) (bU body k) id (rangeP 0 (body.length : Int)) [] (fun y hy => by
      rw [ks_range] at hy
      obtain ⟨t, ht, rfl⟩ := List.mem_map.mp hy
      have ht := List.mem_range.mp ht
      refine ⟨_, rfl, ?_, fun _ => ⟨.own (.p (.int (t : Int))), rfl, rfl⟩⟩
      have e : body[t]? = some body[t] := List.getElem?_eq_getElem ht
      have e2 : (body.map fun s => P.fl s.bufs)[t]? = some (P.fl body[t].bufs) := by simp [e]
      have e3 : bU body k (.int (t : Int)) = decide ((k : Int) ∈ body[t].bufs) := by
        unfold bU
        dsimp only
        rw [Int.toNat_natCast, e, ← St.has_bufs]
        rfl
      rw [e3]
      exact tb_eq (op2_eq (x := .own (.p (.int (k : Int)))) (y := .own (.p (.fl body[t].bufs))) rfl (op2_eq (x := .vw (.lst (body.map fun s => P.fl s.bufs))) (y := .own (.p (.int (t : Int)))) rfl rfl (ix_l (at_nat e2))) (fB_eq (in_fl _ _)))) (by
      have : (rangeP 0 (body.length : Int)).length = body.length := by simp [rangeP]
      rw [this]
      simp only [List.length_nil]
      exact big (by omega))
  have hg : gRangeI fRange1 (DL.gCons (gCall fLen (DL.gCons (gVar 3) DL.gNil)) DL.gNil) (slV pr outs bs body re (.own (.p (.int (k : Int)))) s7 s8 s9) = .ok (rangeP 0 (body.length : Int)) := by
    refine gRange_ok (rs := [.own (.p (.int (body.length : Int)))]) (cons_eq (call_eq (rs := [.own (.p (.tup (body.map St.p)))]) rfl ?_) rfl) (range1_ok (by omega) (by omega))
    show Rn.ok (R.own (.p (.int ((body.map St.p).length : Int)))) = _
    rw [List.length_map]
  unfold gLc
  rw [hg]
  show ((lcL _ _ _ (slV pr outs bs body re (.own (.p (.int (k : Int)))) s7 s8 s9) _ []).bind _) = _
  rw [lc, List.nil_append, usd_eq]
  rfl
theorem len_t {l : List St} : fLen [.p (.tup (l.map St.p))] = .ok (.own (.p (.int (l.length : Int)))) := by
  show Rn.ok (R.own (.p (.int ((l.map St.p).length : Int)))) = _
  rw [List.length_map]
theorem step_v (pr : P) (outs : List Int) (bs : List (Str × Int)) (body : List St) (hb : body.length ≤ 100) (re : List P) (hr : re.length ≤ 100) (k : Nat) (hk : k < bs.length) (s7 s8 s9 : S) :
    ∃ t7 t8 t9, bodyV (slV pr outs bs body re (.own (.p (.int (k : Int)))) s7 s8 s9) = .ok (.nx (slV pr outs bs body (re ++ if isM bs k = true then [rowOf body outs k] else []) (.own (.p (.int (k : Int)))) t7 t8 t9)) := by
  have c := isM_eq (δ := slV pr outs bs body re (.own (.p (.int (k : Int)))) s7 s8 s9) hk (i := 2) (j := 6) rfl rfl
  cases hm : isM bs k with
  | false =>
    rw [hm] at c
    exact ⟨s7, s8, s9, (if_eqF c rfl : bodyV _ = _).trans (by simp; rfl)⟩
  | true =>
    rw [hm] at c
    have u := used_v pr outs bs body hb re k s7 s8 s9
    generalize hus : usd body k = us at u
    have hp : us.Pairwise (· < ·) := hus ▸ usd_lt body k
    have hn : ∀ y ∈ us, 0 ≤ y ∧ y < (body.length : Int) := hus ▸ usd_mem body k
    have hl : us.length ≤ 100 := by
      rw [← hus]
      unfold usd
      rw [List.length_map]
      exact Nat.le_trans (List.length_filter_le _ _) (by simpa using hb)
    have e8 : gIf (gTB (gOp2 (fB fGt) (gCall fLen (DL.gCons (gVar 7) DL.gNil)) (gC (.int 0)))) (gCall fMinL (DL.gCons (gOp2 fAdd (gVar 7) (DL.gLst (DL.gCons (gCall fLen (DL.gCons (gVar 3) DL.gNil)) DL.gNil))) DL.gNil)) (gC (.int 0)) (slV pr outs bs body re (.own (.p (.int (k : Int)))) (.own (.lst (pI us))) s8 s9) = .ok (.own (.p (.int (fstI us)))) := by
      have g1 : gTB (gOp2 (fB fGt) (gCall fLen (DL.gCons (gVar 7) DL.gNil)) (gC (.int 0))) (slV pr outs bs body re (.own (.p (.int (k : Int)))) (.own (.lst (pI us))) s8 s9) = .ok (decide ((0 : Int) < ((pI us).length : Int))) := rfl
      refine if_eq g1 ?_
      have pl : (pI us).length = us.length := List.length_map ..
      by_cases z : us = []
      · rw [z]; rfl
      · have : 0 < us.length := List.length_pos_iff.mpr z
        rw [if_pos (decide_eq_true (by rw [pl]; omega))]
        have ad : fAdd (.lst (pI us)) (.lst [P.int (body.length : Int)]) = .ok (.own (.lst (pI (us ++ [(body.length : Int)])))) := by
          rw [add_l (by rw [pl]; simp; omega)]
          simp [pI]
        refine call_eq (rs := [.own (.lst (pI (us ++ [(body.length : Int)])))]) (cons_eq (op2_eq (x := .vw (.lst (pI us))) (y := .own (.lst [P.int (body.length : Int)])) rfl ?_ ad) rfl) ?_
        · unfold DL.gLst
          rw [cons_eq (call_eq (rs := [.own (.p (.tup (body.map St.p)))]) rfl len_t) rfl]
          rfl
        · exact (min_l (by simp)).trans (by rw [first_eq hp hn z])
    have e9 : gCall fMaxL (DL.gCons (gOp2 fAdd (DL.gLst (DL.gCons (gC (.int 0)) DL.gNil)) (gVar 7)) DL.gNil) (slV pr outs bs body re (.own (.p (.int (k : Int)))) (.own (.lst (pI us))) (.own (.p (.int (fstI us)))) s9) = .ok (.own (.p (.int (lstI us)))) := by
      have ad : fAdd (.lst [P.int 0]) (.lst (pI us)) = .ok (.own (.lst (pI (0 :: us)))) := by
        rw [add_l (by have pl : (pI us).length = us.length := List.length_map ..; rw [pl]; simp; omega)]
        simp [pI]
      refine call_eq (rs := [.own (.lst (pI (0 :: us)))]) (cons_eq (op2_eq (x := .own (.lst [P.int 0])) (y := .vw (.lst (pI us))) rfl rfl ad) rfl) ?_
      exact (max_l (by simp)).trans (by rw [last_eq hp hn])
    have e10 : gIfS (gTB (gOp2 (fB (fIn false)) (gVar 6) (gVar 1))) (gSet 9 (gCall fLen (DL.gCons (gVar 3) DL.gNil))) gNext (slV pr outs bs body re (.own (.p (.int (k : Int)))) (.own (.lst (pI us))) (.own (.p (.int (fstI us)))) (.own (.p (.int (lstI us))))) = .ok (.nx (slV pr outs bs body re (.own (.p (.int (k : Int)))) (.own (.lst (pI us))) (.own (.p (.int (fstI us)))) (.own (.p (.int (if (k : Int) ∈ outs then (body.length : Int) else lstI us)))))) := by
      have g1 : gTB (gOp2 (fB (fIn false)) (gVar 6) (gVar 1)) (slV pr outs bs body re (.own (.p (.int (k : Int)))) (.own (.lst (pI us))) (.own (.p (.int (fstI us)))) (.own (.p (.int (lstI us))))) = .ok (decide ((k : Int) ∈ outs)) := tb_eq (op2_eq (x := .own (.p (.int (k : Int)))) (y := .own (.p (.tup (pI outs)))) rfl rfl (fB_eq (in_t _ _)))
      by_cases z : (k : Int) ∈ outs
      · rw [decide_eq_true z] at g1
        rw [if_pos z]
        exact if_eqT g1 (set_eq (call_eq (rs := [.own (.p (.tup (body.map St.p)))]) rfl len_t))
      · rw [decide_eq_false z] at g1
        rw [if_neg z]
        exact if_eqF g1 rfl
    refine ⟨_, _, _, if_eqT c (seq_eq (set_eq u) (seq_eq (set_eq e8) (seq_eq (set_eq e9) (seq_eq e10 (app_eq (x := rowOf body outs k) rfl ?_ (by omega))))))⟩
    unfold rowOf
    rw [hus]
    rfl
theorem loop_v (pr : P) (outs : List Int) (bs : List (Str × Int)) (body : List St) (hb : body.length ≤ 100) : ∀ (ks : List Nat) (re : List P) (s6 s7 s8 s9 : S), re.length + ks.length ≤ 100 → (∀ k ∈ ks, k < bs.length) →
    ∃ t6 t7 t8 t9, gForL (.one 6) bodyV (ks.map fun (k : Nat) => P.int (k : Int)) (slV pr outs bs body re s6 s7 s8 s9) = .ok (.nx (slV pr outs bs body (re ++ (ks.filter (isM bs)).map (rowOf body outs)) t6 t7 t8 t9))
  | [], re, s6, s7, s8, s9, _, _ => ⟨s6, s7, s8, s9, by simp [gForL]⟩
  | k :: ks, re, s6, s7, s8, s9, hr, hk => by
    simp only [List.length_cons] at hr
    obtain ⟨t7, t8, t9, w⟩ := step_v pr outs bs body hb re (by omega) k (hk k (by simp)) s7 s8 s9
    obtain ⟨u6, u7, u8, u9, w2⟩ := loop_v pr outs bs body hb ks (re ++ if isM bs k = true then [rowOf body outs k] else []) (.own (.p (.int (k : Int)))) t7 t8 t9 (by
      rw [List.length_append]
      split
      · simp only [List.length_cons, List.length_nil]; omega
      · simp only [List.length_nil]; omega) fun j hj => hk j (by simp [hj])
    refine ⟨u6, u7, u8, u9, forL_eq (δ1 := slV pr outs bs body re (.own (.p (.int (k : Int)))) s7 s8 s9) rfl w (w2.trans ?_)⟩
    rw [List.filter_cons]
    split <;> simp
theorem fz_eq {ga : GE} {δ : Sl} {ns : List Int} (h : ga δ = .ok (.own (.lst (pI ns)))) : gFz ga δ = .ok (.own (.p (.fl ns))) := by
  unfold gFz
  rw [h, Rn.bind_ok]
  show (match intsP (pI ns) with | some ns => Rn.ok (R.own (.p (.fl ns))) | none => Rn.bad) = _
  rw [show intsP (pI ns) = some ns from intsP_of _]
theorem rows_v (pr ou bu : P) (body0 : P) : ∀ (l : List St) (acc : List P), (∀ s ∈ l, s.dep ≤ 6 ∧ s.good) → acc.length + l.length ≤ 100 →
    lcL (.one 10) gYes (gFz (gFn 1 m_buffers_in (DL.gCons (gVar 10) DL.gNil))) [.bor none (.p pr), .bor none (.p ou), .own (.p bu), .own (.p body0), .no, .no, .no, .no, .no, .no, .no, .no] (l.map St.p) acc = .ok (acc ++ l.map fun s => .fl s.bufs)
  | [], acc, _, _ => by simp [lcL]
  | s :: l, acc, h, hl => by
    simp only [List.length_cons] at hl
    have g := h s (by simp)
    refine (lc_cons (r := .own (.p (.fl s.bufs))) (y := .fl s.bufs) ?_ rfl (by omega)).trans ((rows_v pr ou bu body0 l (acc ++ [.fl s.bufs]) (fun t ht => h t (by simp [ht])) (by simp; omega)).trans (by simp))
    exact fz_eq (fn_val (rs := [.own (.p s.p)]) (d := .lst (pI s.bufs)) rfl rfl (v_buffers_in s g.1 g.2))
theorem v_lives (bs : List (Str × Int)) (body : List St) (outs : List Int) (h1 : bs.length ≤ 100) (h2 : body.length ≤ 100) (hg : ∀ s ∈ body, s.dep ≤ 6 ∧ s.good) :
    m_lives [.p (.tup [.tup (bP bs), .tup (body.map St.p)]), .p (.tup (pI outs))] = .ok (.p (.tup (((List.range bs.length).filter (isM bs)).map (rowOf body outs)))) := by
  obtain ⟨t6, t7, t8, t9, w⟩ := loop_v (.tup [.tup (bP bs), .tup (body.map St.p)]) outs bs body h2 (List.range bs.length) [] .no .no .no .no (by simpa using h1) (by simp)
  rw [← ks_range, List.nil_append] at w
  have r : gLc (.one 10) [10] (gSeqL (gVar 3)) gYes (gFz (gFn 1 m_buffers_in (DL.gCons (gVar 10) DL.gNil))) [.bor none (.p (.tup [.tup (bP bs), .tup (body.map St.p)])), .bor none (.p (.tup (pI outs))), .own (.p (.tup (bP bs))), .own (.p (.tup (body.map St.p))), .no, .no, .no, .no, .no, .no, .no, .no] = .ok (.own (.lst (body.map fun s => .fl s.bufs))) :=
    glc_list (seqL_eq rfl rfl) ((rows_v _ _ _ _ body [] hg (by simpa using h2)).trans (by simp))
  have hr : gRangeI fRange1 (DL.gCons (gCall fLen (DL.gCons (gVar 2) DL.gNil)) DL.gNil) (slV (.tup [.tup (bP bs), .tup (body.map St.p)]) outs bs body [] .no .no .no .no) = .ok (rangeP 0 (bs.length : Int)) := by
    refine gRange_ok (rs := [.own (.p (.int (bs.length : Int)))]) (cons_eq (call_eq (rs := [.own (.p (.tup (bP bs)))]) rfl ?_) rfl) (range1_ok (by omega) (by omega))
    show Rn.ok (R.own (.p (.int ((bP bs).length : Int)))) = _
    rw [show (bP bs).length = bs.length from List.length_map ..]
  exact fn_eq (seq_eq rfl (seq_eq (set_eq r) (seq_eq rfl (seq_eq (for_eq hr w) rfl))))
/-! the law's own due -/
def slL (ns : List Int) (outs : List Int) (bs : List (Str × Int)) (body : List St) (du : List P) (s6 s7 s8 s9 : S) : Sl := [.bor none (.scr ns), .own .orc, .own (.p (.tup (bP bs))), .own (.p (.tup (body.map St.p))), .own (.p (.tup (pI outs))), .own (.lst du), s6, s7, s8, s9, .no, .no, .no, .no, .no, .no]
def bodyL : GS := gIfS (gTB (gOp2 (fB (fEqB false)) (gOp2 fIx (gOp2 fIx (gVar 2) (gVar 6)) (gC (.int 0))) (gC (.str "main")))) (gSeq (gSet 7 (gLc (.one 15) [15] (gRangeI fRange1 (DL.gCons (gCall fLen (DL.gCons (gVar 3) DL.gNil)) DL.gNil)) (gTru (gFn 2 m__law_in (DL.gCons (gOp2 fIx (gVar 3) (gVar 15)) (DL.gCons (gVar 6) DL.gNil)))) (gVar 15)))
  (gSeq (gSet 8 (gIf (gTB (gOp2 (fB fGt) (gCall fLen (DL.gCons (gVar 7) DL.gNil)) (gC (.int 0)))) (gOp2 fIx (gVar 7) (gC (.int 0))) (gC (.int 0))))
  (gSeq (gSet 9 (gIf (gTB (gOp2 (fB (fIn false)) (gVar 6) (gVar 4))) (gCall fLen (DL.gCons (gVar 3) DL.gNil)) (gIf (gTB (gOp2 (fB fGt) (gCall fLen (DL.gCons (gVar 7) DL.gNil)) (gC (.int 0)))) (gOp2 fIx (gVar 7) (gOp1 fNeg (gC (.int 1)))) (gC (.int 0)))))
  (gApp 5 (DL.gTup (DL.gCons (gVar 8) (DL.gCons (gVar 9) DL.gNil))))))) gNext
theorem used_l (ns outs : List Int) (bs : List (Str × Int)) (body : List St) (hb : body.length ≤ 100) (hg : ∀ s ∈ body, s.dep ≤ 6 ∧ s.good) (du : List P) (k : Nat) (s7 s8 s9 : S) :
    gLc (.one 15) [15] (gRangeI fRange1 (DL.gCons (gCall fLen (DL.gCons (gVar 3) DL.gNil)) DL.gNil)) (gTru (gFn 2 m__law_in (DL.gCons (gOp2 fIx (gVar 3) (gVar 15)) (DL.gCons (gVar 6) DL.gNil)))) (gVar 15) (slL ns outs bs body du (.own (.p (.int (k : Int)))) s7 s8 s9) = .ok (.own (.lst (pI (usd body k)))) := by
  have lc := lcL_ok (t := .one 15) (gt := gTru (gFn 2 m__law_in (DL.gCons (gOp2 fIx (gVar 3) (gVar 15)) (DL.gCons (gVar 6) DL.gNil)))) (ge := gVar 15) (δ := slL ns outs bs body du (.own (.p (.int (k : Int)))) s7 s8 s9) (bU body k) id (rangeP 0 (body.length : Int)) [] (fun y hy => by
      rw [ks_range] at hy
      obtain ⟨t, ht, rfl⟩ := List.mem_map.mp hy
      have ht := List.mem_range.mp ht
      refine ⟨_, rfl, ?_, fun _ => ⟨.own (.p (.int (t : Int))), rfl, rfl⟩⟩
      have e : body[t]? = some body[t] := List.getElem?_eq_getElem ht
      have e2 : (body.map St.p)[t]? = some body[t].p := by simp [e]
      have e3 : bU body k (.int (t : Int)) = body[t].has k := by
        unfold bU
        dsimp only
        rw [Int.toNat_natCast, e]
        rfl
      rw [e3]
      have g := hg body[t] (List.getElem_mem ht)
      exact tru_eq (fn_val (rs := [.own (.p body[t].p), .own (.p (.int (k : Int)))]) (cons_eq (op2_eq (x := .own (.p (.tup (body.map St.p)))) (y := .own (.p (.int (t : Int)))) rfl rfl (ix_t (at_nat e2))) rfl) rfl (sh 6 body[t] k g.1 g.2))) (by
      have : (rangeP 0 (body.length : Int)).length = body.length := by simp [rangeP]
      rw [this]
      simp only [List.length_nil]
      exact big (by omega))
  have hg : gRangeI fRange1 (DL.gCons (gCall fLen (DL.gCons (gVar 3) DL.gNil)) DL.gNil) (slL ns outs bs body du (.own (.p (.int (k : Int)))) s7 s8 s9) = .ok (rangeP 0 (body.length : Int)) :=
    gRange_ok (rs := [.own (.p (.int (body.length : Int)))]) (cons_eq (call_eq (rs := [.own (.p (.tup (body.map St.p)))]) rfl len_t) rfl) (range1_ok (by omega) (by omega))
  unfold gLc
  rw [hg]
  show ((lcL _ _ _ (slL ns outs bs body du (.own (.p (.int (k : Int)))) s7 s8 s9) _ []).bind _) = _
  rw [lc, List.nil_append, usd_eq]
  rfl
theorem step_l (ns outs : List Int) (bs : List (Str × Int)) (body : List St) (hb : body.length ≤ 100) (hg : ∀ s ∈ body, s.dep ≤ 6 ∧ s.good) (du : List P) (hr : du.length ≤ 100) (k : Nat) (hk : k < bs.length) (s7 s8 s9 : S) :
    ∃ t7 t8 t9, bodyL (slL ns outs bs body du (.own (.p (.int (k : Int)))) s7 s8 s9) = .ok (.nx (slL ns outs bs body (du ++ if isM bs k = true then [rowOf body outs k] else []) (.own (.p (.int (k : Int)))) t7 t8 t9)) := by
  have c := isM_eq (δ := slL ns outs bs body du (.own (.p (.int (k : Int)))) s7 s8 s9) hk (i := 2) (j := 6) rfl rfl
  cases hm : isM bs k with
  | false =>
    rw [hm] at c
    exact ⟨s7, s8, s9, (if_eqF c rfl : bodyL _ = _).trans (by simp; rfl)⟩
  | true =>
    rw [hm] at c
    have u := used_l ns outs bs body hb hg du k s7 s8 s9
    generalize hus : usd body k = us at u
    have pl : (pI us).length = us.length := List.length_map ..
    have e8 : gIf (gTB (gOp2 (fB fGt) (gCall fLen (DL.gCons (gVar 7) DL.gNil)) (gC (.int 0)))) (gOp2 fIx (gVar 7) (gC (.int 0))) (gC (.int 0)) (slL ns outs bs body du (.own (.p (.int (k : Int)))) (.own (.lst (pI us))) s8 s9) = .ok (.own (.p (.int (fstI us)))) := by
      have g1 : gTB (gOp2 (fB fGt) (gCall fLen (DL.gCons (gVar 7) DL.gNil)) (gC (.int 0))) (slL ns outs bs body du (.own (.p (.int (k : Int)))) (.own (.lst (pI us))) s8 s9) = .ok (decide ((0 : Int) < ((pI us).length : Int))) := rfl
      refine if_eq g1 ?_
      cases us with
      | nil => rfl
      | cons a us =>
        rw [if_pos (decide_eq_true (by rw [pl]; simp only [List.length_cons]; omega))]
        exact op2_eq (x := .vw (.lst (pI (a :: us)))) (y := .own (.p (.int 0))) rfl rfl (ix_l (at_nat (k := 0) rfl))
    have e9' : gIf (gTB (gOp2 (fB fGt) (gCall fLen (DL.gCons (gVar 7) DL.gNil)) (gC (.int 0)))) (gOp2 fIx (gVar 7) (gOp1 fNeg (gC (.int 1)))) (gC (.int 0)) (slL ns outs bs body du (.own (.p (.int (k : Int)))) (.own (.lst (pI us))) (.own (.p (.int (fstI us)))) s9) = .ok (.own (.p (.int (lstI us)))) := by
      have g1 : gTB (gOp2 (fB fGt) (gCall fLen (DL.gCons (gVar 7) DL.gNil)) (gC (.int 0))) (slL ns outs bs body du (.own (.p (.int (k : Int)))) (.own (.lst (pI us))) (.own (.p (.int (fstI us)))) s9) = .ok (decide ((0 : Int) < ((pI us).length : Int))) := rfl
      refine if_eq g1 ?_
      rcases List.eq_nil_or_concat us with rfl | ⟨i, a, rfl⟩
      · rfl
      · rw [List.concat_eq_append] at pl ⊢
        rw [if_pos (decide_eq_true (by rw [pl]; simp only [List.length_append, List.length_cons]; omega))]
        have e1 : pI (i ++ [a]) = pI i ++ [P.int a] := by simp [pI]
        have e2 : lstI (i ++ [a]) = a := by simp [lstI]
        rw [e1, e2]
        exact op2_eq (x := .vw (.lst (pI i ++ [P.int a]))) (y := .own (.p (.int (-1)))) rfl rfl (ix_l at_last)
    have e9 : gIf (gTB (gOp2 (fB (fIn false)) (gVar 6) (gVar 4))) (gCall fLen (DL.gCons (gVar 3) DL.gNil)) (gIf (gTB (gOp2 (fB fGt) (gCall fLen (DL.gCons (gVar 7) DL.gNil)) (gC (.int 0)))) (gOp2 fIx (gVar 7) (gOp1 fNeg (gC (.int 1)))) (gC (.int 0))) (slL ns outs bs body du (.own (.p (.int (k : Int)))) (.own (.lst (pI us))) (.own (.p (.int (fstI us)))) s9) = .ok (.own (.p (.int (if (k : Int) ∈ outs then (body.length : Int) else lstI us)))) := by
      have g1 : gTB (gOp2 (fB (fIn false)) (gVar 6) (gVar 4)) (slL ns outs bs body du (.own (.p (.int (k : Int)))) (.own (.lst (pI us))) (.own (.p (.int (fstI us)))) s9) = .ok (decide ((k : Int) ∈ outs)) := tb_eq (op2_eq (x := .own (.p (.int (k : Int)))) (y := .own (.p (.tup (pI outs)))) rfl rfl (fB_eq (in_t _ _)))
      refine if_eq g1 ?_
      by_cases z : (k : Int) ∈ outs
      · rw [if_pos (decide_eq_true z), if_pos z]
        exact call_eq (rs := [.own (.p (.tup (body.map St.p)))]) rfl len_t
      · rw [if_neg (by simpa using z), if_neg z]
        exact e9'
    refine ⟨_, _, _, if_eqT c (seq_eq (set_eq u) (seq_eq (set_eq e8) (seq_eq (set_eq e9) (app_eq (x := rowOf body outs k) rfl ?_ (by omega)))))⟩
    unfold rowOf
    rw [hus]
    rfl
theorem loop_l (ns outs : List Int) (bs : List (Str × Int)) (body : List St) (hb : body.length ≤ 100) (hg : ∀ s ∈ body, s.dep ≤ 6 ∧ s.good) : ∀ (ks : List Nat) (du : List P) (s6 s7 s8 s9 : S), du.length + ks.length ≤ 100 → (∀ k ∈ ks, k < bs.length) →
    ∃ t6 t7 t8 t9, gForL (.one 6) bodyL (ks.map fun (k : Nat) => P.int (k : Int)) (slL ns outs bs body du s6 s7 s8 s9) = .ok (.nx (slL ns outs bs body (du ++ (ks.filter (isM bs)).map (rowOf body outs)) t6 t7 t8 t9))
  | [], du, s6, s7, s8, s9, _, _ => ⟨s6, s7, s8, s9, by simp [gForL]⟩
  | k :: ks, du, s6, s7, s8, s9, hr, hk => by
    simp only [List.length_cons] at hr
    obtain ⟨t7, t8, t9, w⟩ := step_l ns outs bs body hb hg du (by omega) k (hk k (by simp)) s7 s8 s9
    obtain ⟨u6, u7, u8, u9, w2⟩ := loop_l ns outs bs body hb hg ks (du ++ if isM bs k = true then [rowOf body outs k] else []) (.own (.p (.int (k : Int)))) t7 t8 t9 (by
      rw [List.length_append]
      split
      · simp only [List.length_cons, List.length_nil]; omega
      · simp only [List.length_nil]; omega) fun j hj => hk j (by simp [hj])
    refine ⟨u6, u7, u8, u9, forL_eq (δ1 := slL ns outs bs body du (.own (.p (.int (k : Int)))) s7 s8 s9) rfl w (w2.trans ?_)⟩
    rw [List.filter_cons]
    split <;> simp
/-! draws -/
abbrev NE : Str → Unit → Prop := fun _ _ => False
theorem mul_s {x y : Int} (hx : -1000 ≤ x ∧ x ≤ 1000) (hy : -1000 ≤ y ∧ y ≤ 1000) : fMul (.p (.int x)) (.p (.int y)) = .ok (.own (.p (.int (x * y)))) := by
  have cm : CMulW x y := Z.cmul (j := 10) (k := 10) (Z.of (by omega) (by omega)) (Z.of (by omega) (by omega))
  show (if CMulW x y then _ else _) = _
  rw [if_pos cm]
theorem wp_noErr {α : Type} {w : Rn Unit α} {Q : α → Prop} {E : Str → Unit → Prop} (h : Wp w Q (fun _ _ => False)) : Wp w.noErr Q E := ⟨by
  have h' := h.r
  clear h
  induction w with
  | ok a => exact h'
  | err c e => exact h'.elim
  | bad => exact h'
  | pick n k ih => exact fun i hi => ih i (h' i hi)⟩
theorem lcW {t : Tg} {ge : GE} {δ : Sl} {T : P → Prop} : ∀ (xs acc : List P), (∀ x ∈ xs, ∃ δ1, t.set (.p x) δ = some δ1 ∧ Wp (ge δ1) (fun r => ∃ y, r.d = .p y ∧ T y) NE) → acc.length + xs.length ≤ 1000 →
    Wp (lcL t gYes ge δ xs acc) (fun ys => ∃ zs, ys = acc ++ zs ∧ zs.length = xs.length ∧ ∀ z ∈ zs, T z) NE
  | [], acc, _, _ => wp_ok.mpr ⟨[], by simp, rfl, by simp⟩
  | x :: xs, acc, h, hl => by
    simp only [List.length_cons] at hl
    obtain ⟨δ1, e1, w⟩ := h x (by simp)
    have un : lcL t gYes ge δ (x :: xs) acc = ((ge δ1).noErr.bind fun r => match r.d with
        | .p y => if acc.length < sizeLine then lcL t gYes ge δ xs (acc ++ [y]) else .bad
        | _ => .bad) := by
      show (match t.set (.p x) δ with | some δ1 => _ | none => _) = _
      rw [e1]
      rfl
    rw [un]
    refine wp_bind.mpr (wp_imp (wp_noErr w) ?_ fun _ _ z => z)
    rintro r ⟨y, er, ty⟩
    rw [er]
    show Wp (if acc.length < sizeLine then _ else _) _ _
    rw [if_pos (Nat.lt_of_lt_of_le (Nat.lt_succ_self _) (big (by omega)))]
    refine wp_imp (lcW xs (acc ++ [y]) (fun z hz => h z (by simp [hz])) (by simp; omega)) ?_ fun _ _ z => z
    rintro ys ⟨zs, e, el, pw⟩
    refine ⟨y :: zs, by rw [e]; simp, by simp [el], fun z hz => ?_⟩
    rcases List.mem_cons.mp hz with rfl | hz
    · exact ty
    · exact pw z hz
theorem glcW {t : Tg} {vs : List Nat} {gi : GI} {ge : GE} {δ : Sl} {T : P → Prop} {xs : List P} {Q : R → Prop} (hg : gi δ = .ok xs) (h : ∀ x ∈ xs, ∃ δ1, t.set (.p x) (wipeS δ vs) = some δ1 ∧ Wp (ge δ1) (fun r => ∃ y, r.d = .p y ∧ T y) NE) (hl : xs.length ≤ 1000) (k : ∀ zs, zs.length = xs.length → (∀ z ∈ zs, T z) → Q (.own (.lst zs))) :
    Wp (gLc t vs gi gYes ge δ) Q NE := by
  unfold gLc
  rw [hg, Rn.bind_ok]
  refine wp_bind.mpr (wp_imp (lcW (T := T) xs [] h (by simpa using hl)) ?_ fun _ _ z => z)
  rintro ys ⟨zs, e, el, pw⟩
  rw [List.nil_append] at e
  subst e
  exact wp_ok.mpr (k _ el pw)
theorem w_tup {gs : GA} {δ : Sl} {Q : R → Prop} {E : Str → Unit → Prop} (h : Wp (gs δ) (fun rs => ∃ xs, plains rs = some xs ∧ rs.length ≤ 1000 ∧ Q (.own (.p (.tup xs)))) E) : Wp (DL.gTup gs δ) Q E := by
  unfold DL.gTup
  refine wp_bind.mpr (wp_imp h ?_ fun _ _ z => z)
  rintro rs ⟨xs, e, hl, q⟩
  rw [if_pos hl, e]
  exact wp_ok.mpr q
theorem w_gif {t : GT} {a b : GE} {δ : Sl} {Q : R → Prop} {E : Str → Unit → Prop} (h : Wp (t δ) (fun k => Wp (if k = true then a δ else b δ) Q E) E) : Wp (gIf t a b δ) Q E := wp_bind.mpr h
theorem w_nil {δ : Sl} {Q : List R → Prop} {E : Str → Unit → Prop} (h : Q []) : Wp (DL.gNil δ) Q E := wp_ok.mpr h
abbrev IsP (d : D) : Prop := ∃ x, d = .p x
theorem info_wp (kd : Str) : Wp (m__law_point_info [.orc, .p (.str kd)]) IsP NE := by
  refine fn_wp ?_
  unfold g__law_point_info
  have c : ∀ z : Str, gTB (gOp2 (fB (fEqB false)) (gVar 1) (gC (.str z))) [.bor none .orc, .bor none (.p (.str kd)), .no] = .ok (decide (kd = z)) := fun z => tb_eq (op2_eq (x := .own (.p (.str kd))) (y := .own (.p (.str z))) rfl rfl (fB_eq (eq_strs false _ _)))
  by_cases h : kd = "clamp"
  · refine seq_wp (fun _ => False) (if_tt ((c "clamp").trans (by rw [decide_eq_true h])) ?_) (fun _ z => z.elim)
    refine seq_wp (fun δ => ∃ i : Int, δ = [.bor none .orc, .bor none (.p (.str kd)), .own (.p (.int i))]) ?_ ?_
    · refine set_fn (rs := [.vw .orc, .own (.p (.int 9))]) rfl rfl (signed_wp 9 (by decide) (by omega)) ?_
      rintro d ⟨i, _, _, rfl⟩
      exact ⟨i, rfl⟩
    rintro _ ⟨i, rfl⟩
    refine w_ret (w_tup (w_cons (w_of (v := .own (.p (.int i))) rfl (w_cons (w_op2 (w_of (v := .own (.p (.int i))) rfl (draw_eq (n := 12) (by decide) (by omega) rfl fun j _ _ => ?_)))))))
    exact w_of (v := .own (.p (.int (i + j)))) rfl (w_nil ⟨_, rfl, by simp, _, rfl, _, rfl⟩)
  · refine seq_ok (if_eqF ((c "clamp").trans (by rw [decide_eq_false h])) rfl) ?_
    refine w_ret (w_gif (w_of (c "shift") ?_))
    by_cases h2 : kd = "shift"
    · rw [if_pos (decide_eq_true h2)]
      refine w_tup (w_cons (w_op2 (w_of (v := .own (.p (.int 1))) rfl (draw_eq (n := 3) (by decide) (by omega) rfl fun j _ _ => ?_))))
      exact w_of (v := .own (.p (.int (1 + j)))) rfl (w_nil ⟨_, rfl, by simp, _, rfl, _, rfl⟩)
    · rw [if_neg (by simpa using h2)]
      exact w_tup (w_nil ⟨_, rfl, by simp, _, rfl, _, rfl⟩)
/-- a row of env: a variable and its values -/
def EnvX (x : P) : Prop := ∃ (v : Int) (ns : List Int), x = .tup [.int v, .fl ns] ∧ ns ≠ [] ∧ ns.length ≤ 100 ∧ ∀ n ∈ ns, -100 ≤ n ∧ n ≤ 100
def EnvOk (env : List P) : Prop := env.length ≤ 3 ∧ ∀ x ∈ env, EnvX x
theorem test_wp {env : List P} (he : EnvOk env) : Wp (m__law_test [.orc, .lst env]) IsP NE := by
  refine fn_wp ?_
  unfold g__law_test
  have sub : ∀ x ∈ cutP env none (some 2), x ∈ env := fun x hx => List.mem_of_mem_drop (List.mem_of_mem_take hx)
  have le : (cutP env none (some 2)).length ≤ 3 := by
    have h1 := he.1
    unfold cutP
    rw [List.length_take, List.length_drop]
    omega
  refine seq_wp (fun δ => ∃ xs : List P, δ = [.bor none .orc, .bor none (.lst env), .own (.p (.tup xs)), .no, .no]) ?_ ?_
  · refine w_set (w_call (w_cons (glcW (T := fun _ => True) (xs := cutP env none (some 2)) (seqL_eq (r := .own (.lst (cutP env none (some 2)))) rfl rfl) (fun x hx => ?_) (by omega) fun zs _ _ => w_nil ?_)))
    · obtain ⟨v, ns, rfl, _⟩ := he.2 x (sub x hx)
      refine ⟨_, rfl, w_tup (w_cons (w_of (v := .own (.p (.int v))) rfl (w_cons (w_op2 (w_of (v := .own (.p (.tup [.int 1, .int (-1), .int 2]))) rfl (draw_eq (n := 3) (by decide) (by omega) rfl fun j j0 j1 => ?_))))))⟩
      rcases (by omega : j = 0 ∨ j = 1 ∨ j = 2) with rfl | rfl | rfl
      · exact w_of (v := .own (.p (.int 1))) rfl (w_nil ⟨_, rfl, by simp, _, rfl, trivial⟩)
      · exact w_of (v := .own (.p (.int (-1)))) rfl (w_nil ⟨_, rfl, by simp, _, rfl, trivial⟩)
      · exact w_of (v := .own (.p (.int 2))) rfl (w_nil ⟨_, rfl, by simp, _, rfl, trivial⟩)
    · exact w_of (v := .own (.p (.tup zs))) rfl ⟨_, rfl, zs, rfl⟩
  rintro _ ⟨xs, rfl⟩
  refine w_ret (w_tup (w_cons (w_fn (rs := [.vw .orc, .own (.p (.int 2))]) rfl rfl (wp_imp (signed_wp 2 (by decide) (by omega)) ?_ fun _ _ z => z))))
  rintro d ⟨i, _, _, rfl⟩
  exact w_cons (w_of (v := .own (.p (.tup xs))) rfl (w_nil ⟨_, rfl, by simp, _, rfl, _, rfl⟩))
def le_fold : ∀ (xs : List Int) (x : Int), x ≤ xs.foldl (fun a b => if b > a then b else a) x
  | [], x => Int.le_refl _
  | y :: xs, x => by
    rw [List.foldl_cons]
    have := le_fold xs (if y > x then y else x)
    refine Int.le_trans ?_ this
    split <;> omega
def fold_le : ∀ (xs : List Int) (x : Int), xs.foldl (fun a b => if b < a then b else a) x ≤ x
  | [], x => Int.le_refl _
  | y :: xs, x => by
    rw [List.foldl_cons]
    have := fold_le xs (if y < x then y else x)
    refine Int.le_trans this ?_
    split <;> omega
theorem min_max {ns : List Int} : minL ns ≤ maxL ns := by
  cases ns with
  | nil => exact Int.le_refl _
  | cons x xs => exact Int.le_trans (fold_le xs x) (le_fold xs x)
def slF (env : List P) (size : Int) (ts : List P) (low high : Int) (s6 s7 s8 s9 : S) : Sl := [.bor none .orc, .bor none (.lst env), .bor none (.p (.int size)), .own (.lst ts), .own (.p (.int low)), .own (.p (.int high)), s6, s7, s8, s9, .no]
def bodyF : GS := gIfS (gTB (gOp2 (fB fGt) (gFn 2 m__law_take (DL.gCons (gVar 0) (DL.gCons (gC (.int 3)) DL.gNil))) (gC (.int 0)))) (gSeq (gSet 8 (gOp2 fIx (DL.gTup (DL.gCons (gC (.int 1)) (DL.gCons (gC (.int 1)) (DL.gCons (gC (.int 2)) (DL.gCons (gOp2 iSub (gC (.int 0)) (gC (.int 1))) DL.gNil))))) (gFn 2 m__law_take (DL.gCons (gVar 0) (DL.gCons (gC (.int 4)) DL.gNil)))))
  (gSeq (gSet 9 (gLc (.one 10) [10] (gSeqL (gVar 7)) gYes (gOp2 fMul (gVar 8) (gVar 10))))
  (gIfS (gTB (gOp2 (fB fLt) (gOp2 iSub (gOp2 iSub (gOp2 fAdd (gVar 5) (gCall fMaxL (DL.gCons (gVar 9) DL.gNil))) (gVar 4)) (gCall fMinL (DL.gCons (gVar 9) DL.gNil))) (gVar 2))) (gSeq (gApp 3 (DL.gTup (DL.gCons (gVar 6) (DL.gCons (gVar 8) DL.gNil))))
  (gSeq (gSet 4 (gOp2 fAdd (gVar 4) (gCall fMinL (DL.gCons (gVar 9) DL.gNil))))
  (gSet 5 (gOp2 fAdd (gVar 5) (gCall fMaxL (DL.gCons (gVar 9) DL.gNil)))))) gNext))) gNext
theorem w_ifc {t : GT} {a b : GS} {δ : Sl} {K : Fl → Prop} {E : Str → Sl → Prop} {k : Bool} (h : t δ = .ok k) (h1 : k = true → Wp (a δ) K E) (h2 : k = false → Wp (b δ) K E) : Wp (gIfS t a b δ) K E := by
  cases k with
  | true => exact if_tt h (h1 rfl)
  | false => exact if_ff h (h2 rfl)
theorem draw_fac {i : Nat} {δ : Sl} {Q : R → Prop} (e : gVar i δ = .ok (.vw .orc)) (h : ∀ f : Int, -2 ≤ f → f ≤ 2 → Q (.own (.p (.int f)))) : Wp (gOp2 fIx (DL.gTup (DL.gCons (gC (.int 1)) (DL.gCons (gC (.int 1)) (DL.gCons (gC (.int 2)) (DL.gCons (gOp2 iSub (gC (.int 0)) (gC (.int 1))) DL.gNil))))) (gFn 2 m__law_take (DL.gCons (gVar i) (DL.gCons (gC (.int 4)) DL.gNil))) δ) Q NE := by
  refine w_op2 (w_of (v := .own (.p (.tup [.int 1, .int 1, .int 2, .int (-1)]))) rfl (draw_eq (n := 4) (by decide) (by omega) (cons_eq e rfl) fun j j0 j1 => ?_))
  rcases (by omega : j = 0 ∨ j = 1 ∨ j = 2 ∨ j = 3) with rfl | rfl | rfl | rfl
  · exact w_of (v := .own (.p (.int 1))) rfl (h 1 (by decide) (by decide))
  · exact w_of (v := .own (.p (.int 1))) rfl (h 1 (by decide) (by decide))
  · exact w_of (v := .own (.p (.int 2))) rfl (h 2 (by decide) (by decide))
  · exact w_of (v := .own (.p (.int (-1)))) rfl (h (-1) (by decide) (by decide))
theorem form_step {env : List P} {size : Int} (hs : 1 ≤ size ∧ size ≤ 1000) {ts : List P} {low high : Int} (h0 : low ≤ high) (h1 : high - low < size) (ht : ts.length ≤ 100) {v : Int} {ns : List Int} (hn : ns ≠ []) (hl : ns.length ≤ 100) (hb : ∀ n ∈ ns, -100 ≤ n ∧ n ≤ 100) {s8 s9 : S} {K : Fl → Prop}
    (k : ∀ (ts' : List P) (low high : Int) (s8 s9 : S), ts'.length ≤ ts.length + 1 → low ≤ high → high - low < size → K (.nx (slF env size ts' low high (.own (.p (.int v))) (.own (.p (.fl ns))) s8 s9))) :
    Wp (bodyF (slF env size ts low high (.own (.p (.int v))) (.own (.p (.fl ns))) s8 s9)) K (fun _ _ => False) := by
  refine w_if (w_tb (w_op2 (draw_eq (n := 3) (by decide) (by omega) rfl fun j _ _ => w_of (v := .own (.p (.int 0))) rfl (w_of (v := .own (.p (.bl (decide (0 < j))))) rfl ⟨_, rfl, ?_⟩))))
  by_cases hj : 0 < j
  · rw [if_pos (decide_eq_true hj)]
    refine seq_wp (fun δ => ∃ f : Int, -2 ≤ f ∧ f ≤ 2 ∧ δ = slF env size ts low high (.own (.p (.int v))) (.own (.p (.fl ns))) (.own (.p (.int f))) s9) ?_ ?_
    · exact w_set (draw_fac rfl fun f f0 f1 => ⟨_, rfl, f, f0, f1, rfl⟩)
    rintro _ ⟨f, f0, f1, rfl⟩
    have e9 : gLc (.one 10) [10] (gSeqL (gVar 7)) gYes (gOp2 fMul (gVar 8) (gVar 10)) (slF env size ts low high (.own (.p (.int v))) (.own (.p (.fl ns))) (.own (.p (.int f))) s9) = .ok (.own (.lst (pI (ns.map (f * ·))))) := by
      refine glc_list (xs := ns.map P.int) (seqL_eq (r := .own (.p (.fl ns))) rfl rfl) ?_
      have : ∀ (l : List Int) (acc : List P), (∀ n ∈ l, -100 ≤ n ∧ n ≤ 100) → acc.length + l.length ≤ 100 → lcL (.one 10) gYes (gOp2 fMul (gVar 8) (gVar 10)) (slF env size ts low high (.own (.p (.int v))) (.own (.p (.fl ns))) (.own (.p (.int f))) s9) (l.map P.int) acc = .ok (acc ++ pI (l.map (f * ·))) := by
        intro l
        induction l with
        | nil => intro acc _ _; simp [lcL, pI]
        | cons n l ih =>
          intro acc hb hl
          simp only [List.length_cons] at hl
          have hn := hb n (by simp)
          refine (lc_cons (r := .own (.p (.int (f * n)))) (y := .int (f * n)) (op2_eq (x := .own (.p (.int f))) (y := .own (.p (.int n))) rfl rfl (mul_s (by omega) (by omega))) rfl (by omega)).trans ((ih (acc ++ [.int (f * n)]) (fun m hm => hb m (by simp [hm])) (by simp; omega)).trans ?_)
          simp [pI]
      exact (this ns [] hb (by simpa using hl)).trans (by simp)
    refine seq_ok (set_eq e9) ?_
    have mm := min_max (ns := ns.map (f * ·))
    have lp : 0 < (ns.map (f * ·)).length := by rw [List.length_map]; exact List.length_pos_iff.mpr hn
    have ex := max_l lp
    have en := min_l lp
    generalize maxL (ns.map (f * ·)) = M at mm ex
    generalize minL (ns.map (f * ·)) = m at mm en
    generalize ns.map (f * ·) = es at ex en
    have gx : ∀ {δ : Sl}, gVar 9 δ = .ok (.vw (.lst (pI es))) → gCall fMaxL (DL.gCons (gVar 9) DL.gNil) δ = .ok (.own (.p (.int M))) := fun e => call_eq (rs := [.vw (.lst (pI es))]) (cons_eq e rfl) ex
    have gn : ∀ {δ : Sl}, gVar 9 δ = .ok (.vw (.lst (pI es))) → gCall fMinL (DL.gCons (gVar 9) DL.gNil) δ = .ok (.own (.p (.int m))) := fun e => call_eq (rs := [.vw (.lst (pI es))]) (cons_eq e rfl) en
    refine w_ifc (k := decide (high + M - low - m < size)) (tb_eq (op2_eq (x := .own (.p (.int (high + M - low - m)))) (y := .own (.p (.int size))) (op2_eq (x := .own (.p (.int (high + M - low)))) (y := .own (.p (.int m))) (op2_eq (x := .own (.p (.int (high + M)))) (y := .own (.p (.int low))) (op2_eq (x := .own (.p (.int high))) (y := .own (.p (.int M))) rfl (gx rfl) rfl) rfl rfl) (gn rfl) rfl) rfl rfl)) (fun h => ?_) (fun h => ?_)
    · have h := of_decide_eq_true h
      refine seq_ok (app_eq (x := .tup [.int v, .int f]) rfl rfl (by omega)) (seq_ok (set_eq (op2_eq (x := .own (.p (.int low))) (y := .own (.p (.int m))) rfl (gn rfl) rfl)) ?_)
      refine w_of (v := .nx (slF env size (ts ++ [.tup [.int v, .int f]]) (low + m) (high + M) (.own (.p (.int v))) (.own (.p (.fl ns))) (.own (.p (.int f))) (.own (.lst (pI es))))) (set_eq (op2_eq (x := .own (.p (.int high))) (y := .own (.p (.int M))) rfl (gx rfl) rfl)) (k _ _ _ _ _ (by simp) (by omega) (by omega))
    · exact w_of (v := .nx (slF env size ts low high (.own (.p (.int v))) (.own (.p (.fl ns))) (.own (.p (.int f))) (.own (.lst (pI es))))) rfl (k _ _ _ _ _ (by omega) h0 h1)
  · rw [if_neg (by simpa using hj)]
    exact w_of (v := .nx (slF env size ts low high (.own (.p (.int v))) (.own (.p (.fl ns))) s8 s9)) rfl (k _ _ _ _ _ (by omega) h0 h1)
theorem form_wp {env : List P} (he : EnvOk env) {size : Int} (hs : 1 ≤ size ∧ size ≤ 1000) : Wp (m__law_form [.orc, .lst env, .p (.int size)]) IsP NE := by
  refine fn_wp ?_
  unfold g__law_form
  refine seq_ok rfl (seq_ok rfl (seq_ok rfl ?_))
  refine seq_wp (fun δ => ∃ (ts : List P) (low high : Int) (s6 s7 s8 s9 : S), ts.length ≤ 100 ∧ low ≤ high ∧ high - low < size ∧ δ = slF env size ts low high s6 s7 s8 s9) ?_ ?_
  · refine (forL_inv (t := .tup [6, 7]) (g := bodyF) (fun xs δ => ∃ (ts : List P) (low high : Int) (s6 s7 s8 s9 : S), (∀ x ∈ xs, EnvX x) ∧ ts.length + xs.length ≤ 3 ∧ low ≤ high ∧ high - low < size ∧ δ = slF env size ts low high s6 s7 s8 s9) ?_ ?_ env (slF env size [] 0 0 .no .no .no .no) ⟨[], 0, 0, .no, .no, .no, .no, he.2, by simpa using he.1, by omega, by omega, rfl⟩ : Wp _ _ _)
    · rintro x xs _ ⟨ts, low, high, s6, s7, s8, s9, hx, hl, h0, h1, rfl⟩
      obtain ⟨v, ns, rfl, hn, hnl, hb⟩ := hx x (by simp)
      simp only [List.length_cons] at hl
      refine ⟨slF env size ts low high (.own (.p (.int v))) (.own (.p (.fl ns))) s8 s9, rfl, form_step hs h0 h1 (by omega) hn hnl hb fun ts' low' high' s8' s9' hl' h0' h1' => ?_⟩
      exact ⟨ts', low', high', _, _, s8', s9', fun y hy => hx y (by simp [hy]), by omega, h0', h1', rfl⟩
    · rintro _ ⟨ts, low, high, s6, s7, s8, s9, _, hl, h0, h1, rfl⟩
      exact ⟨ts, low, high, s6, s7, s8, s9, by omega, h0, h1, rfl⟩
  rintro _ ⟨ts, low, high, s6, s7, s8, s9, hl, h0, h1, rfl⟩
  refine w_ret (w_tup (w_cons (w_op2 (draw_eq (n := size - high + low) (by omega) (by omega) (cons_eq rfl (cons_eq (op2_eq (x := .own (.p (.int (size - high)))) (y := .own (.p (.int low))) rfl rfl rfl) rfl)) fun j _ _ => w_of (v := .own (.p (.int low))) rfl (w_of (v := .own (.p (.int (j - low)))) rfl ?_)))))
  exact w_cons (w_of (v := .own (.p (.tup ts))) rfl (w_nil ⟨_, rfl, by simp, _, rfl, _, rfl⟩))
/-! buffers, copies -/
structure BufOk (B : D) (bs : List (Str × Int)) : Prop where
  gv : ∀ (δ : Sl) (i : Nat), δ[i]? = some (.bor none B) → ∃ r, gVar i δ = .ok r ∧ r.d = B
  ix : ∀ k : Nat, (h : k < bs.length) → fIx B (.p (.int (k : Int))) = .ok (.own (.p (.tup [.str bs[k].1, .int bs[k].2])))
  len : fLen [B] = .ok (.own (.p (.int (bs.length : Int))))
  n0 : 2 ≤ bs.length
  n1 : bs.length ≤ 10
  sz : ∀ b ∈ bs, 1 ≤ b.2 ∧ b.2 ≤ 100
  far : ∃ b ∈ bs, b.1 ≠ "near"
  set : ∃ b ∈ bs, b.1 ≠ "in"
theorem bix {bs : List (Str × Int)} {k : Nat} (h : k < bs.length) : (bP bs)[k]? = some (P.tup [.str bs[k].1, .int bs[k].2]) := by simp [bP, List.getElem?_eq_getElem h]
theorem bufOk_t {bs : List (Str × Int)} (n0 : 2 ≤ bs.length) (n1 : bs.length ≤ 10) (sz : ∀ b ∈ bs, 1 ≤ b.2 ∧ b.2 ≤ 100) (far : ∃ b ∈ bs, b.1 ≠ "near") (set : ∃ b ∈ bs, b.1 ≠ "in") : BufOk (.p (.tup (bP bs))) bs :=
  ⟨fun δ i e => ⟨.own (.p (.tup (bP bs))), by unfold gVar; rw [e], rfl⟩, fun k h => ix_t (at_nat (bix h)), by show Rn.ok (R.own (.p (.int ((bP bs).length : Int)))) = _; rw [show (bP bs).length = bs.length from List.length_map ..], n0, n1, sz, far, set⟩
theorem bufOk_l {bs : List (Str × Int)} (n0 : 2 ≤ bs.length) (n1 : bs.length ≤ 10) (sz : ∀ b ∈ bs, 1 ≤ b.2 ∧ b.2 ≤ 100) (far : ∃ b ∈ bs, b.1 ≠ "near") (set : ∃ b ∈ bs, b.1 ≠ "in") : BufOk (.lst (bP bs)) bs :=
  ⟨fun δ i e => ⟨.vw (.lst (bP bs)), by unfold gVar; rw [e], rfl⟩, fun k h => ix_l (at_nat (bix h)), by show Rn.ok (R.own (.p (.int ((bP bs).length : Int)))) = _; rw [show (bP bs).length = bs.length from List.length_map ..], n0, n1, sz, far, set⟩
section
variable {B : D} {bs : List (Str × Int)} {δ : Sl}
theorem BufOk.lenG (b : BufOk B bs) {i : Nat} (e : δ[i]? = some (.bor none B)) : gCall fLen (DL.gCons (gVar i) DL.gNil) δ = .ok (.own (.p (.int (bs.length : Int)))) := by
  obtain ⟨r, h1, h2⟩ := b.gv δ i e
  refine call_eq (rs := [r]) (cons_eq h1 rfl) ?_
  show fLen [r.d] = _
  rw [h2, b.len]
theorem BufOk.rng (b : BufOk B bs) {i : Nat} (e : δ[i]? = some (.bor none B)) : gRangeI fRange1 (DL.gCons (gCall fLen (DL.gCons (gVar i) DL.gNil)) DL.gNil) δ = .ok (rangeP 0 (bs.length : Int)) :=
  gRange_ok (rs := [.own (.p (.int (bs.length : Int)))]) (cons_eq (b.lenG e) rfl) (range1_ok (by omega) (by have := b.n1; omega))
theorem BufOk.at (b : BufOk B bs) {i : Nat} {g : GE} {k : Nat} (e : δ[i]? = some (.bor none B)) (hk : k < bs.length) {r : R} (hg : g δ = .ok r) (hr : r.d = .p (.int (k : Int))) : gOp2 fIx (gVar i) g δ = .ok (.own (.p (.tup [.str bs[k].1, .int bs[k].2]))) := by
  obtain ⟨q, h1, h2⟩ := b.gv δ i e
  refine op2_eq h1 hg ?_
  rw [h2, hr]
  exact b.ix k hk
theorem BufOk.kind (b : BufOk B bs) {i : Nat} {g : GE} {k : Nat} (e : δ[i]? = some (.bor none B)) (hk : k < bs.length) {r : R} (hg : g δ = .ok r) (hr : r.d = .p (.int (k : Int))) : gOp2 fIx (gOp2 fIx (gVar i) g) (gC (.int 0)) δ = .ok (.own (.p (.str bs[k].1))) :=
  op2_eq (x := .own (.p (.tup [.str bs[k].1, .int bs[k].2]))) (y := .own (.p (.int 0))) (b.at e hk hg hr) rfl rfl
theorem BufOk.size (b : BufOk B bs) {i : Nat} {g : GE} {k : Nat} (e : δ[i]? = some (.bor none B)) (hk : k < bs.length) {r : R} (hg : g δ = .ok r) (hr : r.d = .p (.int (k : Int))) : gOp2 fIx (gOp2 fIx (gVar i) g) (gC (.int 1)) δ = .ok (.own (.p (.int bs[k].2))) :=
  op2_eq (x := .own (.p (.tup [.str bs[k].1, .int bs[k].2]))) (y := .own (.p (.int 1))) (b.at e hk hg hr) rfl rfl
/-- the places of buffers of a kind (or of the others) -/
def plc (bs : List (Str × Int)) (neg : Bool) (z : Str) : List Nat := (List.range bs.length).filter fun k => match bs[k]? with
  | some b => if neg then !decide (b.1 = z) else decide (b.1 = z)
  | none => false
def pN (l : List Nat) : List P := l.map fun (k : Nat) => P.int (k : Int)
theorem plc_mem {neg : Bool} {z : Str} {k : Nat} (h : k ∈ plc bs neg z) : k < bs.length := List.mem_range.mp (List.mem_filter.mp h).1
theorem plc_len (neg : Bool) (z : Str) : (plc bs neg z).length ≤ bs.length := Nat.le_trans (List.length_filter_le _ _) (by simp)
theorem plc_ne {z : Str} (h : ∃ b ∈ bs, b.1 ≠ z) : 0 < (plc bs true z).length := by
  obtain ⟨b, hb, hz⟩ := h
  obtain ⟨k, hk, e⟩ := List.getElem_of_mem hb
  refine List.length_pos_of_mem (a := k) (List.mem_filter.mpr ⟨List.mem_range.mpr hk, ?_⟩)
  rw [List.getElem?_eq_getElem hk, e]
  simpa using hz
theorem BufOk.plc (b : BufOk B bs) (neg : Bool) (z : Str) {i j : Nat} (hi : i ≠ j) (hj : j < δ.length) (e : δ[i]? = some (.bor none B)) :
    gLc (.one j) [j] (gRangeI fRange1 (DL.gCons (gCall fLen (DL.gCons (gVar i) DL.gNil)) DL.gNil)) (gTB (gOp2 (fB (fEqB neg)) (gOp2 fIx (gOp2 fIx (gVar i) (gVar j)) (gC (.int 0))) (gC (.str z)))) (gVar j) δ = .ok (.own (.lst (pN (plc bs neg z)))) := by
  have lc := lcL_ok (t := .one j) (gt := gTB (gOp2 (fB (fEqB neg)) (gOp2 fIx (gOp2 fIx (gVar i) (gVar j)) (gC (.int 0))) (gC (.str z)))) (ge := gVar j) (δ := δ.set j .no) (fun x => match x with
      | .int k => match bs[k.toNat]? with
        | some b => if neg then !decide (b.1 = z) else decide (b.1 = z)
        | none => false
      | _ => false) id (rangeP 0 (bs.length : Int)) [] (fun y hy => by
      rw [ks_range] at hy
      obtain ⟨k, hk, rfl⟩ := List.mem_map.mp hy
      have hk := List.mem_range.mp hk
      have e1 : ((δ.set j .no).set j (.own (.p (.int (k : Int)))))[i]? = some (.bor none B) := by
        rw [List.getElem?_set_ne (Ne.symm hi), List.getElem?_set_ne (Ne.symm hi), e]
      have e2 : gVar j ((δ.set j .no).set j (.own (.p (.int (k : Int))))) = .ok (.own (.p (.int (k : Int)))) := by
        unfold gVar
        rw [List.getElem?_set_self (by rw [List.length_set]; exact hj)]
      refine ⟨_, rfl, ?_, fun _ => ⟨_, e2, rfl⟩⟩
      dsimp only
      rw [Int.toNat_natCast, List.getElem?_eq_getElem hk]
      exact tb_eq (op2_eq (x := .own (.p (.str bs[k].1))) (y := .own (.p (.str z))) (b.kind e1 hk e2 rfl) rfl (fB_eq (eq_strs neg _ _)))) (by
      have := b.n1
      have l : (rangeP 0 (bs.length : Int)).length = bs.length := by simp [rangeP]
      rw [l]
      simp only [List.length_nil]
      exact big (by omega))
  unfold gLc
  rw [b.rng e]
  show ((lcL _ _ _ (δ.set j .no) _ []).bind _) = _
  rw [lc, List.nil_append, List.map_id, ks_range, List.filter_map]
  rfl
/-- a draw of one of the places -/
theorem draw_plc {l : List Nat} {i o : Nat} {Q : R → Prop} (e : gVar i δ = .ok (.vw (.lst (pN l)))) (eo : gVar o δ = .ok (.vw .orc)) (h0 : 0 < l.length) (h1 : l.length ≤ 1000) (h : ∀ k ∈ l, Q (.own (.p (.int ((k : Nat) : Int))))) :
    Wp (gOp2 fIx (gVar i) (gFn 2 m__law_take (DL.gCons (gVar o) (DL.gCons (gCall fLen (DL.gCons (gVar i) DL.gNil)) DL.gNil))) δ) Q NE := by
  have hl : gCall fLen (DL.gCons (gVar i) DL.gNil) δ = .ok (.own (.p (.int (l.length : Int)))) := by
    refine call_eq (rs := [.vw (.lst (pN l))]) (cons_eq e rfl) ?_
    show Rn.ok (R.own (.p (.int ((pN l).length : Int)))) = _
    rw [show (pN l).length = l.length from List.length_map ..]
  refine w_op2 (w_of e (draw_eq (n := (l.length : Int)) (by omega) (by omega) (cons_eq eo (cons_eq hl rfl)) fun j j0 j1 => ?_))
  obtain ⟨k, rfl⟩ := Int.eq_ofNat_of_zero_le j0
  have hk : k < l.length := by omega
  have e2 : (pN l)[k]? = some (P.int (l[k] : Int)) := by simp [pN, List.getElem?_eq_getElem hk]
  have hi : fIx (.lst (pN l)) (.p (.int (k : Int))) = .ok (.own (.p (.int ((l[k] : Nat) : Int)))) := ix_l (at_nat e2)
  exact w_of hi (h _ (List.getElem_mem hk))
end
/-- slots of _law_copy -/
def slC (B : D) (env : List P) (near other : List Nat) (s5 s6 s7 s8 s9 : S) : Sl := [.bor none .orc, .bor none B, .bor none (.lst env), .own (.lst (pN near)), .own (.lst (pN other)), s5, s6, s7, s8, s9, .no]
theorem nx_wp {δ : Sl} {Q : Fl → Prop} {E : Str → Sl → Prop} (h : Q (.nx δ)) : Wp (gNext δ) Q E := wp_ok.mpr h
theorem eq_strF (a b : Str) : fEqB false (.p (.str a)) (.p (.str b)) = .ok (decide (a = b)) := rfl
theorem min2 (a b : Int) : fMinL [.p (.int a), .p (.int b)] = .ok (.own (.p (.int (if b < a then b else a)))) := rfl
theorem copy_wp {B : D} {bs : List (Str × Int)} {env : List P} (b : BufOk B bs) (he : EnvOk env) : Wp (m__law_copy [.orc, B, .lst env]) (fun d => d = .p .non ∨ ∃ (a c : Int) (f g n : P), d = .p (St.copy a f c g n).p) NE := by
  refine fn_wp ?_
  unfold g__law_copy
  have e3 := b.plc (δ := [.bor none .orc, .bor none B, .bor none (.lst env), .no, .no, .no, .no, .no, .no, .no, .no]) false "near" (i := 1) (j := 10) (by decide) (by simp) rfl
  have e4 := b.plc (δ := [.bor none .orc, .bor none B, .bor none (.lst env), .own (.lst (pN (plc bs false "near"))), .no, .no, .no, .no, .no, .no, .no]) true "near" (i := 1) (j := 10) (by decide) (by simp) rfl
  refine seq_ok (set_eq e3) (seq_ok (set_eq e4) ?_)
  have nm := fun k => plc_mem (bs := bs) (neg := false) (z := "near") (k := k)
  have om := fun k => plc_mem (bs := bs) (neg := true) (z := "near") (k := k)
  have nl := plc_len (bs := bs) false "near"
  have ol := plc_len (bs := bs) true "near"
  have on := plc_ne b.far
  have n1 := b.n1
  generalize plc bs false "near" = near at nm nl ⊢
  generalize plc bs true "near" = other at om ol on ⊢
  show Wp (gSeq _ _ (slC B env near other .no .no .no .no .no)) _ _
  have ln : gCall fLen (DL.gCons (gVar 3) DL.gNil) (slC B env near other .no .no .no .no .no) = .ok (.own (.p (.int (near.length : Int)))) := by
    refine call_eq (rs := [.vw (.lst (pN near))]) rfl ?_
    show Rn.ok (R.own (.p (.int ((pN near).length : Int)))) = _
    rw [show (pN near).length = near.length from List.length_map ..]
  have c0 := tb_eq (op2_eq (f := fB (fEqB false)) (x := .own (.p (.int (near.length : Int)))) (y := .own (.p (.int 0))) ln (show gC (.int 0) _ = _ from rfl) (eq_ints (near.length : Int) 0))
  by_cases z : (near.length : Int) = 0
  · rw [decide_eq_true z] at c0
    exact seq_ret (d := .p .non) (if_eqT c0 rfl) (.inl rfl)
  rw [decide_eq_false z] at c0
  refine seq_ok (if_eqF c0 rfl) ?_
  refine seq_wp (fun δ => ∃ k : Nat, k < bs.length ∧ δ = slC B env near other (.own (.p (.int (k : Int)))) .no .no .no .no) (w_set (draw_plc rfl rfl (by omega) (by omega) fun k hk => ⟨_, rfl, k, nm k hk, rfl⟩)) ?_
  rintro _ ⟨one, h1, rfl⟩
  refine seq_wp (fun δ => ∃ k : Nat, k < bs.length ∧ δ = slC B env near other (.own (.p (.int (one : Int)))) (.own (.p (.int (k : Int)))) .no .no .no) (w_set (draw_plc rfl rfl (by omega) (by omega) fun k hk => ⟨_, rfl, k, om k hk, rfl⟩)) ?_
  rintro _ ⟨two, h2, rfl⟩
  have z1 := b.sz bs[one] (List.getElem_mem h1)
  have z2 := b.sz bs[two] (List.getElem_mem h2)
  refine seq_wp (fun δ => ∃ n : Int, 1 ≤ n ∧ n ≤ bs[one].2 ∧ n ≤ bs[two].2 ∧ δ = slC B env near other (.own (.p (.int (one : Int)))) (.own (.p (.int (two : Int)))) (.own (.p (.int n))) .no .no) ?_ ?_
  · have hm : gCall fMinL (DL.gCons (gOp2 fIx (gOp2 fIx (gVar 1) (gVar 5)) (gC (.int 1))) (DL.gCons (gOp2 fIx (gOp2 fIx (gVar 1) (gVar 6)) (gC (.int 1))) DL.gNil)) (slC B env near other (.own (.p (.int (one : Int)))) (.own (.p (.int (two : Int)))) .no .no .no) = .ok (.own (.p (.int (if bs[two].2 < bs[one].2 then bs[two].2 else bs[one].2)))) :=
      call_eq (rs := [.own (.p (.int bs[one].2)), .own (.p (.int bs[two].2))]) (cons_eq (b.size rfl h1 (r := .own (.p (.int (one : Int)))) rfl rfl) (cons_eq (b.size rfl h2 (r := .own (.p (.int (two : Int)))) rfl rfl) rfl)) (min2 _ _)
    refine w_set (w_op2 (w_of (v := .own (.p (.int 1))) rfl (draw_eq (n := if bs[two].2 < bs[one].2 then bs[two].2 else bs[one].2) (by split <;> omega) (by split <;> omega) (cons_eq rfl (cons_eq hm rfl)) fun j j0 j1 => ?_)))
    exact w_of (v := .own (.p (.int (1 + j)))) rfl ⟨_, rfl, 1 + j, by omega, by split at j1 <;> omega, by split at j1 <;> omega, rfl⟩
  rintro _ ⟨n, n0, na, nb, rfl⟩
  refine seq_wp (fun δ => ∃ f : P, δ = slC B env near other (.own (.p (.int (one : Int)))) (.own (.p (.int (two : Int)))) (.own (.p (.int n))) (.own (.p f)) .no) ?_ ?_
  · refine set_fn (rs := [.vw .orc, .vw (.lst env), .own (.p (.int (bs[one].2 - n + 1)))]) (cons_eq rfl (cons_eq rfl (cons_eq (op2_eq (x := .own (.p (.int (bs[one].2 - n)))) (y := .own (.p (.int 1))) (op2_eq (x := .own (.p (.int bs[one].2))) (y := .own (.p (.int n))) (b.size rfl h1 (r := .own (.p (.int (one : Int)))) rfl rfl) rfl rfl) rfl rfl) rfl))) rfl (form_wp he (by omega)) ?_
    rintro d ⟨f, rfl⟩
    exact ⟨f, rfl⟩
  rintro _ ⟨f, rfl⟩
  refine seq_wp (fun δ => ∃ g : P, δ = slC B env near other (.own (.p (.int (one : Int)))) (.own (.p (.int (two : Int)))) (.own (.p (.int n))) (.own (.p f)) (.own (.p g))) ?_ ?_
  · refine set_fn (rs := [.vw .orc, .vw (.lst env), .own (.p (.int (bs[two].2 - n + 1)))]) (cons_eq rfl (cons_eq rfl (cons_eq (op2_eq (x := .own (.p (.int (bs[two].2 - n)))) (y := .own (.p (.int 1))) (op2_eq (x := .own (.p (.int bs[two].2))) (y := .own (.p (.int n))) (b.size rfl h2 (r := .own (.p (.int (two : Int)))) rfl rfl) rfl rfl) rfl rfl) rfl))) rfl (form_wp he (by omega)) ?_
    rintro d ⟨f, rfl⟩
    exact ⟨f, rfl⟩
  rintro _ ⟨g, rfl⟩
  refine seq_wp (fun δ => δ = slC B env near other (.own (.p (.int (one : Int)))) (.own (.p (.int (two : Int)))) (.own (.p (.int n))) (.own (.p f)) (.own (.p g))) ?_ ?_
  · have km := tb_eq (op2_eq (f := fB (fEqB false)) (x := .own (.p (.str bs[two].1))) (y := .own (.p (.str "main"))) (b.kind (δ := slC B env near other (.own (.p (.int (one : Int)))) (.own (.p (.int (two : Int)))) (.own (.p (.int n))) (.own (.p f)) (.own (.p g))) (i := 1) (g := gVar 6) rfl h2 (r := .own (.p (.int (two : Int)))) rfl rfl) (show gC (.str "main") _ = _ from rfl) (fB_eq (eq_strF _ _)))
    have last : Wp (gRet (DL.gTup (DL.gCons (gC (.str "copy")) (DL.gCons (gVar 6) (DL.gCons (gVar 9) (DL.gCons (gVar 5) (DL.gCons (gVar 8) (DL.gCons (gVar 7) DL.gNil))))))) (slC B env near other (.own (.p (.int (one : Int)))) (.own (.p (.int (two : Int)))) (.own (.p (.int n))) (.own (.p f)) (.own (.p g)))) (Nx (fun δ => δ = slC B env near other (.own (.p (.int (one : Int)))) (.own (.p (.int (two : Int)))) (.own (.p (.int n))) (.own (.p f)) (.own (.p g))) (Fn.out fun d => d = .p .non ∨ ∃ (a c : Int) (f g n : P), d = .p (St.copy a f c g n).p)) (fun c _ => NE c ()) :=
      w_of (v := Fl.ret (D.p (St.copy two g one f (.int n)).p)) rfl (Or.inr ⟨two, one, g, f, .int n, rfl⟩)
    by_cases hm : bs[two].1 = "main"
    · rw [decide_eq_true hm] at km
      refine w_if ?_
      unfold gAnd
      rw [km, Rn.bind_ok, if_pos rfl]
      refine w_tb (w_op2 (draw_eq (n := 2) (by decide) (by omega) rfl fun j _ _ => w_of (v := R.own (D.p (P.int 1))) rfl (w_of (eq_ints j 1) ⟨_, rfl, ?_⟩)))
      by_cases hj : j = 1
      · rw [if_pos (decide_eq_true hj)]
        exact last
      · rw [if_neg (by simpa using hj)]
        exact nx_wp rfl
    · rw [decide_eq_false hm] at km
      exact if_ff (and_eqF km) (nx_wp rfl)
  rintro _ rfl
  exact w_of (v := Fl.ret (D.p (St.copy one f two g (.int n)).p)) rfl (Or.inr ⟨one, two, f, g, .int n, rfl⟩)
/-! drawn expressions -/
def ExT (lv : Int) (d : D) : Prop := ∃ e : Ex, (e.dep : Int) ≤ 4 - lv ∧ d = .p e.p
theorem rec_wp {B : D} {bs : List (Str × Int)} (b : BufOk B bs) {mh : Fn} {env : List P} {lv : Int} {δ : Sl} {T : D → Prop} {Q : R → Prop} (e0 : gVar 0 δ = .ok (.vw .orc)) (e1 : δ[1]? = some (.bor none B)) (e2 : gVar 2 δ = .ok (.vw (.lst env))) (e3 : gVar 3 δ = .ok (.own (.p (.int lv))))
    (h : Wp (mh [.orc, B, .lst env, .p (.int (lv + 1))]) T NE) (k : ∀ d, T d → Q (.own d)) : Wp (gFn 4 mh (DL.gCons (gVar 0) (DL.gCons (gVar 1) (DL.gCons (gVar 2) (DL.gCons (gOp2 fAdd (gVar 3) (gC (.int 1))) DL.gNil)))) δ) Q NE := by
  obtain ⟨r, h1, h2⟩ := b.gv δ 1 e1
  refine w_fn (rs := [.vw .orc, r, .vw (.lst env), .own (.p (.int (lv + 1)))]) (cons_eq e0 (cons_eq h1 (cons_eq e2 (cons_eq (op2_eq (x := .own (.p (.int lv))) (y := .own (.p (.int 1))) e3 rfl rfl) rfl)))) rfl ?_
  show Wp (mh [.orc, r.d, .lst env, .p (.int (lv + 1))]) _ _
  rw [h2]
  exact wp_imp h k fun _ _ z => z
theorem test_g {env : List P} (he : EnvOk env) {i j : Nat} {δ : Sl} {Q : R → Prop} (e0 : gVar i δ = .ok (.vw .orc)) (e2 : gVar j δ = .ok (.vw (.lst env))) (k : ∀ x : P, Q (.own (.p x))) : Wp (gFn 2 m__law_test (DL.gCons (gVar i) (DL.gCons (gVar j) DL.gNil)) δ) Q NE := by
  refine w_fn (rs := [.vw .orc, .vw (.lst env)]) (cons_eq e0 (cons_eq e2 rfl)) rfl (wp_imp (test_wp he) ?_ fun _ _ z => z)
  rintro d ⟨x, rfl⟩
  exact k x
theorem form_g {env : List P} (he : EnvOk env) {i j : Nat} {g : GE} {δ : Sl} {Q : R → Prop} {size : Int} (hs : 1 ≤ size ∧ size ≤ 1000) (e0 : gVar i δ = .ok (.vw .orc)) (e2 : gVar j δ = .ok (.vw (.lst env))) (e3 : g δ = .ok (.own (.p (.int size)))) (k : ∀ x : P, Q (.own (.p x))) : Wp (gFn 3 m__law_form (DL.gCons (gVar i) (DL.gCons (gVar j) (DL.gCons g DL.gNil))) δ) Q NE := by
  refine w_fn (rs := [.vw .orc, .vw (.lst env), .own (.p (.int size))]) (cons_eq e0 (cons_eq e2 (cons_eq e3 rfl))) rfl (wp_imp (form_wp he hs) ?_ fun _ _ z => z)
  rintro d ⟨x, rfl⟩
  exact k x
def slE (B : D) (env : List P) (lv m : Int) (s5 s6 s7 s8 s9 s10 s11 s12 s13 : S) : Sl := [.bor none .orc, .bor none B, .bor none (.lst env), .bor none (.p (.int lv)), .own (.p (.int m)), s5, s6, s7, s8, s9, s10, s11, s12, s13, .no]
theorem menu_eq {i : Nat} {δ : Sl} {m : Int} (e : gVar i δ = .ok (.own (.p (.int m)))) (j : Int) : gTB (gOp2 (fB (fEqB false)) (gVar i) (gC (.int j))) δ = .ok (decide (m = j)) :=
  tb_eq (op2_eq (x := .own (.p (.int m))) (y := .own (.p (.int j))) e rfl (eq_ints m j))
def kdl : List Str := ["add", "sub", "mul", "max", "min", "less", "equal", "neg", "clamp", "shift", "where", "add"]
theorem ex_list {T : Ex → Prop} : ∀ zs : List P, (∀ z ∈ zs, ∃ e : Ex, T e ∧ z = e.p) → ∃ es : List Ex, zs = es.map Ex.p ∧ ∀ e ∈ es, T e
  | [], _ => ⟨[], rfl, by simp⟩
  | z :: zs, h => by
    obtain ⟨e, h1, rfl⟩ := h z (by simp)
    obtain ⟨es, rfl, h2⟩ := ex_list zs fun y hy => h y (by simp [hy])
    refine ⟨e :: es, rfl, fun y hy => ?_⟩
    rcases List.mem_cons.mp hy with rfl | hy
    · exact h1
    · exact h2 y hy
theorem apply_wp {B : D} {bs : List (Str × Int)} (b : BufOk B bs) {env : List P} {mh : Fn} {lv m : Int} (ih : Wp (mh [.orc, B, .lst env, .p (.int (lv + 1))]) (ExT (lv + 1)) NE) {s5 s6 : S} {E : Str → Sl → Prop} (hE : E = fun _ _ => False) :
    Wp (gSeq (gSet 10 (DL.gTup (DL.gCons (gC (.str "add")) (DL.gCons (gC (.str "sub")) (DL.gCons (gC (.str "mul")) (DL.gCons (gC (.str "max")) (DL.gCons (gC (.str "min")) (DL.gCons (gC (.str "less")) (DL.gCons (gC (.str "equal")) (DL.gCons (gC (.str "neg")) (DL.gCons (gC (.str "clamp")) (DL.gCons (gC (.str "shift")) (DL.gCons (gC (.str "where")) (DL.gCons (gC (.str "add")) DL.gNil))))))))))))))
  (gSeq (gSet 11 (gOp2 fIx (gVar 10) (gFn 2 m__law_take (DL.gCons (gVar 0) (DL.gCons (gC (.int 12)) DL.gNil)))))
  (gSeq (gSet 12 (gIf (gTB (gOp2 (fB (fIn false)) (gVar 11) (DL.gTup (DL.gCons (gC (.str "neg")) (DL.gCons (gC (.str "clamp")) (DL.gCons (gC (.str "shift")) DL.gNil)))))) (gC (.int 1)) (gIf (gTB (gOp2 (fB (fEqB false)) (gVar 11) (gC (.str "where")))) (gC (.int 3)) (gC (.int 2)))))
  (gSeq (gSet 13 (gCall fTuple (DL.gCons (gLc (.one 14) [14] (gRangeI fRange1 (DL.gCons (gVar 12) DL.gNil)) gYes (gFn 4 mh (DL.gCons (gVar 0) (DL.gCons (gVar 1) (DL.gCons (gVar 2) (DL.gCons (gOp2 fAdd (gVar 3) (gC (.int 1))) DL.gNil)))))) DL.gNil)))
  (gRet (DL.gTup (DL.gCons (gC (.str "apply")) (DL.gCons (gVar 11) (DL.gCons (gVar 13) (DL.gCons (gFn 2 m__law_point_info (DL.gCons (gVar 0) (DL.gCons (gVar 11) DL.gNil))) DL.gNil)))))))))
  (slE B env lv m s5 s6 .no .no .no .no .no .no .no)) (Fn.out (ExT lv)) E := by
  subst hE
  refine seq_ok (δ' := slE B env lv m s5 s6 .no .no .no (.own (.p (.tup (kdl.map P.str)))) .no .no .no) rfl ?_
  refine seq_wp (fun δ => ∃ kd : Str, δ = slE B env lv m s5 s6 .no .no .no (.own (.p (.tup (kdl.map P.str)))) (.own (.p (.str kd))) .no .no) ?_ ?_
  · refine w_set (w_op2 (w_of (v := R.own (D.p (.tup (kdl.map P.str)))) rfl (draw_eq (n := 12) (by decide) (by omega) rfl fun j j0 j1 => ?_)))
    obtain ⟨k, rfl⟩ := Int.eq_ofNat_of_zero_le j0
    have hk : k < kdl.length := by
      have : kdl.length = 12 := rfl
      omega
    have e2 : (kdl.map P.str)[k]? = some (P.str kdl[k]) := by simp [List.getElem?_eq_getElem hk]
    have hi : fIx (.p (.tup (kdl.map P.str))) (.p (.int (k : Int))) = .ok (.own (.p (.str kdl[k]))) := ix_t (at_nat e2)
    exact w_of hi ⟨_, rfl, kdl[k], rfl⟩
  rintro _ ⟨kd, rfl⟩
  refine seq_wp (fun δ => ∃ n : Nat, 1 ≤ n ∧ n ≤ 3 ∧ δ = slE B env lv m s5 s6 .no .no .no (.own (.p (.tup (kdl.map P.str)))) (.own (.p (.str kd))) (.own (.p (.int (n : Int)))) .no) ?_ ?_
  · have c1 : gTB (gOp2 (fB (fIn false)) (gVar 11) (DL.gTup (DL.gCons (gC (.str "neg")) (DL.gCons (gC (.str "clamp")) (DL.gCons (gC (.str "shift")) DL.gNil))))) (slE B env lv m s5 s6 .no .no .no (.own (.p (.tup (kdl.map P.str)))) (.own (.p (.str kd))) .no .no) = .ok (inP (.str kd) [.str "neg", .str "clamp", .str "shift"]) := tb_eq (op2_eq (x := .own (.p (.str kd))) (y := .own (.p (.tup [.str "neg", .str "clamp", .str "shift"]))) rfl rfl rfl)
    have c2 : gTB (gOp2 (fB (fEqB false)) (gVar 11) (gC (.str "where"))) (slE B env lv m s5 s6 .no .no .no (.own (.p (.tup (kdl.map P.str)))) (.own (.p (.str kd))) .no .no) = .ok (decide (kd = "where")) := tb_eq (op2_eq (x := .own (.p (.str kd))) (y := .own (.p (.str "where"))) rfl rfl (fB_eq (eq_strF _ _)))
    refine w_set (w_gif (w_of c1 ?_))
    cases inP (.str kd) [.str "neg", .str "clamp", .str "shift"] with
    | true => exact w_of (v := R.own (D.p (P.int 1))) rfl ⟨_, rfl, 1, by decide, by decide, rfl⟩
    | false =>
      rw [if_neg (by decide)]
      refine w_gif (w_of c2 ?_)
      by_cases h : kd = "where"
      · rw [if_pos (decide_eq_true h)]
        exact w_of (v := R.own (D.p (P.int 3))) rfl ⟨_, rfl, 3, by decide, by decide, rfl⟩
      · rw [if_neg (by simpa using h)]
        exact w_of (v := R.own (D.p (P.int 2))) rfl ⟨_, rfl, 2, by decide, by decide, rfl⟩
  rintro _ ⟨n, n0, n1, rfl⟩
  refine seq_wp (fun δ => ∃ es : List Ex, es.length = n ∧ (∀ e ∈ es, (e.dep : Int) ≤ 4 - (lv + 1)) ∧ δ = slE B env lv m s5 s6 .no .no .no (.own (.p (.tup (kdl.map P.str)))) (.own (.p (.str kd))) (.own (.p (.int (n : Int)))) (.own (.p (.tup (es.map Ex.p))))) ?_ ?_
  · refine w_set (w_call (w_cons (glcW (T := fun y => ∃ e : Ex, (e.dep : Int) ≤ 4 - (lv + 1) ∧ y = e.p) (xs := rangeP 0 (n : Int)) (gRange_ok (rs := [.own (.p (.int (n : Int)))]) rfl (range1_ok (by omega) (by omega))) (fun x hx => ⟨_, rfl, ?_⟩) (by rw [ks_range]; simp; omega) fun zs hl hz => w_nil ?_)))
    · refine rec_wp b rfl rfl rfl rfl ih ?_
      rintro d ⟨e, h1, rfl⟩
      exact ⟨e.p, rfl, e, h1, rfl⟩
    · obtain ⟨es, rfl, h2⟩ := ex_list zs hz
      rw [ks_range] at hl
      exact w_of (v := R.own (D.p (.tup (es.map Ex.p)))) rfl ⟨_, rfl, es, by simpa using hl, h2, rfl⟩
  rintro _ ⟨es, el, eh, rfl⟩
  refine w_ret (w_tup (w_cons (w_of (v := R.own (D.p (P.str "apply"))) rfl (w_cons (w_of (v := R.own (D.p (P.str kd))) rfl (w_cons (w_of (v := R.own (D.p (.tup (es.map Ex.p)))) rfl (w_cons (w_fn (rs := [.vw .orc, .own (.p (.str kd))]) rfl rfl (wp_imp (info_wp kd) ?_ fun _ _ z => z))))))))))
  rintro d ⟨i, rfl⟩
  refine w_nil ⟨_, rfl, by simp, _, rfl, ?_⟩
  match es, el, eh with
  | [a], _, eh =>
    have := eh a (by simp)
    exact ⟨.app1 (.str kd) i a, by simp only [Ex.dep]; omega, rfl⟩
  | [a, b], _, eh =>
    have h1 := eh a (by simp)
    have h2 := eh b (by simp)
    exact ⟨.app2 (.str kd) i a b, by simp only [Ex.dep]; omega, rfl⟩
  | [a, b, c], _, eh =>
    have h1 := eh a (by simp)
    have h2 := eh b (by simp)
    have h3 := eh c (by simp)
    exact ⟨.app3 (.str kd) i a b c, by simp only [Ex.dep]; omega, rfl⟩
  | [], el, _ => simp at el; omega
  | a :: b :: c :: d :: es, el, _ => simp at el; omega
theorem expr_wp {B : D} {bs : List (Str × Int)} (b : BufOk B bs) {env : List P} (he : EnvOk env) : ∀ (n : Nat) (lv : Int), 1 ≤ lv → lv ≤ 3 → 4 ≤ (n : Int) + lv → Wp (m__law_expr_r n [.orc, B, .lst env, .p (.int lv)]) (ExT lv) NE
  | 0, lv, h1, h3, h4 => by omega
  | n + 1, lv, h1, h3, h4 => by
    have IH : lv < 3 → Wp (m__law_expr_r n [.orc, B, .lst env, .p (.int (lv + 1))]) (ExT (lv + 1)) NE := fun h => expr_wp b he n (lv + 1) (by omega) (by omega) (by omega)
    show Wp (fnD 15 (g__law_expr (m__law_expr_r n)) _) _ _
    generalize m__law_expr_r n = mh at IH ⊢
    have n1 := b.n1
    have n0 := b.n0
    refine fn_wp ?_
    unfold g__law_expr
    refine seq_wp (fun δ => ∃ m : Int, 0 ≤ m ∧ m < 9 ∧ (m < 4 ∨ lv < 3) ∧ δ = slE B env lv m .no .no .no .no .no .no .no .no .no) ?_ ?_
    · refine w_set (w_gif (w_of (v := decide (lv < 3)) rfl ?_))
      by_cases h : lv < 3
      · rw [if_pos (decide_eq_true h)]
        exact draw_eq (n := 9) (by decide) (by omega) rfl fun m m0 m1 => ⟨_, rfl, m, m0, m1, .inr h, rfl⟩
      · rw [if_neg (by simpa using h)]
        exact draw_eq (n := 4) (by decide) (by omega) rfl fun m m0 m1 => ⟨_, rfl, m, m0, by omega, .inl m1, rfl⟩
    rintro _ ⟨m, m0, m9, ml, rfl⟩
    have c : ∀ (s5 s6 : S) (j : Int), gTB (gOp2 (fB (fEqB false)) (gVar 4) (gC (.int j))) (slE B env lv m s5 s6 .no .no .no .no .no .no .no) = .ok (decide (m = j)) := fun s5 s6 j => menu_eq rfl j
    by_cases c0 : m = 0
    · refine seq_wp (fun _ => False) (if_tt ((c .no .no 0).trans (by rw [decide_eq_true c0])) ?_) (fun _ z => z.elim)
      refine w_ret (w_tup (w_cons (w_of (v := R.own (D.p (P.str "number"))) rfl (w_cons (w_fn (rs := [.vw .orc, .own (.p (.int 9))]) rfl rfl (wp_imp (signed_wp 9 (by decide) (by omega)) ?_ fun _ _ z => z))))))
      rintro d ⟨i, _, _, rfl⟩
      exact w_nil ⟨_, rfl, by simp, _, rfl, .num (.int i), by simp only [Ex.dep]; omega, rfl⟩
    refine seq_ok (if_eqF ((c .no .no 0).trans (by rw [decide_eq_false c0])) rfl) ?_
    by_cases c1 : m = 1
    · refine seq_wp (fun _ => False) (if_tt ((c .no .no 1).trans (by rw [decide_eq_true c1])) ?_) (fun _ z => z.elim)
      refine w_ret (w_tup (w_cons (w_of (v := R.own (D.p (P.str "index"))) rfl (w_cons (test_g he rfl rfl fun x => w_nil ⟨_, rfl, by simp, _, rfl, .idx x, by simp only [Ex.dep]; omega, rfl⟩)))))
    refine seq_ok (if_eqF ((c .no .no 1).trans (by rw [decide_eq_false c1])) rfl) ?_
    refine seq_wp (fun δ => ∃ k : Nat, k < bs.length ∧ δ = slE B env lv m (.own (.p (.int (k : Int)))) .no .no .no .no .no .no .no .no) ?_ ?_
    · refine w_set (draw_eq (n := (bs.length : Int)) (by omega) (by omega) (cons_eq rfl (cons_eq (b.lenG rfl) rfl)) fun j j0 j1 => ?_)
      obtain ⟨k, rfl⟩ := Int.eq_ofNat_of_zero_le j0
      exact ⟨_, rfl, k, by omega, rfl⟩
    rintro _ ⟨k, hk, rfl⟩
    have sz := b.sz bs[k] (List.getElem_mem hk)
    refine seq_ok (set_eq (b.size rfl hk (r := .own (.p (.int (k : Int)))) rfl rfl)) ?_
    generalize bs[k].2 = sz0 at sz ⊢
    show Wp (gSeq _ _ (slE B env lv m (.own (.p (.int (k : Int)))) (.own (.p (.int sz0))) .no .no .no .no .no .no .no)) _ _
    by_cases c5 : m < 5
    · refine seq_wp (fun _ => False) (if_tt (t := gTB (gOp2 (fB fLt) (gVar 4) (gC (.int 5)))) ((show _ = Rn.ok (decide (m < 5)) from rfl).trans (by rw [decide_eq_true c5])) ?_) (fun _ z => z.elim)
      refine w_ret (w_tup (w_cons (w_of (v := R.own (D.p (P.str "load"))) rfl (w_cons (w_of (v := R.own (D.p (P.int (k : Int)))) rfl (w_cons (form_g he (size := sz0) (by omega) rfl rfl rfl fun x => w_nil ⟨_, rfl, by simp, _, rfl, .load k x, by simp only [Ex.dep]; omega, rfl⟩)))))))
    refine seq_ok (if_eqF (t := gTB (gOp2 (fB fLt) (gVar 4) (gC (.int 5)))) ((show _ = Rn.ok (decide (m < 5)) from rfl).trans (by rw [decide_eq_false c5])) rfl) ?_
    have ih := IH (by omega)
    have l3 : lv < 3 := by omega
    by_cases c6 : m = 5
    · refine seq_wp (fun _ => False) (if_tt ((c _ _ 5).trans (by rw [decide_eq_true c6])) ?_) (fun _ z => z.elim)
      refine w_ret (w_tup (w_cons (w_of (v := R.own (D.p (P.str "guard"))) rfl (w_cons (test_g he rfl rfl fun t => w_cons (rec_wp b rfl rfl rfl rfl ih ?_))))))
      rintro d ⟨e1, d1, rfl⟩
      refine w_cons (rec_wp b rfl rfl rfl rfl ih ?_)
      rintro d ⟨e2, d2, rfl⟩
      exact w_nil ⟨_, rfl, by simp, _, rfl, .guard t e1 e2, by simp only [Ex.dep]; omega, rfl⟩
    refine seq_ok (if_eqF ((c _ _ 5).trans (by rw [decide_eq_false c6])) rfl) ?_
    by_cases c7 : m = 6
    · refine seq_wp (fun _ => False) (if_tt ((c _ _ 6).trans (by rw [decide_eq_true c7])) ?_) (fun _ z => z.elim)
      refine seq_wp (fun δ => ∃ q : Int, 1 ≤ q ∧ q ≤ sz0 ∧ q ≤ 4 ∧ δ = slE B env lv m (.own (.p (.int (k : Int)))) (.own (.p (.int sz0))) (.own (.p (.int q))) .no .no .no .no .no .no) ?_ ?_
      · have hm : gCall fMinL (DL.gCons (gC (.int 4)) (DL.gCons (gVar 6) DL.gNil)) (slE B env lv m (.own (.p (.int (k : Int)))) (.own (.p (.int sz0))) .no .no .no .no .no .no .no) = .ok (.own (.p (.int (if sz0 < 4 then sz0 else 4)))) := rfl
        refine w_set (w_op2 (w_of (v := R.own (D.p (P.int 1))) rfl (draw_eq (n := if sz0 < 4 then sz0 else 4) (by split <;> omega) (by split <;> omega) (cons_eq rfl (cons_eq hm rfl)) fun j j0 j1 => ?_)))
        exact w_of (v := R.own (D.p (P.int (1 + j)))) rfl ⟨_, rfl, 1 + j, by omega, by split at j1 <;> omega, by split at j1 <;> omega, rfl⟩
      rintro _ ⟨q, q0, q1, q4, rfl⟩
      refine seq_wp (fun δ => ∃ s : Int, 0 ≤ s ∧ s ≤ 2 ∧ s * (q - 1) < sz0 ∧ δ = slE B env lv m (.own (.p (.int (k : Int)))) (.own (.p (.int sz0))) (.own (.p (.int q))) (.own (.p (.int s))) .no .no .no .no .no) ?_ ?_
      · have g2 : gOp2 fMul (gC (.int 2)) (gOp2 iSub (gVar 7) (gC (.int 1))) (slE B env lv m (.own (.p (.int (k : Int)))) (.own (.p (.int sz0))) (.own (.p (.int q))) .no .no .no .no .no .no) = .ok (.own (.p (.int (2 * (q - 1))))) := op2_eq (x := .own (.p (.int 2))) (y := .own (.p (.int (q - 1)))) rfl rfl (mul_s (by omega) (by omega))
        refine w_set (w_gif (w_of (v := decide (2 * (q - 1) < sz0)) (tb_eq (op2_eq (x := .own (.p (.int (2 * (q - 1))))) (y := .own (.p (.int sz0))) g2 rfl rfl)) ?_))
        by_cases h : 2 * (q - 1) < sz0
        · rw [if_pos (decide_eq_true h)]
          refine w_op2 (w_of (v := R.own (D.p (.tup [.int 1, .int 0, .int 2]))) rfl (draw_eq (n := 3) (by decide) (by omega) rfl fun j j0 j1 => ?_))
          rcases (by omega : j = 0 ∨ j = 1 ∨ j = 2) with rfl | rfl | rfl
          · exact w_of (v := R.own (D.p (P.int 1))) rfl ⟨_, rfl, 1, by decide, by decide, by omega, rfl⟩
          · exact w_of (v := R.own (D.p (P.int 0))) rfl ⟨_, rfl, 0, by decide, by decide, by omega, rfl⟩
          · exact w_of (v := R.own (D.p (P.int 2))) rfl ⟨_, rfl, 2, by decide, by decide, by omega, rfl⟩
        · rw [if_neg (by simpa using h)]
          exact w_of (v := R.own (D.p (P.int 1))) rfl ⟨_, rfl, 1, by decide, by decide, by omega, rfl⟩
      rintro _ ⟨s, s0, s2, sq, rfl⟩
      have sq0 : 0 ≤ s * (q - 1) := Int.mul_nonneg s0 (by omega)
      refine seq_wp (fun δ => ∃ f : P, δ = slE B env lv m (.own (.p (.int (k : Int)))) (.own (.p (.int sz0))) (.own (.p (.int q))) (.own (.p (.int s))) (.own (.p f)) .no .no .no .no) ?_ ?_
      · refine w_set (form_g he (size := sz0 - s * (q - 1)) (by omega) rfl rfl (op2_eq (x := .own (.p (.int sz0))) (y := .own (.p (.int (s * (q - 1))))) rfl (op2_eq (x := .own (.p (.int s))) (y := .own (.p (.int (q - 1)))) rfl rfl (mul_s (by omega) (by omega))) rfl) fun x => ⟨_, rfl, x, rfl⟩)
      rintro _ ⟨f, rfl⟩
      refine w_ret (w_tup (w_cons (w_of (v := R.own (D.p (P.str "pick"))) rfl (w_cons (w_of (v := R.own (D.p (P.int (k : Int)))) rfl (w_cons (w_of (v := R.own (D.p f)) rfl (w_cons (w_of (v := R.own (D.p (P.int s))) rfl (w_cons (w_of (v := R.own (D.p (P.int q))) rfl (w_cons (rec_wp b rfl rfl rfl rfl ih ?_)))))))))))))
      rintro d ⟨e, d1, rfl⟩
      exact w_nil ⟨_, rfl, by simp, _, rfl, .pick k f (.int s) (.int q) e, by simp only [Ex.dep]; omega, rfl⟩
    refine seq_ok (if_eqF ((c _ _ 6).trans (by rw [decide_eq_false c7])) rfl) ?_
    exact apply_wp b ih rfl
/-! drawn statements -/
def StT (dp : Int) (d : D) : Prop := ∃ s : St, (s.dep : Int) ≤ 4 - dp ∧ s.good ∧ d = .p s.p
def BdT (dp : Int) (n : Nat) (d : D) : Prop := ∃ ss : List St, ss.length = n ∧ (∀ s ∈ ss, (s.dep : Int) ≤ 4 - dp ∧ s.good) ∧ d = .p (.tup (ss.map St.p))
theorem st_list {T : St → Prop} : ∀ zs : List P, (∀ z ∈ zs, ∃ e : St, T e ∧ z = e.p) → ∃ es : List St, zs = es.map St.p ∧ ∀ e ∈ es, T e
  | [], _ => ⟨[], rfl, by simp⟩
  | z :: zs, h => by
    obtain ⟨e, h1, rfl⟩ := h z (by simp)
    obtain ⟨es, rfl, h2⟩ := st_list zs fun y hy => h y (by simp [hy])
    refine ⟨e :: es, rfl, fun y hy => ?_⟩
    rcases List.mem_cons.mp hy with rfl | hy
    · exact h1
    · exact h2 y hy
theorem body_wp {B : D} {bs : List (Str × Int)} (b : BufOk B bs) {mh : Fn} {env : List P} {dp : Int} (n : Nat) (hn : n ≤ 100) (h : Wp (mh [.orc, B, .lst env, .p (.int dp)]) (StT dp) NE) : Wp (m__law_body_r mh [.orc, B, .lst env, .p (.int dp), .p (.int (n : Int))]) (BdT dp n) NE := by
  refine fn_wp ?_
  unfold g__law_body
  refine w_ret (w_call (w_cons (glcW (T := fun y => ∃ s : St, ((s.dep : Int) ≤ 4 - dp ∧ s.good) ∧ y = s.p) (xs := rangeP 0 (n : Int)) (gRange_ok (rs := [.own (.p (.int (n : Int)))]) rfl (range1_ok (by omega) (by omega))) (fun x hx => ⟨_, rfl, ?_⟩) (by rw [ks_range]; simp; omega) fun zs hl hz => w_nil ?_)))
  · obtain ⟨r, h1, h2⟩ := b.gv [.bor none .orc, .bor none B, .bor none (.lst env), .bor none (.p (.int dp)), .bor none (.p (.int (n : Int))), .own (.p x)] 1 rfl
    refine w_fn (rs := [.vw .orc, r, .vw (.lst env), .own (.p (.int dp))]) (cons_eq rfl (cons_eq h1 rfl)) rfl ?_
    show Wp (mh [.orc, r.d, .lst env, .p (.int dp)]) _ _
    rw [h2]
    refine wp_imp h ?_ fun _ _ z => z
    rintro d ⟨s, s1, s2, rfl⟩
    exact ⟨s.p, rfl, s, ⟨s1, s2⟩, rfl⟩
  · obtain ⟨es, rfl, h2⟩ := st_list zs hz
    rw [ks_range] at hl
    exact w_of (v := R.own (D.p (.tup (es.map St.p)))) rfl ⟨_, rfl, es, by simpa using hl, h2, rfl⟩
theorem w_fz {ga : GE} {δ : Sl} {Q : R → Prop} (h : Wp (ga δ) (fun r => ∃ ns, r = .own (.lst (pI ns)) ∧ Q (.own (.p (.fl ns)))) NE) : Wp (gFz ga δ) Q NE := by
  unfold gFz
  refine wp_bind.mpr (wp_imp h ?_ fun _ _ z => z)
  rintro r ⟨ns, rfl, q⟩
  show Wp (match intsP (pI ns) with | some ns => Rn.ok (R.own (.p (.fl ns))) | none => Rn.bad) Q NE
  rw [show intsP (pI ns) = some ns from intsP_of _]
  exact wp_ok.mpr q
theorem w_lst {gs : GA} {δ : Sl} {Q : R → Prop} {E : Str → Unit → Prop} (h : Wp (gs δ) (fun rs => ∃ xs, plains rs = some xs ∧ rs.length ≤ 1000 ∧ Q (.own (.lst xs))) E) : Wp (DL.gLst gs δ) Q E := by
  unfold DL.gLst
  refine wp_bind.mpr (wp_imp h ?_ fun _ _ z => z)
  rintro rs ⟨xs, e, hl, q⟩
  rw [if_pos hl, e]
  exact wp_ok.mpr q
theorem int_list {T : Int → Prop} : ∀ zs : List P, (∀ z ∈ zs, ∃ e : Int, T e ∧ z = .int e) → ∃ es : List Int, zs = pI es ∧ ∀ e ∈ es, T e
  | [], _ => ⟨[], rfl, by simp⟩
  | z :: zs, h => by
    obtain ⟨e, h1, rfl⟩ := h z (by simp)
    obtain ⟨es, rfl, h2⟩ := int_list zs fun y hy => h y (by simp [hy])
    refine ⟨e :: es, rfl, fun y hy => ?_⟩
    rcases List.mem_cons.mp hy with rfl | hy
    · exact h1
    · exact h2 y hy
def slS (B : D) (env : List P) (dp m : Int) (s5 s6 s7 s8 s9 s10 s11 s12 : S) : Sl := [.bor none .orc, .bor none B, .bor none (.lst env), .bor none (.p (.int dp)), .own (.p (.int m)), s5, s6, s7, s8, s9, s10, s11, s12]
theorem bodyG {B : D} {bs : List (Str × Int)} (b : BufOk B bs) {mh : Fn} {env : List P} {dp : Int} {δ : Sl} {j : Nat} {Q : R → Prop} (e0 : gVar 0 δ = .ok (.vw .orc)) (e1 : δ[1]? = some (.bor none B)) (e2 : gVar j δ = .ok (.vw (.lst env))) (e3 : gVar 3 δ = .ok (.own (.p (.int dp))))
    (h : Wp (mh [.orc, B, .lst env, .p (.int (dp + 1))]) (StT (dp + 1)) NE) (k : ∀ (n : Nat) (d : D), 1 ≤ n → n ≤ 2 → BdT (dp + 1) n d → Q (.own d)) :
    Wp (gFn 5 (m__law_body_r mh) (DL.gCons (gVar 0) (DL.gCons (gVar 1) (DL.gCons (gVar j) (DL.gCons (gOp2 fAdd (gVar 3) (gC (.int 1))) (DL.gCons (gOp2 fAdd (gC (.int 1)) (gFn 2 m__law_take (DL.gCons (gVar 0) (DL.gCons (gC (.int 2)) DL.gNil)))) DL.gNil))))) δ) Q NE := by
  obtain ⟨r, h1, h2⟩ := b.gv δ 1 e1
  refine w_fnW (w_cons (w_of e0 (w_cons (w_of h1 (w_cons (w_of e2 (w_cons (w_of (op2_eq (x := .own (.p (.int dp))) (y := .own (.p (.int 1))) e3 rfl rfl) (w_cons (w_op2 (w_of (v := R.own (D.p (P.int 1))) rfl (draw_eq (n := 2) (by decide) (by omega) (cons_eq e0 rfl) fun i i0 i1 => ?_))))))))))))
  obtain ⟨q, rfl⟩ := Int.eq_ofNat_of_zero_le i0
  refine w_of (v := R.own (D.p (P.int (1 + (q : Int))))) rfl (w_nil ⟨rfl, ?_⟩)
  show Wp (m__law_body_r mh [.orc, r.d, .lst env, .p (.int (dp + 1)), .p (.int (1 + (q : Int)))]) _ _
  rw [h2, show (1 + (q : Int)) = ((1 + q : Nat) : Int) from by omega]
  exact wp_imp (body_wp b (1 + q) (by omega) h) (fun d w => k (1 + q) d (by omega) (by omega) w) fun _ _ z => z
theorem wrap_st {dp : Int} {n : Nat} {d : D} (h1 : 1 ≤ n) (h2 : n ≤ 2) (h : BdT (dp + 1) n d) (w : Hd) : ∃ x : P, d = .p x ∧ StT dp (.p (w.wrap x)) := by
  obtain ⟨ss, hl, ha, rfl⟩ := h
  refine ⟨_, rfl, ?_⟩
  match ss, hl, ha with
  | [a], _, ha =>
    have := ha a (by simp)
    exact ⟨.one w a, by simp only [St.dep]; omega, this.2, rfl⟩
  | [a, c], _, ha =>
    have q1 := ha a (by simp)
    have q2 := ha c (by simp)
    exact ⟨.two w a c, by simp only [St.dep]; omega, ⟨q1.2, q2.2⟩, rfl⟩
  | [], hl, _ => simp at hl; omega
  | a :: c :: e :: ss, hl, _ => simp at hl; omega
theorem stmt_wp {B : D} {bs : List (Str × Int)} (b : BufOk B bs) : ∀ (n : Nat) (dp : Int) (env : List P), 0 ≤ dp → dp ≤ 3 → 4 ≤ (n : Int) + dp → (env.length : Int) ≤ dp → (∀ x ∈ env, EnvX x) → Wp (m__law_statement_r n [.orc, B, .lst env, .p (.int dp)]) (StT dp) NE
  | 0, dp, env, h1, h3, h4, _, _ => by omega
  | n + 1, dp, env, h1, h3, h4, hl, hx => by
    have IH : dp < 3 → ∀ env', (env'.length : Int) ≤ dp + 1 → (∀ x ∈ env', EnvX x) → Wp (m__law_statement_r n [.orc, B, .lst env', .p (.int (dp + 1))]) (StT (dp + 1)) NE := fun h env' hl' hx' => stmt_wp b n (dp + 1) env' (by omega) (by omega) (by omega) hl' hx'
    have he : EnvOk env := ⟨by omega, hx⟩
    show Wp (fnD 13 (g__law_statement (m__law_statement_r n)) _) _ _
    generalize m__law_statement_r n = mh at IH ⊢
    have n1 := b.n1
    have n0 := b.n0
    refine fn_wp ?_
    unfold g__law_statement
    refine seq_wp (fun δ => ∃ m : Int, 0 ≤ m ∧ m < 6 ∧ δ = slS B env dp m .no .no .no .no .no .no .no .no) ?_ ?_
    · exact w_set (draw_eq (n := 6) (by decide) (by omega) rfl fun m m0 m1 => ⟨_, rfl, m, m0, m1, rfl⟩)
    rintro _ ⟨m, m0, m6, rfl⟩
    have l3 : gTB (gOp2 (fB fLt) (gVar 3) (gC (.int 3))) (slS B env dp m .no .no .no .no .no .no .no .no) = .ok (decide (dp < 3)) := rfl
    have lm : gTB (gOp2 (fB fLt) (gVar 4) (gC (.int 3))) (slS B env dp m .no .no .no .no .no .no .no .no) = .ok (decide (m < 3)) := rfl
    have cm : ∀ j : Int, gTB (gOp2 (fB (fEqB false)) (gVar 4) (gC (.int j))) (slS B env dp m .no .no .no .no .no .no .no .no) = .ok (decide (m = j)) := fun j => menu_eq rfl j
    by_cases c1 : m < 3 ∧ dp < 3
    · rw [decide_eq_true c1.1] at lm
      rw [decide_eq_true c1.2] at l3
      refine seq_wp (fun _ => False) (if_tt (and_eqT lm l3) ?_) (fun _ z => z.elim)
      refine seq_wp (fun δ => ∃ v : Int, δ = slS B env dp m (.own (.p (.int v))) .no .no .no .no .no .no .no) ?_ ?_
      · have g3 : gOp2 fMul (gC (.int 3)) (gVar 3) (slS B env dp m .no .no .no .no .no .no .no .no) = .ok (.own (.p (.int (3 * dp)))) := op2_eq (x := .own (.p (.int 3))) (y := .own (.p (.int dp))) rfl rfl (mul_s (by omega) (by omega))
        refine w_set (w_op2 (w_of g3 (draw_eq (n := 3) (by decide) (by omega) rfl fun j _ _ => ?_)))
        exact w_of (v := R.own (D.p (P.int (3 * dp + j)))) rfl ⟨_, rfl, _, rfl⟩
      rintro _ ⟨v, rfl⟩
      refine seq_wp (fun δ => ∃ c : Nat, 1 ≤ c ∧ c ≤ 3 ∧ δ = slS B env dp m (.own (.p (.int v))) (.own (.p (.int (c : Int)))) .no .no .no .no .no .no) ?_ ?_
      · refine w_set (w_op2 (w_of (v := R.own (D.p (P.int 1))) rfl (draw_eq (n := 3) (by decide) (by omega) rfl fun j j0 j1 => ?_)))
        obtain ⟨q, rfl⟩ := Int.eq_ofNat_of_zero_le j0
        refine w_of (v := R.own (D.p (P.int (1 + (q : Int))))) rfl ⟨_, rfl, 1 + q, by omega, by omega, ?_⟩
        rw [show (1 + (q : Int)) = ((1 + q : Nat) : Int) from by omega]
        rfl
      rintro _ ⟨c, cc0, cc1, rfl⟩
      refine seq_wp (fun δ => ∃ s : Int, -2 ≤ s ∧ s ≤ 2 ∧ δ = slS B env dp m (.own (.p (.int v))) (.own (.p (.int (c : Int)))) (.own (.p (.int s))) .no .no .no .no .no) ?_ ?_
      · refine set_fn (rs := [.vw .orc, .own (.p (.int 2))]) rfl rfl (signed_wp 2 (by decide) (by omega)) ?_
        rintro d ⟨i, i0, i1, rfl⟩
        exact ⟨i, i0, i1, rfl⟩
      rintro _ ⟨s, s0, s1, rfl⟩
      refine seq_wp (fun δ => ∃ f : Int, -2 ≤ f ∧ f ≤ 2 ∧ δ = slS B env dp m (.own (.p (.int v))) (.own (.p (.int (c : Int)))) (.own (.p (.int s))) (.own (.p (.int f))) .no .no .no .no) ?_ ?_
      · exact w_set (draw_fac rfl fun f f0 f1 => ⟨_, rfl, f, f0, f1, rfl⟩)
      rintro _ ⟨f, f0, f1, rfl⟩
      refine seq_wp (fun δ => ∃ ns : List Int, ns ≠ [] ∧ ns.length ≤ 100 ∧ (∀ n ∈ ns, -100 ≤ n ∧ n ≤ 100) ∧ δ = slS B env dp m (.own (.p (.int v))) (.own (.p (.int (c : Int)))) (.own (.p (.int s))) (.own (.p (.int f))) (.own (.lst (env ++ [P.tup [.int v, .fl ns]]))) .no .no .no) ?_ ?_
      · refine w_set (w_op2 (w_of (v := R.vw (D.lst env)) rfl (w_lst (w_cons (w_tup (w_cons (w_of (v := R.own (D.p (P.int v))) rfl (w_cons (w_fz (glcW (T := fun y => ∃ n : Int, (-100 ≤ n ∧ n ≤ 100) ∧ y = .int n) (xs := rangeP 0 (c : Int)) (gRange_ok (rs := [.own (.p (.int (c : Int)))]) rfl (range1_ok (by omega) (by omega))) (fun x hx => ⟨_, rfl, ?_⟩) (by rw [ks_range]; simp; omega) fun zs hl hz => ?_))))))))))
        · rw [ks_range] at hx
          obtain ⟨t, ht, rfl⟩ := List.mem_map.mp hx
          have ht := List.mem_range.mp ht
          have gm : fMul (.p (.int f)) (.p (.int (t : Int))) = .ok (.own (.p (.int (f * t)))) := mul_s (by omega) (by omega)
          have hb : -6 ≤ f * t ∧ f * t ≤ 6 := by
            rcases (by omega : t = 0 ∨ t = 1 ∨ t = 2) with rfl | rfl | rfl <;> simp <;> omega
          refine w_of (v := R.own (D.p (P.int (s + f * t)))) (op2_eq (x := .own (.p (.int s))) (y := .own (.p (.int (f * t)))) rfl (op2_eq (x := .own (.p (.int f))) (y := .own (.p (.int (t : Int)))) rfl rfl gm) rfl) ⟨_, rfl, s + f * t, by omega, rfl⟩
        · obtain ⟨ns, rfl, h2⟩ := int_list zs hz
          rw [ks_range] at hl
          have hl : ns.length = c := by simpa [pI] using hl
          refine ⟨ns, rfl, w_nil ⟨_, rfl, by simp, w_nil ⟨_, rfl, by simp, ?_⟩⟩⟩
          exact w_of (add_l (by simp; omega)) ⟨_, rfl, ns, by intro z; rw [z] at hl; simp at hl; omega, by omega, h2, rfl⟩
      rintro _ ⟨ns, h0, hl2, hb, rfl⟩
      have ih := IH c1.2 (env ++ [P.tup [.int v, .fl ns]]) (by simp; omega) (fun x hx' => by
        rcases List.mem_append.mp hx' with q | q
        · exact hx x q
        · obtain rfl := List.mem_singleton.mp q
          exact ⟨v, ns, rfl, h0, hl2, hb⟩)
      refine w_ret (w_tup (w_cons (w_of (v := R.own (D.p (P.str "loop"))) rfl (w_cons (w_of (v := R.own (D.p (P.int v))) rfl (w_cons (w_of (v := R.own (D.p (P.int s))) rfl (w_cons (w_of (v := R.own (D.p (P.int f))) rfl (w_cons (w_of (v := R.own (D.p (P.int (c : Int)))) rfl (w_cons (bodyG b (dp := dp) rfl rfl rfl rfl ih ?_)))))))))))))
      intro q d q0 q1 hd
      obtain ⟨x, rfl, w⟩ := wrap_st q0 q1 hd (.lp (.int v) (.int s) (.int f) (.int (c : Int)))
      exact w_nil ⟨_, rfl, by simp, _, rfl, w⟩
    have no1 : gAnd (gTB (gOp2 (fB fLt) (gVar 4) (gC (.int 3)))) (gTB (gOp2 (fB fLt) (gVar 3) (gC (.int 3)))) (slS B env dp m .no .no .no .no .no .no .no .no) = .ok false := by
      by_cases q : m < 3
      · rw [decide_eq_true q] at lm
        rw [decide_eq_false (fun z => c1 ⟨q, z⟩)] at l3
        exact and_eqT lm l3
      · rw [decide_eq_false q] at lm
        exact and_eqF lm
    refine seq_ok (if_eqF no1 rfl) ?_
    by_cases c2 : m = 3 ∧ dp < 3
    · have m3 := cm 3
      rw [decide_eq_true c2.1] at m3
      rw [decide_eq_true c2.2] at l3
      refine seq_wp (fun _ => False) (if_tt (and_eqT m3 l3) ?_) (fun _ z => z.elim)
      have ih := IH c2.2 env (by omega) hx
      refine w_ret (w_tup (w_cons (w_of (v := R.own (D.p (P.str "when"))) rfl (w_cons (test_g he rfl rfl fun t => w_cons (bodyG b (dp := dp) rfl rfl rfl rfl ih ?_))))))
      intro q d q0 q1 hd
      obtain ⟨x, rfl, w⟩ := wrap_st q0 q1 hd (.wh t)
      exact w_nil ⟨_, rfl, by simp, _, rfl, w⟩
    have no2 : gAnd (gTB (gOp2 (fB (fEqB false)) (gVar 4) (gC (.int 3)))) (gTB (gOp2 (fB fLt) (gVar 3) (gC (.int 3)))) (slS B env dp m .no .no .no .no .no .no .no .no) = .ok false := by
      have m3 := cm 3
      by_cases q : m = 3
      · rw [decide_eq_true q] at m3
        rw [decide_eq_false (fun z => c2 ⟨q, z⟩)] at l3
        exact and_eqT m3 l3
      · rw [decide_eq_false q] at m3
        exact and_eqF m3
    refine seq_ok (if_eqF no2 rfl) ?_
    refine seq_wp (fun δ => ∃ s10 : S, δ = slS B env dp m .no .no .no .no .no s10 .no .no) ?_ ?_
    · by_cases c3 : m = 4
      · refine if_tt ((cm 4).trans (by rw [decide_eq_true c3])) ?_
        refine seq_wp (fun δ => ∃ x : P, (x = .non ∨ ∃ (a c : Int) (f g n : P), x = (St.copy a f c g n).p) ∧ δ = slS B env dp m .no .no .no .no .no (.own (.p x)) .no .no) ?_ ?_
        · obtain ⟨r, q1, q2⟩ := b.gv (slS B env dp m .no .no .no .no .no .no .no .no) 1 rfl
          refine w_set (w_fn (rs := [.vw .orc, r, .vw (.lst env)]) (cons_eq rfl (cons_eq q1 rfl)) rfl ?_)
          show Wp (m__law_copy [.orc, r.d, .lst env]) _ _
          rw [q2]
          refine wp_imp (copy_wp b he) ?_ fun _ _ z => z
          rintro d (rfl | ⟨a, c, f, g, n, rfl⟩)
          · exact ⟨_, rfl, .non, .inl rfl, rfl⟩
          · exact ⟨_, rfl, _, .inr ⟨a, c, f, g, n, rfl⟩, rfl⟩
        rintro _ ⟨x, hx1, rfl⟩
        rcases hx1 with rfl | ⟨a, c, f, g, n, rfl⟩
        · exact if_ff rfl (nx_wp ⟨_, rfl⟩)
        · refine if_tt rfl ?_
          exact w_of (v := Fl.ret (D.p (St.copy a f c g n).p)) rfl ⟨.copy a f c g n, by simp only [St.dep]; omega, trivial, rfl⟩
      · exact if_ff ((cm 4).trans (by rw [decide_eq_false c3])) (nx_wp ⟨_, rfl⟩)
    rintro _ ⟨s10, rfl⟩
    have e11 := b.plc (δ := slS B env dp m .no .no .no .no .no s10 .no .no) true "in" (i := 1) (j := 12) (by decide) (by simp [slS]) rfl
    have om := fun k => plc_mem (bs := bs) (neg := true) (z := "in") (k := k)
    have ol := plc_len (bs := bs) true "in"
    have on := plc_ne b.set
    generalize plc bs true "in" = sets at om ol on e11
    refine seq_ok (set_eq e11) ?_
    show Wp (gSeq _ _ (slS B env dp m .no .no .no .no .no s10 (.own (.lst (pN sets))) .no)) _ _
    refine seq_wp (fun δ => ∃ k : Nat, k < bs.length ∧ δ = slS B env dp m .no .no .no .no .no s10 (.own (.lst (pN sets))) (.own (.p (.int (k : Int))))) (w_set (draw_plc rfl rfl (by omega) (by omega) fun k hk => ⟨_, rfl, k, om k hk, rfl⟩)) ?_
    rintro _ ⟨k, hk, rfl⟩
    have sz := b.sz bs[k] (List.getElem_mem hk)
    refine w_ret (w_tup (w_cons (w_of (v := R.own (D.p (P.str "put"))) rfl (w_cons (w_of (v := R.own (D.p (P.int (k : Int)))) rfl (w_cons (form_g he (size := bs[k].2) (by omega) rfl rfl (b.size rfl hk (r := .own (.p (.int (k : Int)))) rfl rfl) fun f => w_cons ?_)))))))
    obtain ⟨r, q1, q2⟩ := b.gv (slS B env dp m .no .no .no .no .no s10 (.own (.lst (pN sets))) (.own (.p (.int (k : Int))))) 1 rfl
    refine w_fn (rs := [.vw .orc, r, .vw (.lst env), .own (.p (.int 1))]) (cons_eq rfl (cons_eq q1 rfl)) rfl ?_
    show Wp (m__law_expr_r 4 [.orc, r.d, .lst env, .p (.int 1)]) _ _
    rw [q2]
    refine wp_imp (expr_wp b he 4 1 (by decide) (by decide) (by decide)) ?_ fun _ _ z => z
    rintro d ⟨e, d1, rfl⟩
    exact w_nil ⟨_, rfl, by simp, _, rfl, .put k f e, by simp only [St.dep]; omega, by show e.dep ≤ 4; omega, rfl⟩
/-! the program drawn -/
structure BS (bs : List (Str × Int)) : Prop where
  n0 : 2 ≤ bs.length
  n1 : bs.length ≤ 10
  sz : ∀ b ∈ bs, 1 ≤ b.2 ∧ b.2 ≤ 100
  far : ∃ b ∈ bs, b.1 ≠ "near"
  set : ∃ b ∈ bs, b.1 ≠ "in"
theorem BS.l {bs : List (Str × Int)} (h : BS bs) : BufOk (.lst (bP bs)) bs := bufOk_l h.n0 h.n1 h.sz h.far h.set
theorem BS.t {bs : List (Str × Int)} (h : BS bs) : BufOk (.p (.tup (bP bs))) bs := bufOk_t h.n0 h.n1 h.sz h.far h.set
def GoodS (ss : List St) : Prop := ∀ s ∈ ss, s.dep ≤ 4 ∧ s.good
theorem law_body_wp {B : D} {bs : List (Str × Int)} (b : BufOk B bs) (n : Nat) (hn : n ≤ 100) : Wp (m__law_body [.orc, B, .lst [], .p (.int 0), .p (.int (n : Int))]) (fun d => ∃ ss : List St, ss.length = n ∧ GoodS ss ∧ d = .p (.tup (ss.map St.p))) NE := by
  refine wp_imp (body_wp b (mh := m__law_statement_r 5) (env := []) (dp := 0) n hn (stmt_wp b 5 0 [] (by decide) (by decide) (by decide) (by simp) (by simp))) ?_ fun _ _ z => z
  rintro d ⟨ss, hl, h, rfl⟩
  exact ⟨ss, hl, fun s hs => ⟨by have := (h s hs).1; omega, (h s hs).2⟩, rfl⟩
def slP (sf : Bool) (bs : List (Str × Int)) (s3 s4 s5 : S) : Sl := [.bor none .orc, .bor none (.p (.bl sf)), .own (.lst (bP bs)), s3, s4, s5]
def kndl : List Str := ["near", "main", "in", "near"]
theorem size_g {i : Nat} {δ : Sl} {Q : R → Prop} (e : gVar i δ = .ok (.vw .orc)) (h : ∀ n : Int, 1 ≤ n → n ≤ 5 → Q (.own (.p (.int n)))) : Wp (gOp2 fAdd (gC (.int 1)) (gFn 2 m__law_take (DL.gCons (gVar i) (DL.gCons (gC (.int 5)) DL.gNil))) δ) Q NE := by
  refine w_op2 (w_of (v := R.own (D.p (P.int 1))) rfl (draw_eq (n := 5) (by decide) (by omega) (cons_eq e rfl) fun j j0 j1 => ?_))
  exact w_of (v := R.own (D.p (P.int (1 + j)))) rfl (h _ (by omega) (by omega))
theorem and_val {a b : GT} {δ : Sl} {x y : Bool} (h1 : a δ = .ok x) (h2 : b δ = .ok y) : gAnd a b δ = .ok (x && y) := by
  cases x with
  | true => exact and_eqT h1 h2
  | false => exact and_eqF h1
theorem prog_wp (sf : Bool) : Wp (m__law_program [.orc, .p (.bl sf)]) (fun d => ∃ (bs : List (Str × Int)) (ss : List St), BS bs ∧ ss.length ≤ 20 ∧ GoodS ss ∧ d = .p (.tup [.tup (bP bs), .tup (ss.map St.p)])) NE := by
  refine fn_wp ?_
  unfold g__law_program
  refine seq_wp (fun δ => ∃ bs : List (Str × Int), bs.length = 2 ∧ BS bs ∧ δ = slP sf bs .no .no .no) ?_ ?_
  · refine w_set (w_lst (w_cons (w_tup (w_cons (w_of (v := R.own (D.p (P.str "in"))) rfl (w_cons (size_g rfl fun n n0 n1 => w_nil ⟨_, rfl, by simp, w_cons (w_tup (w_cons (w_of (v := R.own (D.p (P.str "main"))) rfl (w_cons (size_g rfl fun k k0 k1 => w_nil ⟨_, rfl, by simp, w_nil ⟨_, rfl, by simp, ?_⟩⟩)))))⟩)))))))
    refine ⟨_, rfl, [((("in" : Str)), n), ((("main" : Str)), k)], rfl, ⟨by simp, by simp, ?_, ⟨((("in" : Str)), n), by simp, show ("in" : Str) ≠ "near" by decide⟩, ⟨((("main" : Str)), k), by simp, show ("main" : Str) ≠ "in" by decide⟩⟩, rfl⟩
    intro b hb
    rcases (by simpa using hb : b = ((("in" : Str)), n) ∨ b = ((("main" : Str)), k)) with rfl | rfl
    · exact ⟨n0, by omega⟩
    · exact ⟨k0, by omega⟩
  rintro _ ⟨bs0, bl, h0, rfl⟩
  refine seq_wp (fun δ => ∃ (bs : List (Str × Int)) (s3 : S), bs.length ≤ 4 ∧ BS bs ∧ δ = slP sf bs s3 .no .no) ?_ ?_
  · refine for_pick (fun xs => xs.length ≤ 2) ?_ fun xs hx => ?_
    · unfold gRangeI
      refine wp_bind.mpr (w_cons (draw_eq (n := 3) (by decide) (by omega) rfl fun j j0 j1 => w_nil (w_of (v := rangeP 0 j) (range1_ok (by omega) (by omega)) ?_)))
      have : (rangeP 0 j).length = j.toNat := by simp [rangeP]
      omega
    · refine forL_inv (fun xs δ => ∃ (bs : List (Str × Int)) (s3 : S), bs.length + xs.length ≤ 4 ∧ BS bs ∧ δ = slP sf bs s3 .no .no) ?_ ?_ xs _ ⟨bs0, .no, by omega, h0, rfl⟩
      · rintro x xs _ ⟨bs, s3, hl, hb, rfl⟩
        simp only [List.length_cons] at hl
        refine ⟨slP sf bs (.own (.p x)) .no .no, rfl, ?_⟩
        have key : Wp (DL.gTup (DL.gCons (gOp2 fIx (DL.gTup (DL.gCons (gC (.str "near")) (DL.gCons (gC (.str "main")) (DL.gCons (gC (.str "in")) (DL.gCons (gC (.str "near")) DL.gNil))))) (gFn 2 m__law_take (DL.gCons (gVar 0) (DL.gCons (gC (.int 4)) DL.gNil)))) (DL.gCons (gOp2 fAdd (gC (.int 1)) (gFn 2 m__law_take (DL.gCons (gVar 0) (DL.gCons (gC (.int 5)) DL.gNil)))) DL.gNil)) (slP sf bs (.own (.p x)) .no .no)) (fun r => ∃ (z : Str) (n : Int), 1 ≤ n ∧ n ≤ 5 ∧ r = .own (.p (.tup [.str z, .int n]))) NE := by
          refine w_tup (w_cons (w_op2 (w_of (v := R.own (D.p (.tup (kndl.map P.str)))) rfl (draw_eq (n := 4) (by decide) (by omega) rfl fun j j0 j1 => ?_))))
          obtain ⟨k, rfl⟩ := Int.eq_ofNat_of_zero_le j0
          have hk : k < kndl.length := by
            have : kndl.length = 4 := rfl
            omega
          have e2 : (kndl.map P.str)[k]? = some (P.str kndl[k]) := by simp [List.getElem?_eq_getElem hk]
          have hi : fIx (.p (.tup (kndl.map P.str))) (.p (.int (k : Int))) = .ok (.own (.p (.str kndl[k]))) := ix_t (at_nat e2)
          exact w_of hi (w_cons (size_g rfl fun n n0 n1 => w_nil ⟨_, rfl, by simp, kndl[k], n, n0, n1, rfl⟩))
        unfold gApp
        show Wp (if (D.lst (bP bs)).isL = true then _ else _) _ _
        rw [if_pos (show (D.lst (bP bs)).isL = true from rfl)]
        unfold lift
        refine wp_bind.mpr (wp_mapErr (wp_imp key ?_ fun _ _ z => z))
        rintro r ⟨z, n, n0, n1, rfl⟩
        have ap : fApp (.lst (bP bs)) (.own (.p (.tup [.str z, .int n]))) = some (.lst (bP (bs ++ [(z, n)]))) := by
          have lp : (bP bs).length = bs.length := List.length_map ..
          have : bP (bs ++ [(z, n)]) = bP bs ++ [.tup [.str z, .int n]] := by simp [bP]
          rw [this]
          exact if_pos (Nat.lt_of_lt_of_le (show (bP bs).length < 100 by rw [lp]; omega) (by decide))
        rw [ap]
        refine wp_ok.mpr ⟨bs ++ [(z, n)], _, by simp; omega, ⟨by simp; have := hb.n0; omega, by simp; omega, fun b hb' => ?_, ?_, ?_⟩, rfl⟩
        · rcases List.mem_append.mp hb' with q | q
          · exact hb.sz b q
          · obtain rfl := List.mem_singleton.mp q
            exact ⟨n0, by show n ≤ 100; omega⟩
        · obtain ⟨b, q1, q2⟩ := hb.far
          exact ⟨b, by simp [q1], q2⟩
        · obtain ⟨b, q1, q2⟩ := hb.set
          exact ⟨b, by simp [q1], q2⟩
      · rintro _ ⟨bs, s3, hl, hb, rfl⟩
        exact ⟨bs, s3, by simpa using hl, hb, rfl⟩
  rintro _ ⟨bs, s3, bl4, hb, rfl⟩
  refine seq_ok (δ' := slP sf bs s3 (.own (.lst [])) .no) rfl ?_
  have lb : gCall fLen (DL.gCons (gVar 2) DL.gNil) (slP sf bs s3 (.own (.lst [])) .no) = .ok (.own (.p (.int (bs.length : Int)))) := by
    refine call_eq (rs := [.vw (.lst (bP bs))]) rfl ?_
    show Rn.ok (R.own (.p (.int ((bP bs).length : Int)))) = _
    rw [show (bP bs).length = bs.length from List.length_map ..]
  refine seq_wp (fun δ => ∃ (ss : List St) (s3 s5 : S), ss.length ≤ 10 ∧ GoodS ss ∧ δ = slP sf bs s3 (.own (.lst (ss.map St.p))) s5) ?_ ?_
  · refine for_wp (gRange_ok (rs := [.own (.p (.int (bs.length : Int)))]) (cons_eq lb rfl) (range1_ok (by omega) (by omega))) ?_
    refine forL_inv (fun xs δ => ∃ (ss : List St) (s3 s5 : S), ss.length + xs.length ≤ 10 ∧ GoodS ss ∧ (∀ x ∈ xs, ∃ k : Nat, k < bs.length ∧ x = .int (k : Int)) ∧ δ = slP sf bs s3 (.own (.lst (ss.map St.p))) s5) ?_ ?_ _ _ ⟨[], s3, .no, by rw [ks_range]; simp; omega, by intro s hs; simp at hs, fun x hx => by
        rw [ks_range] at hx
        obtain ⟨k, hk, rfl⟩ := List.mem_map.mp hx
        exact ⟨k, List.mem_range.mp hk, rfl⟩, rfl⟩
    · rintro x xs _ ⟨ss, s3, s5, hl, hg, hx, rfl⟩
      obtain ⟨k, hk, rfl⟩ := hx x (by simp)
      simp only [List.length_cons] at hl
      refine ⟨slP sf bs (.own (.p (.int (k : Int)))) (.own (.lst (ss.map St.p))) s5, rfl, ?_⟩
      have at_ : gOp2 fIx (gVar 2) (gVar 3) (slP sf bs (.own (.p (.int (k : Int)))) (.own (.lst (ss.map St.p))) s5) = .ok (.own (.p (.tup [.str bs[k].1, .int bs[k].2]))) := op2_eq (x := .vw (.lst (bP bs))) (y := .own (.p (.int (k : Int)))) rfl rfl (ix_l (at_nat (bix hk)))
      have c1 : gTB (gOp2 (fB (fEqB true)) (gOp2 fIx (gOp2 fIx (gVar 2) (gVar 3)) (gC (.int 0))) (gC (.str "in"))) (slP sf bs (.own (.p (.int (k : Int)))) (.own (.lst (ss.map St.p))) s5) = .ok (!decide (bs[k].1 = "in")) := tb_eq (op2_eq (x := .own (.p (.str bs[k].1))) (y := .own (.p (.str "in"))) (op2_eq (x := .own (.p (.tup [.str bs[k].1, .int bs[k].2]))) (y := .own (.p (.int 0))) at_ rfl rfl) rfl (fB_eq (eq_strs true _ _)))
      have c2 : gTru (gVar 1) (slP sf bs (.own (.p (.int (k : Int)))) (.own (.lst (ss.map St.p))) s5) = .ok sf := rfl
      refine w_ifc (and_val c1 c2) (fun _ => ?_) (fun _ => nx_wp ⟨ss, _, _, by omega, hg, fun y hy => hx y (by simp [hy]), rfl⟩)
      refine seq_wp (fun δ => ∃ s : St, s.dep ≤ 1 ∧ s.good ∧ δ = slP sf bs (.own (.p (.int (k : Int)))) (.own (.lst (ss.map St.p))) (.own (.p s.p))) ?_ ?_
      · refine w_set (w_tup (w_cons (w_of (v := R.own (D.p (P.str "put"))) rfl (w_cons (w_of (v := R.own (D.p (P.int (k : Int)))) rfl (w_cons (w_of (v := R.own (D.p (.tup [.int 0, .tup [.tup [.int 0, .int 1]]]))) rfl (w_cons (w_tup (w_cons (w_of (v := R.own (D.p (P.str "index"))) rfl (w_cons (w_tup (w_cons (w_fn (rs := [.vw .orc, .own (.p (.int 9))]) rfl rfl (wp_imp (signed_wp 9 (by decide) (by omega)) ?_ fun _ _ z => z))))))))))))))))
        rintro d ⟨i, _, _, rfl⟩
        refine w_cons (w_of (v := R.own (D.p (.tup [.tup [.int 0, .int 2]]))) rfl (w_nil ⟨_, rfl, by simp, w_nil ⟨_, rfl, by simp, w_nil ⟨_, rfl, by simp, ?_⟩⟩⟩))
        exact ⟨_, rfl, .put k (.tup [.int 0, .tup [.tup [.int 0, .int 1]]]) (.idx (.tup [.int i, .tup [.tup [.int 0, .int 2]]])), by simp [St.dep], by show Ex.dep _ ≤ 4; simp [Ex.dep], rfl⟩
      rintro _ ⟨s, s1, s2, rfl⟩
      have e5 : gOp2 fIx (gOp2 fIx (gVar 2) (gVar 3)) (gC (.int 1)) (slP sf bs (.own (.p (.int (k : Int)))) (.own (.lst (ss.map St.p))) (.own (.p s.p))) = .ok (.own (.p (.int bs[k].2))) := op2_eq (x := .own (.p (.tup [.str bs[k].1, .int bs[k].2]))) (y := .own (.p (.int 1))) (op2_eq (x := .vw (.lst (bP bs))) (y := .own (.p (.int (k : Int)))) rfl rfl (ix_l (at_nat (bix hk)))) rfl rfl
      have tp : DL.gTup (DL.gCons (gC (.str "loop")) (DL.gCons (gC (.int 0)) (DL.gCons (gC (.int 0)) (DL.gCons (gC (.int 1)) (DL.gCons (gOp2 fIx (gOp2 fIx (gVar 2) (gVar 3)) (gC (.int 1))) (DL.gCons (DL.gTup (DL.gCons (gVar 5) DL.gNil)) DL.gNil)))))) (slP sf bs (.own (.p (.int (k : Int)))) (.own (.lst (ss.map St.p))) (.own (.p s.p))) = .ok (.own (.p (St.one (.lp (.int 0) (.int 0) (.int 1) (.int bs[k].2)) s).p)) := by
        have ge : DL.gCons (gC (.str "loop")) (DL.gCons (gC (.int 0)) (DL.gCons (gC (.int 0)) (DL.gCons (gC (.int 1)) (DL.gCons (gOp2 fIx (gOp2 fIx (gVar 2) (gVar 3)) (gC (.int 1))) (DL.gCons (DL.gTup (DL.gCons (gVar 5) DL.gNil)) DL.gNil))))) (slP sf bs (.own (.p (.int (k : Int)))) (.own (.lst (ss.map St.p))) (.own (.p s.p))) = .ok [.own (.p (.str "loop")), .own (.p (.int 0)), .own (.p (.int 0)), .own (.p (.int 1)), .own (.p (.int bs[k].2)), .own (.p (.tup [s.p]))] := cons_eq rfl (cons_eq rfl (cons_eq rfl (cons_eq rfl (cons_eq e5 rfl))))
        unfold DL.gTup at ge ⊢
        rw [ge]
        rfl
      refine w_of (app_eq (x := (St.one (.lp (.int 0) (.int 0) (.int 1) (.int bs[k].2)) s).p) rfl tp (by simp; omega)) ⟨ss ++ [St.one (.lp (.int 0) (.int 0) (.int 1) (.int bs[k].2)) s], .own (.p (.int (k : Int))), .own (.p s.p), by simp; omega, ?_, fun y hy => hx y (by simp [hy]), ?_⟩
      · intro t ht
        rcases List.mem_append.mp ht with q | q
        · exact hg t q
        · obtain rfl := List.mem_singleton.mp q
          exact ⟨by simp only [St.dep]; omega, s2⟩
      · rw [List.map_append]; rfl
    · rintro _ ⟨ss, s3, s5, hl, hg, _, rfl⟩
      exact ⟨ss, s3, s5, by simpa using hl, hg, rfl⟩
  rintro _ ⟨ss, s3, s5, sl, hg, rfl⟩
  refine seq_wp (fun δ => ∃ ss : List St, ss.length ≤ 20 ∧ GoodS ss ∧ δ = slP sf bs s3 (.own (.lst (ss.map St.p))) s5) ?_ ?_
  · refine w_set (w_op2 (w_of (v := R.vw (D.lst (ss.map St.p))) rfl (w_call (w_cons (w_fnW (w_cons (w_of (v := R.vw .orc) rfl (w_cons (w_of (v := R.vw (D.lst (bP bs))) rfl (w_cons (w_of (v := R.own (D.lst [])) rfl (w_cons (w_of (v := R.own (D.p (P.int 0))) rfl (w_cons (w_op2 (w_of (v := R.own (D.p (P.int 1))) rfl (draw_eq (n := 3) (by decide) (by omega) rfl fun j j0 j1 => ?_)))))))))))))))))
    obtain ⟨q, rfl⟩ := Int.eq_ofNat_of_zero_le j0
    refine w_of (v := R.own (D.p (P.int (1 + (q : Int))))) rfl (w_nil ⟨rfl, ?_⟩)
    show Wp (m__law_body [.orc, .lst (bP bs), .lst [], .p (.int 0), .p (.int (1 + (q : Int)))]) _ _
    rw [show (1 + (q : Int)) = ((1 + q : Nat) : Int) from by omega]
    refine wp_imp (law_body_wp hb.l (1 + q) (by omega)) ?_ fun _ _ z => z
    rintro d ⟨ss2, hl2, hg2, rfl⟩
    refine w_nil (w_of (v := R.own (D.lst (ss2.map St.p))) rfl (w_of (add_l (by simp; omega)) ⟨_, rfl, ss ++ ss2, by simp; omega, ?_, by rw [List.map_append]; rfl⟩))
    intro s hs
    rcases List.mem_append.mp hs with q | q
    · exact hg s q
    · exact hg2 s q
  rintro _ ⟨ss2, hl2, hg2, rfl⟩
  exact w_of (v := Fl.ret (D.p (.tup [.tup (bP bs), .tup (ss2.map St.p)]))) rfl ⟨bs, ss2, hb, hl2, hg2, rfl⟩
/-! the law -/
theorem v_meet (a b c d : Int) : m_meet [.p (.tup [.int a, .int b]), .p (.tup [.int c, .int d])] = .ok (.p (.bl (decide (a ≤ d) && decide (c ≤ b)))) := by
  have h1 : gOp2 (fB fLe) (gOp2 fIx (gVar 0) (gC (.int 0))) (gOp2 fIx (gVar 1) (gC (.int 1))) [.bor none (.p (.tup [.int a, .int b])), .bor none (.p (.tup [.int c, .int d]))] = .ok (.own (.p (.bl (decide (a ≤ d))))) := rfl
  have h2 : gOp2 (fB fLe) (gOp2 fIx (gVar 1) (gC (.int 0))) (gOp2 fIx (gVar 0) (gC (.int 1))) [.bor none (.p (.tup [.int a, .int b])), .bor none (.p (.tup [.int c, .int d]))] = .ok (.own (.p (.bl (decide (c ≤ b))))) := rfl
  refine fn_eq (ret_eq ?_)
  cases e : decide (a ≤ d) with
  | true => rw [e] at h1; exact andV_eq h1 h2
  | false => rw [e] at h1; exact andV_eqF h1
theorem ne_bl (x y : Bool) : fEqB true (.p (.bl x)) (.p (.bl y)) = .ok (!decide (x = y)) := rfl
theorem chain_eq {f g h : GE} {δ : Sl} {x y z : Int} (e1 : f δ = .ok (.own (.p (.int x)))) (e2 : g δ = .ok (.own (.p (.int y)))) (e3 : h δ = .ok (.own (.p (.int z)))) : gChain fLe fLe f g h δ = .ok (.own (.p (.bl (decide (x ≤ y) && decide (y ≤ z))))) := by
  unfold gChain
  rw [e1, Rn.bind_ok, e2, Rn.bind_ok]
  show ((Rn.ok (decide (x ≤ y))).bind _) = _
  rw [Rn.bind_ok]
  cases decide (x ≤ y) with
  | true =>
    rw [if_pos rfl, e3, Rn.bind_ok]
    rfl
  | false => rfl
def pT (c d : Int) (x : P) : Bool := match x with
  | .int t => decide (c ≤ t) && decide (t ≤ d)
  | _ => false
theorem meet_len {a b c d : Int} (h1 : a ≤ b) (h2 : c ≤ d) : decide ((0 : Int) < (((rangeP a (b + 1)).filter (pT c d)).length : Int)) = (decide (a ≤ d) && decide (c ≤ b)) := by
  rw [Bool.eq_iff_iff]
  simp only [decide_eq_true_eq, Bool.and_eq_true]
  constructor
  · intro h
    have hp : 0 < ((rangeP a (b + 1)).filter (pT c d)).length := by omega
    obtain ⟨x, hx⟩ := List.exists_mem_of_length_pos hp
    obtain ⟨q1, q2⟩ := List.mem_filter.mp hx
    simp only [rangeP, List.mem_map, List.mem_range] at q1
    obtain ⟨i, hi, rfl⟩ := q1
    simp only [pT, Bool.and_eq_true, decide_eq_true_eq] at q2
    omega
  · rintro ⟨q1, q2⟩
    have : P.int (max a c) ∈ (rangeP a (b + 1)).filter (pT c d) := by
      refine List.mem_filter.mpr ⟨?_, ?_⟩
      · simp only [rangeP, List.mem_map, List.mem_range]
        exact ⟨(max a c - a).toNat, by omega, by congr 1; omega⟩
      · simp only [pT, Bool.and_eq_true, decide_eq_true_eq]
        omega
    have := List.length_pos_of_mem this
    omega
def slT (a0 a2 a3 a4 a5 a6 a7 a8 a9 a10 s11 s12 s13 s14 : S) : Sl := [a0, .own .orc, a2, a3, a4, a5, a6, a7, a8, a9, a10, s11, s12, s13, s14, .no]
def bodyT : GS := gSeq (gSet 12 (DL.gTup (DL.gCons (gFn 2 m__law_take (DL.gCons (gVar 1) (DL.gCons (gC (.int 5)) DL.gNil))) (DL.gCons (gOp2 fAdd (gC (.int 4)) (gFn 2 m__law_take (DL.gCons (gVar 1) (DL.gCons (gC (.int 5)) DL.gNil)))) DL.gNil))))
  (gSeq (gSet 13 (DL.gTup (DL.gCons (gFn 2 m__law_take (DL.gCons (gVar 1) (DL.gCons (gC (.int 9)) DL.gNil))) (DL.gCons (gOp2 fAdd (gC (.int 8)) (gFn 2 m__law_take (DL.gCons (gVar 1) (DL.gCons (gC (.int 5)) DL.gNil)))) DL.gNil))))
  (gSeq (gSet 14 (gFn 2 m_meet (DL.gCons (gVar 12) (DL.gCons (gVar 13) DL.gNil))))
  (gSeq (gIfS (gOr (gNot (gTru (gIsi "bool" (gVar 14)))) (gTB (gOp2 (fB (fEqB true)) (gVar 14) (gOp2 (fB fGt) (gCall fLen (DL.gCons (gLc (.one 15) [15] (gRangeI fRange2 (DL.gCons (gOp2 fIx (gVar 12) (gC (.int 0))) (DL.gCons (gOp2 fAdd (gOp2 fIx (gVar 12) (gC (.int 1))) (gC (.int 1))) DL.gNil))) (gTB (gChain fLe fLe (gOp2 fIx (gVar 13) (gC (.int 0))) (gVar 15) (gOp2 fIx (gVar 13) (gC (.int 1))))) (gVar 15)) DL.gNil)) (gC (.int 0)))))) (gRet (gC (.bl false))) gNext)
  (gIfS (gOr (gTB (gOp2 (fB (fEqB true)) (gFn 2 m_meet (DL.gCons (gVar 13) (DL.gCons (gVar 12) DL.gNil))) (gVar 14))) (gNot (gTru (gFn 2 m_meet (DL.gCons (gVar 12) (DL.gCons (gVar 12) DL.gNil)))))) (gRet (gC (.bl false))) gNext))))
theorem turn_eq {a b c d : Int} (ha : 0 ≤ a) (hb : b ≤ 100) (h1 : a ≤ b) (h2 : c ≤ d) {a0 a2 a3 a4 a5 a6 a7 a8 a9 a10 s11 s14 : S} :
    gSeq (gSet 14 (gFn 2 m_meet (DL.gCons (gVar 12) (DL.gCons (gVar 13) DL.gNil))))
  (gSeq (gIfS (gOr (gNot (gTru (gIsi "bool" (gVar 14)))) (gTB (gOp2 (fB (fEqB true)) (gVar 14) (gOp2 (fB fGt) (gCall fLen (DL.gCons (gLc (.one 15) [15] (gRangeI fRange2 (DL.gCons (gOp2 fIx (gVar 12) (gC (.int 0))) (DL.gCons (gOp2 fAdd (gOp2 fIx (gVar 12) (gC (.int 1))) (gC (.int 1))) DL.gNil))) (gTB (gChain fLe fLe (gOp2 fIx (gVar 13) (gC (.int 0))) (gVar 15) (gOp2 fIx (gVar 13) (gC (.int 1))))) (gVar 15)) DL.gNil)) (gC (.int 0)))))) (gRet (gC (.bl false))) gNext)
  (gIfS (gOr (gTB (gOp2 (fB (fEqB true)) (gFn 2 m_meet (DL.gCons (gVar 13) (DL.gCons (gVar 12) DL.gNil))) (gVar 14))) (gNot (gTru (gFn 2 m_meet (DL.gCons (gVar 12) (DL.gCons (gVar 12) DL.gNil)))))) (gRet (gC (.bl false))) gNext))
    (slT a0 a2 a3 a4 a5 a6 a7 a8 a9 a10 s11 (.own (.p (.tup [.int a, .int b]))) (.own (.p (.tup [.int c, .int d]))) s14) = .ok (.nx (slT a0 a2 a3 a4 a5 a6 a7 a8 a9 a10 s11 (.own (.p (.tup [.int a, .int b]))) (.own (.p (.tup [.int c, .int d]))) (.own (.p (.bl (decide (a ≤ d) && decide (c ≤ b))))))) := by
  have m1 := v_meet a b c d
  have m2 := v_meet c d a b
  have m3 := v_meet a b a b
  have ml := meet_len h1 h2
  rw [Bool.and_comm] at m2
  rw [decide_eq_true h1] at m3
  generalize (decide (a ≤ d) && decide (c ≤ b)) = w at m1 m2 ml ⊢
  refine seq_eq (set_eq (fn_val (rs := [.own (.p (.tup [.int a, .int b])), .own (.p (.tup [.int c, .int d]))]) rfl rfl m1)) ?_
  show gSeq _ _ (slT a0 a2 a3 a4 a5 a6 a7 a8 a9 a10 s11 (.own (.p (.tup [.int a, .int b]))) (.own (.p (.tup [.int c, .int d]))) (.own (.p (.bl w)))) = _
  have lc := lcL_ok (t := .one 15) (gt := gTB (gChain fLe fLe (gOp2 fIx (gVar 13) (gC (.int 0))) (gVar 15) (gOp2 fIx (gVar 13) (gC (.int 1))))) (ge := gVar 15) (δ := slT a0 a2 a3 a4 a5 a6 a7 a8 a9 a10 s11 (.own (.p (.tup [.int a, .int b]))) (.own (.p (.tup [.int c, .int d]))) (.own (.p (.bl w)))) (pT c d) id (rangeP a (b + 1)) [] (fun y hy => by
      simp only [rangeP, List.mem_map, List.mem_range] at hy
      obtain ⟨i, hi, rfl⟩ := hy
      exact ⟨_, rfl, tb_eq (chain_eq rfl rfl rfl), fun _ => ⟨_, rfl, rfl⟩⟩) (by
      have : (rangeP a (b + 1)).length = (b + 1 - a).toNat := by simp [rangeP]
      rw [this]
      simp only [List.length_nil]
      exact big (by omega))
  have rg : fRange2 [.p (.int a), .p (.int (b + 1))] = .ok (rangeP a (b + 1)) := by
    have hh : -(2 ^ 62) ≤ a ∧ a < 2 ^ 62 ∧ -(2 ^ 62) ≤ b + 1 ∧ b + 1 < 2 ^ 62 := by omega
    unfold fRange2
    simp only [hh, and_self, if_true]
  have gl : gLc (.one 15) [15] (gRangeI fRange2 (DL.gCons (gOp2 fIx (gVar 12) (gC (.int 0))) (DL.gCons (gOp2 fAdd (gOp2 fIx (gVar 12) (gC (.int 1))) (gC (.int 1))) DL.gNil))) (gTB (gChain fLe fLe (gOp2 fIx (gVar 13) (gC (.int 0))) (gVar 15) (gOp2 fIx (gVar 13) (gC (.int 1))))) (gVar 15) (slT a0 a2 a3 a4 a5 a6 a7 a8 a9 a10 s11 (.own (.p (.tup [.int a, .int b]))) (.own (.p (.tup [.int c, .int d]))) (.own (.p (.bl w)))) = .ok (.own (.lst ((rangeP a (b + 1)).filter (pT c d)))) := by
    unfold gLc
    rw [gRange_ok (rs := [.own (.p (.int a)), .own (.p (.int (b + 1)))]) rfl rg]
    show ((lcL _ _ _ (slT a0 a2 a3 a4 a5 a6 a7 a8 a9 a10 s11 (.own (.p (.tup [.int a, .int b]))) (.own (.p (.tup [.int c, .int d]))) (.own (.p (.bl w)))) _ []).bind _) = _
    rw [lc, List.nil_append, List.map_id]
    rfl
  generalize (rangeP a (b + 1)).filter (pT c d) = ys at ml gl
  have gg : gOp2 (fB fGt) (gCall fLen (DL.gCons (gLc (.one 15) [15] (gRangeI fRange2 (DL.gCons (gOp2 fIx (gVar 12) (gC (.int 0))) (DL.gCons (gOp2 fAdd (gOp2 fIx (gVar 12) (gC (.int 1))) (gC (.int 1))) DL.gNil))) (gTB (gChain fLe fLe (gOp2 fIx (gVar 13) (gC (.int 0))) (gVar 15) (gOp2 fIx (gVar 13) (gC (.int 1))))) (gVar 15)) DL.gNil)) (gC (.int 0)) (slT a0 a2 a3 a4 a5 a6 a7 a8 a9 a10 s11 (.own (.p (.tup [.int a, .int b]))) (.own (.p (.tup [.int c, .int d]))) (.own (.p (.bl w)))) = .ok (.own (.p (.bl w))) := by
    rw [← ml]
    exact op2_eq (x := .own (.p (.int (ys.length : Int)))) (y := .own (.p (.int 0))) (call_eq (rs := [.own (.lst ys)]) (cons_eq (by rw [ml]; exact gl) rfl) rfl) rfl rfl
  have nw : ∀ x : Bool, (!decide (x = x)) = false := fun x => by simp
  refine seq_eq (if_eqF (or_eqF rfl (tb_eq (op2_eq (x := .own (.p (.bl w))) (y := .own (.p (.bl w))) rfl gg (fB_eq ((ne_bl w w).trans (by rw [nw])))))) rfl) ?_
  exact if_eqF (or_eqF (tb_eq (op2_eq (x := .own (.p (.bl w))) (y := .own (.p (.bl w))) (fn_val (rs := [.own (.p (.tup [.int c, .int d])), .own (.p (.tup [.int a, .int b]))]) rfl rfl m2) rfl (fB_eq ((ne_bl w w).trans (by rw [nw]))))) (not_eq (k := true) (tru_eq (fn_val (rs := [.own (.p (.tup [.int a, .int b])), .own (.p (.tup [.int a, .int b]))]) rfl rfl m3)))) rfl
theorem turn_wp {a0 a2 a3 a4 a5 a6 a7 a8 a9 a10 s11 s12 s13 s14 : S} {K : Fl → Prop} (k : ∀ s12 s13 s14 : S, K (.nx (slT a0 a2 a3 a4 a5 a6 a7 a8 a9 a10 s11 s12 s13 s14))) : Wp (bodyT (slT a0 a2 a3 a4 a5 a6 a7 a8 a9 a10 s11 s12 s13 s14)) K (fun _ _ => False) := by
  refine seq_wp (fun δ => ∃ a b : Int, 0 ≤ a ∧ b ≤ 100 ∧ a ≤ b ∧ δ = slT a0 a2 a3 a4 a5 a6 a7 a8 a9 a10 s11 (.own (.p (.tup [.int a, .int b]))) s13 s14) ?_ ?_
  · refine w_set (w_tup (w_cons (draw_eq (n := 5) (by decide) (by omega) rfl fun a q0 q1 => w_cons (w_op2 (w_of (v := R.own (D.p (P.int 4))) rfl (draw_eq (n := 5) (by decide) (by omega) rfl fun b r0 r1 => w_of (v := R.own (D.p (P.int (4 + b)))) rfl (w_nil ⟨_, rfl, by simp, _, rfl, a, 4 + b, by omega, by omega, by omega, rfl⟩)))))))
  rintro _ ⟨a, b, ha, hb, hab, rfl⟩
  refine seq_wp (fun δ => ∃ c d : Int, c ≤ d ∧ δ = slT a0 a2 a3 a4 a5 a6 a7 a8 a9 a10 s11 (.own (.p (.tup [.int a, .int b]))) (.own (.p (.tup [.int c, .int d]))) s14) ?_ ?_
  · refine w_set (w_tup (w_cons (draw_eq (n := 9) (by decide) (by omega) rfl fun c q0 q1 => w_cons (w_op2 (w_of (v := R.own (D.p (P.int 8))) rfl (draw_eq (n := 5) (by decide) (by omega) rfl fun d r0 r1 => w_of (v := R.own (D.p (P.int (8 + d)))) rfl (w_nil ⟨_, rfl, by simp, _, rfl, c, 8 + d, by omega, rfl⟩)))))))
  rintro _ ⟨c, d, hcd, rfl⟩
  exact w_of (turn_eq ha hb hab hcd) (k _ _ _)
theorem lay2 (body : List St) (outs : List Int) : ∀ ks : List Nat, PyData.canLayAll0 (P.pys (ks.map (rowOf body outs))) = true ∧ PyData.depthAll (P.pys (ks.map (rowOf body outs))) ≤ 1
  | [] => ⟨rfl, Nat.zero_le _⟩
  | k :: ks => by
    obtain ⟨q1, q2⟩ := lay2 body outs ks
    have e : P.pys ((k :: ks).map (rowOf body outs)) = .tuple [.int (fstI (usd body k)), .int (if (k : Int) ∈ outs then (body.length : Int) else lstI (usd body k))] :: P.pys (ks.map (rowOf body outs)) := rfl
    rw [e]
    constructor
    · simp [PyData.canLayAll0, PyData.canLay0, q1]
    · simp [PyData.depthAll, PyData.depth, q2]
theorem ne_rows (body : List St) (outs : List Int) (ks : List Nat) : fEqB true (.p (.tup (ks.map (rowOf body outs)))) (.p (.tup (ks.map (rowOf body outs)))) = .ok false := by
  obtain ⟨q1, q2⟩ := lay2 body outs ks
  refine eq_self true rfl ?_
  have e : (P.tup (ks.map (rowOf body outs))).py = .tuple (P.pys (ks.map (rowOf body outs))) := rfl
  rw [e]
  unfold SeqAt.shaped
  simp [PyData.canLay0, PyData.depth, q1]
  omega
theorem w_unpT {is : List Nat} {ga : GE} {δ : Sl} {K : Fl → Prop} (h : Wp (ga δ) (fun r => ∃ xs, r = .own (.p (.tup xs)) ∧ xs.length = is.length ∧ K (.nx (setAll is (xs.map D.p) δ))) NE) : Wp (gUnpT is ga δ) K (fun _ _ => False) := by
  unfold gUnpT lift
  refine wp_bind.mpr (wp_mapErr (wp_imp h ?_ fun _ _ z => z))
  rintro r ⟨xs, rfl, hl, q⟩
  show Wp (match (if xs.length = is.length then some (setAll is (xs.map D.p) δ) else none) with | some δ' => Rn.ok (Fl.nx δ') | none => Rn.bad) _ _
  rw [if_pos hl]
  exact wp_ok.mpr q
theorem glcWI {t : Tg} {vs : List Nat} {gi : GI} {ge : GE} {δ : Sl} {T : P → Prop} {X : List P → Prop} {Q : R → Prop} (hg : Wp (gi δ) X NE) (h : ∀ xs, X xs → xs.length ≤ 1000 ∧ ∀ x ∈ xs, ∃ δ1, t.set (.p x) (wipeS δ vs) = some δ1 ∧ Wp (ge δ1) (fun r => ∃ y, r.d = .p y ∧ T y) NE) (k : ∀ zs, (∀ z ∈ zs, T z) → Q (.own (.lst zs))) :
    Wp (gLc t vs gi gYes ge δ) Q NE := by
  unfold gLc
  refine wp_bind.mpr (wp_imp hg ?_ fun _ _ z => z)
  intro xs hx
  obtain ⟨h1, h2⟩ := h xs hx
  refine wp_bind.mpr (wp_imp (lcW (T := T) xs [] h2 (by simpa using h1)) ?_ fun _ _ z => z)
  rintro ys ⟨zs, e, el, pw⟩
  rw [List.nil_append] at e
  subst e
  exact wp_ok.mpr (k _ pw)
def sl0 (ns : List Int) (s2 s3 s4 : S) : Sl := [.bor none (.scr ns), .own .orc, s2, s3, s4, .no, .no, .no, .no, .no, .no, .no, .no, .no, .no, .no]
theorem m_law_wp (ns : List Int) (h : ns.length ≤ 63) : Wp (m_law [.scr ns]) (fun d => d = .p (.bl true)) NE := by
  refine fn_wp ?_
  unfold g_law
  refine seq_ok (set_eq (fn_val (rs := [.vw (.scr ns)]) rfl rfl (begin_ok h))) ?_
  show Wp (gSeq _ _ (sl0 ns .no .no .no)) _ _
  refine seq_wp (fun δ => ∃ (bs : List (Str × Int)) (ss : List St), BS bs ∧ ss.length ≤ 20 ∧ GoodS ss ∧ δ = sl0 ns (.own (.p (.tup (bP bs)))) (.own (.p (.tup (ss.map St.p)))) .no) ?_ ?_
  · refine w_unpT (w_fnW (w_cons (w_of (v := R.vw .orc) rfl (w_cons (w_op2 (draw_eq (n := 2) (by decide) (by omega) rfl fun j _ _ => w_of (v := R.own (D.p (P.int 1))) rfl (w_of (eq_ints j 1) (w_nil ⟨rfl, wp_imp (prog_wp _) ?_ fun _ _ z => z⟩))))))))
    rintro d ⟨bs, ss, hb, hl, hg, rfl⟩
    exact ⟨_, rfl, rfl, bs, ss, hb, hl, hg, rfl⟩
  rintro _ ⟨bs, ss, hb, hl, hg, rfl⟩
  have n1 := hb.n1
  have n0 := hb.n0
  refine seq_wp (fun δ => ∃ ss : List St, ss.length ≤ 30 ∧ GoodS ss ∧ δ = sl0 ns (.own (.p (.tup (bP bs)))) (.own (.p (.tup (ss.map St.p)))) .no) ?_ ?_
  · refine w_set (w_op2 (w_of (v := R.own (D.p (.tup (ss.map St.p)))) rfl (w_fnW (w_cons (w_of (v := R.vw .orc) rfl (w_cons (w_of (v := R.own (D.p (.tup (bP bs)))) rfl (w_cons (w_of (v := R.own (D.lst [])) rfl (w_cons (w_of (v := R.own (D.p (P.int 0))) rfl (w_cons (w_op2 (w_of (v := R.own (D.p (P.int 1))) rfl (draw_eq (n := 2) (by decide) (by omega) rfl fun j j0 j1 => ?_)))))))))))))))
    obtain ⟨q, rfl⟩ := Int.eq_ofNat_of_zero_le j0
    refine w_of (v := R.own (D.p (P.int (1 + (q : Int))))) rfl (w_nil ⟨rfl, ?_⟩)
    show Wp (m__law_body [.orc, .p (.tup (bP bs)), .lst [], .p (.int 0), .p (.int (1 + (q : Int)))]) _ _
    rw [show (1 + (q : Int)) = ((1 + q : Nat) : Int) from by omega]
    refine wp_imp (law_body_wp hb.t (1 + q) (by omega)) ?_ fun _ _ z => z
    rintro d ⟨ss2, hl2, hg2, rfl⟩
    refine w_of (add_t (by simp; omega)) ⟨_, rfl, ss ++ ss2, by simp; omega, ?_, by rw [List.map_append]; rfl⟩
    intro s hs
    rcases List.mem_append.mp hs with q | q
    · exact hg s q
    · exact hg2 s q
  rintro _ ⟨body, hbl, hg, rfl⟩
  clear hl
  have lb : ∀ s4 : S, gCall fLen (DL.gCons (gVar 2) DL.gNil) (sl0 ns (.own (.p (.tup (bP bs)))) (.own (.p (.tup (body.map St.p)))) s4) = .ok (.own (.p (.int (bs.length : Int)))) := fun s4 => by
    refine call_eq (rs := [.own (.p (.tup (bP bs)))]) rfl ?_
    show Rn.ok (R.own (.p (.int ((bP bs).length : Int)))) = _
    rw [show (bP bs).length = bs.length from List.length_map ..]
  refine seq_wp (fun δ => ∃ outs : List Int, δ = sl0 ns (.own (.p (.tup (bP bs)))) (.own (.p (.tup (body.map St.p)))) (.own (.p (.tup (pI outs))))) ?_ ?_
  · refine w_set (w_call (w_cons (glcWI (T := fun y => ∃ n : Int, True ∧ y = .int n) (X := fun xs => xs.length ≤ 2) ?_ (fun xs hx => ⟨by omega, fun x _ => ⟨_, rfl, ?_⟩⟩) fun zs hz => w_nil ?_)))
    · unfold gRangeI
      refine wp_bind.mpr (w_cons (draw_eq (n := 3) (by decide) (by omega) rfl fun j j0 j1 => w_nil (w_of (v := rangeP 0 j) (range1_ok (by omega) (by omega)) ?_)))
      have : (rangeP 0 j).length = j.toNat := by simp [rangeP]
      omega
    · have lb' : gCall fLen (DL.gCons (gVar 2) DL.gNil) ([.bor none (.scr ns), .own .orc, .own (.p (.tup (bP bs))), .own (.p (.tup (body.map St.p))), .no, .no, .own (.p x), .no, .no, .no, .no, .no, .no, .no, .no, .no] : Sl) = .ok (.own (.p (.int (bs.length : Int)))) := by
        refine call_eq (rs := [.own (.p (.tup (bP bs)))]) rfl ?_
        show Rn.ok (R.own (.p (.int ((bP bs).length : Int)))) = _
        rw [show (bP bs).length = bs.length from List.length_map ..]
      exact draw_eq (n := (bs.length : Int)) (by omega) (by omega) (cons_eq rfl (cons_eq lb' rfl)) fun j _ _ => ⟨_, rfl, j, trivial, rfl⟩
    · obtain ⟨outs, rfl, _⟩ := int_list zs hz
      exact w_of (v := R.own (D.p (.tup (pI outs)))) rfl ⟨_, rfl, outs, rfl⟩
  rintro _ ⟨outs, rfl⟩
  have hg6 : ∀ s ∈ body, s.dep ≤ 6 ∧ s.good := fun s hs => ⟨by have := (hg s hs).1; omega, (hg s hs).2⟩
  refine seq_ok (δ' := slL ns outs bs body [] .no .no .no .no) rfl ?_
  obtain ⟨t6, t7, t8, t9, w⟩ := loop_l ns outs bs body (by omega) hg6 (List.range bs.length) [] .no .no .no .no (by simp; omega) (by simp)
  rw [← ks_range, List.nil_append] at w
  have rg : gRangeI fRange1 (DL.gCons (gCall fLen (DL.gCons (gVar 2) DL.gNil)) DL.gNil) (slL ns outs bs body [] .no .no .no .no) = .ok (rangeP 0 (bs.length : Int)) := by
    refine gRange_ok (rs := [.own (.p (.int (bs.length : Int)))]) (cons_eq (call_eq (rs := [.own (.p (.tup (bP bs)))]) rfl ?_) rfl) (range1_ok (by omega) (by omega))
    show Rn.ok (R.own (.p (.int ((bP bs).length : Int)))) = _
    rw [show (bP bs).length = bs.length from List.length_map ..]
  refine seq_ok (for_eq rg w) ?_
  have lv := v_lives bs body outs (by omega) (by omega) hg6
  have nr := ne_rows body outs ((List.range bs.length).filter (isM bs))
  generalize ((List.range bs.length).filter (isM bs)).map (rowOf body outs) = rows at lv nr ⊢
  refine seq_ok (set_eq (fn_val (rs := [.own (.p (.tup [.tup (bP bs), .tup (body.map St.p)])), .own (.p (.tup (pI outs)))]) rfl rfl lv)) ?_
  show Wp (gSeq _ _ (slT (.bor none (.scr ns)) (.own (.p (.tup (bP bs)))) (.own (.p (.tup (body.map St.p)))) (.own (.p (.tup (pI outs)))) (.own (.lst rows)) t6 t7 t8 t9 (.own (.p (.tup rows))) .no .no .no .no)) _ _
  refine seq_ok (if_eqF (or_eqF rfl (tb_eq (op2_eq (x := .own (.p (.tup rows))) (y := .own (.p (.tup rows))) rfl rfl (fB_eq nr)))) rfl) ?_
  generalize S.bor none (.scr ns) = a0
  generalize S.own (.p (.tup (bP bs))) = a2
  generalize S.own (.p (.tup (body.map St.p))) = a3
  generalize S.own (.p (.tup (pI outs))) = a4
  generalize S.own (.lst rows) = a5
  generalize S.own (.p (.tup rows)) = a10
  refine seq_wp (fun _ => True) ?_ (fun δ _ => w_of (v := Fl.ret (D.p (.bl true))) rfl rfl)
  refine for_wp (xs := rangeP 0 3) rfl ?_
  refine forL_inv (g := bodyT) (fun _ δ => ∃ s11 s12 s13 s14 : S, δ = slT a0 a2 a3 a4 a5 t6 t7 t8 t9 a10 s11 s12 s13 s14) ?_ (fun _ _ => trivial) _ _ ⟨_, _, _, _, rfl⟩
  rintro x xs _ ⟨s11, s12, s13, s14, rfl⟩
  exact ⟨slT a0 a2 a3 a4 a5 t6 t7 t8 t9 a10 (.own (.p x)) s12 s13 s14, rfl, turn_wp fun u12 u13 u14 => ⟨_, u12, u13, u14, rfl⟩⟩
theorem m_law_ok : ∀ ns : List Int, ns.length ≤ 63 → (m_law [.scr ns]).wp (fun d => d = .p (.bl true)) fun _ _ => False := fun ns h => (m_law_wp ns h).r
end Lw
open PySem PySem.W PyProof.Rows
set_option maxHeartbeats 0 in
theorem PySem.Challenge.cw_tensorworks_k42_lives_of_buffers_holds : PySem.Challenge.rw_tensorworks_k42_lives_of_buffers.Holds := by
  w_on; o_law; k_head; (case hw => w_witness2)
  k_fill
  refine L2.walk_of (l := PySem.Challenge.rw_tensorworks_k42_lives_of_buffers) (n := 63) (k := 22) (x := "script") (CX := fun w => L2.CX PySem.Challenge.pw_tensorworks_k42_lives_of_buffers w) (sp := fun w => DL.spAny Lw.m_law _) rfl (by decide) rfl ⟨rfl, by decide, by decide⟩ (fun w h Y => PySem.W.kIn_of Y) ?F (fun _ H a ns hl hO hS => DL.law_sp hl hO hS Lw.m_law_ok) (fun _ _ _ _ _ h => DL.cx_never h)
  case F =>
    intro w mg fa h KX G hmg
    refine' DL.spAny_of (Lw.all_mk KX G hmg ?a__law_begin ?l__law_begin ?c__law_begin ?k__law_begin ?a__law_take ?l__law_take ?c__law_take ?k__law_take ?a__law_form ?l__law_form ?c__law_form ?k__law_form ?a__law_copy ?l__law_copy ?c__law_copy ?k__law_copy ?a__law_signed ?l__law_signed ?c__law_signed ?k__law_signed ?a__law_point_info ?l__law_point_info ?c__law_point_info ?k__law_point_info ?a__law_test ?l__law_test ?c__law_test ?k__law_test ?a__law_expr ?l__law_expr ?c__law_expr ?k__law_expr ?a__law_body ?l__law_body ?c__law_body ?k__law_body ?a__law_statement ?l__law_statement ?c__law_statement ?k__law_statement ?a__law_in_expr ?l__law_in_expr ?c__law_in_expr ?k__law_in_expr ?a__law_in ?l__law_in ?c__law_in ?k__law_in ?a__law_program ?l__law_program ?c__law_program ?k__law_program ?a_expressions_in ?l_expressions_in ?c_expressions_in ?k_expressions_in ?a_statements_in ?l_statements_in ?c_statements_in ?k_statements_in ?a_buffers_in ?l_buffers_in ?c_buffers_in ?k_buffers_in ?a_lives ?l_lives ?c_lives ?k_lives ?a_meet ?l_meet ?c_meet ?k_meet ?a_law ?l_law ?c_law ?k_law ?z_abs ?z_any ?z_bool ?z_int ?z_isinstance ?z_len ?z_list ?z_max ?z_min ?z_range ?z_tuple)
    (case a__law_begin => k_is)
    (case l__law_begin => k_is)
    (case c__law_begin => k_is)
    (case k__law_begin => k_is)
    (case a__law_take => k_is)
    (case l__law_take => k_is)
    (case c__law_take => k_is)
    (case k__law_take => k_is)
    (case a__law_form => k_is)
    (case l__law_form => k_is)
    (case c__law_form => k_is)
    (case k__law_form => k_is)
    (case a__law_copy => k_is)
    (case l__law_copy => k_is)
    (case c__law_copy => k_is)
    (case k__law_copy => k_is)
    (case a__law_signed => k_is)
    (case l__law_signed => k_is)
    (case c__law_signed => k_is)
    (case k__law_signed => k_is)
    (case a__law_point_info => k_is)
    (case l__law_point_info => k_is)
    (case c__law_point_info => k_is)
    (case k__law_point_info => k_is)
    (case a__law_test => k_is)
    (case l__law_test => k_is)
    (case c__law_test => k_is)
    (case k__law_test => k_is)
    (case a__law_expr => k_is)
    (case l__law_expr => k_is)
    (case c__law_expr => k_is)
    (case k__law_expr => k_is)
    (case a__law_body => k_is)
    (case l__law_body => k_is)
    (case c__law_body => k_is)
    (case k__law_body => k_is)
    (case a__law_statement => k_is)
    (case l__law_statement => k_is)
    (case c__law_statement => k_is)
    (case k__law_statement => k_is)
    (case a__law_in_expr => k_is)
    (case l__law_in_expr => k_is)
    (case c__law_in_expr => k_is)
    (case k__law_in_expr => k_is)
    (case a__law_in => k_is)
    (case l__law_in => k_is)
    (case c__law_in => k_is)
    (case k__law_in => k_is)
    (case a__law_program => k_is)
    (case l__law_program => k_is)
    (case c__law_program => k_is)
    (case k__law_program => k_is)
    (case a_expressions_in => k_is)
    (case l_expressions_in => k_is)
    (case c_expressions_in => k_is)
    (case k_expressions_in => k_is)
    (case a_statements_in => k_is)
    (case l_statements_in => k_is)
    (case c_statements_in => k_is)
    (case k_statements_in => k_is)
    (case a_buffers_in => k_is)
    (case l_buffers_in => k_is)
    (case c_buffers_in => k_is)
    (case k_buffers_in => k_is)
    (case a_lives => k_is)
    (case l_lives => k_is)
    (case c_lives => k_is)
    (case k_lives => k_is)
    (case a_meet => k_is)
    (case l_meet => k_is)
    (case c_meet => k_is)
    (case k_meet => k_is)
    (case a_law => k_is)
    (case l_law => k_is)
    (case c_law => k_is)
    (case k_law => k_is)
    (case z_abs => k_is)
    (case z_any => k_is)
    (case z_bool => k_is)
    (case z_int => k_is)
    (case z_isinstance => k_is)
    (case z_len => k_is)
    (case z_list => k_is)
    (case z_max => k_is)
    (case z_min => k_is)
    (case z_range => k_is)
    (case z_tuple => k_is)
