import PyProof.Rows.All
import Wide.All
import OpenK.AllK
import Wide.FinOn
import HandS.ForMost
import HandS.ForExc
import HandS.Deep
import HandS.IsInst
import HandS.CallSlots
import HandS.SortInts
import HandS.ExcCtx
import HandS.HotCalls
import HandS.ExcIs
import HandS.Flt
import HandS.TupAny
import KE.KEqNest
import HandS.DictEq
import HandS.More
import PySem.Challenge.RW_veiled_k05_views_known

set_option Elab.async false
set_option linter.all false
set_option maxRecDepth 100000
set_option maxHeartbeats 1000000
namespace Ve
open PySem PySem.Spec PyProof.Rows L2

/-! ## plain data, modes -/
inductive D where
  | non | bl (b : Bool) | int (i : Int) | str (x : Str) | fz (ns : List Int) | ty (n : String)
  | lst (ds : List D) | tup (ds : List D)
  | dT (ks : List (List Key)) (ds : List D)
  | dK (ks : List Key) (ds : List D)
  | ex (a : Addr)
instance : Inhabited D := ⟨.non⟩

/-- bw: to be read now; sh: shared, never changed any more; ow m: a list of ours; od: a dict of ours; tp ms: a tuple of such -/
inductive Md where
  | bw | sh | ow (m : Md) | od | tp (ms : List Md) | ah (a : Addr) (m : Md)

mutual
def Md.nb : Md → Bool
  | .bw => false
  | .sh => true
  | .ow m => m.nb
  | .od => true
  | .tp ms => Md.nbs ms
  | .ah _ m => m.nb
def Md.nbs : List Md → Bool
  | [] => true
  | m :: ms => m.nb && Md.nbs ms
end
mutual
def Md.beq : Md → Md → Bool
  | .bw, .bw => true
  | .sh, .sh => true
  | .ow a, .ow b => Md.beq a b
  | .od, .od => true
  | .tp a, .tp b => Md.beqs a b
  | .ah p a, .ah q b => decide (p = q) && Md.beq a b
  | _, _ => false
def Md.beqs : List Md → List Md → Bool
  | [], [] => true
  | a :: x, b :: y => Md.beq a b && Md.beqs x y
  | _, _ => false
end
mutual
theorem Md.eq_of : ∀ a b : Md, Md.beq a b = true → a = b
  | .bw, b, h => by cases b <;> first | rfl | (simp [Md.beq] at h)
  | .sh, b, h => by cases b <;> first | rfl | (simp [Md.beq] at h)
  | .od, b, h => by cases b <;> first | rfl | (simp [Md.beq] at h)
  | .ow a, b, h => by
    cases b with
    | ow b => rw [Md.eq_of a b (by simpa [Md.beq] using h)]
    | _ => simp [Md.beq] at h
  | .ah p a, b, h => by
    cases b with
    | ah q b =>
      simp only [Md.beq, Bool.and_eq_true, decide_eq_true_eq] at h
      rw [h.1, Md.eq_of a b h.2]
    | _ => simp [Md.beq] at h
  | .tp a, b, h => by
    cases b with
    | tp b => rw [Md.eq_ofs a b (by simpa [Md.beq] using h)]
    | _ => simp [Md.beq] at h
theorem Md.eq_ofs : ∀ a b : List Md, Md.beqs a b = true → a = b
  | [], b, h => by cases b <;> first | rfl | (simp [Md.beqs] at h)
  | a :: x, b, h => by
    cases b with
    | nil => simp [Md.beqs] at h
    | cons b y =>
      simp only [Md.beqs, Bool.and_eq_true] at h
      rw [Md.eq_of a b h.1, Md.eq_ofs x y h.2]
end

/-- all that was is -/
abbrev Ex (H H' : Hp) : Prop := ∀ a o, H a = some o → H' a = some o
theorem Ex.refl (H : Hp) : Ex H H := fun _ _ h => h
theorem Ex.trans {H H1 H2 : Hp} (a : Ex H H1) (b : Ex H1 H2) : Ex H H2 := fun x o h => b x o (a x o h)
theorem Ex.new {H : Hp} {p : Addr} {o : HO} (h : H p = none) : Ex H (upd H p o) := fun a u e => by
  rw [upd_ne (ne_of_none e h)]
  exact e
theorem Ex.seqL {K : PySem.W.Frag} {H H' : Hp} {a : Addr} {xs : List V} (e : Ex H H') (h : SqL K H a xs) : SqL K H' a xs := by
  rcases h with (h | ⟨o, h⟩) | h
  · exact .inl (.inl (e _ _ h))
  · exact .inl (.inr ⟨o, e _ _ h⟩)
  · exact .inr h
theorem Ex.seqT {K : PySem.W.Frag} {H H' : Hp} {a : Addr} {xs : List V} (e : Ex H H') (h : SqT K H a xs) : SqT K H' a xs := by
  rcases h with (h | ⟨o, h⟩) | h
  · exact .inl (.inl (e _ _ h))
  · exact .inl (.inr ⟨o, e _ _ h⟩)
  · exact .inr h

/-- a list of ints that is never written: the script -/
def FzL (K : PySem.W.Frag) (H : Hp) (a : Addr) (xs : List V) : Prop :=
  (∃ o, H a = some (.frz o (.lst xs))) ∨
    ∃ (o : Obj) (its : Array Value) (n : Nat), K.lookup a = some o ∧ o.cls = .type "list" ∧ o.dict = none ∧ o.data = .seq its n ∧ its.size ≤ sizeLine ∧ Vals xs its.toList
theorem FzL.sq {K : PySem.W.Frag} {H : Hp} {a : Addr} {xs : List V} (h : FzL K H a xs) : SqL K H a xs := by
  rcases h with ⟨o, h⟩ | h
  · exact .inl (.inr ⟨o, h⟩)
  · exact .inr h
theorem Ex.fz {K : PySem.W.Frag} {H H' : Hp} {a : Addr} {xs : List V} (e : Ex H H') (h : FzL K H a xs) : FzL K H' a xs := by
  rcases h with ⟨o, h⟩ | h
  · exact .inl ⟨o, e _ _ h⟩
  · exact .inr h
/-! ## what a value is worth -/
section
variable (K : PySem.W.Frag)
mutual
def Rp (H : Hp) : D → V → Prop
  | .non, v => v = .non
  | .bl b, v => v = .bl b
  | .int i, v => v = .int i
  | .str x, v => v = .str x
  | .fz ns, v => ∃ a, v = .ref a ∧ FzL K H a (ns.map V.int)
  | .ty n, v => v = .ty n
  | .lst ds, v => ∃ a xs, v = .ref a ∧ H a = some (.lst xs) ∧ Rps H ds xs
  | .tup ds, v => ∃ a xs, v = .ref a ∧ H a = some (.tup xs) ∧ Rps H ds xs
  | .dT ks ds, v => ∃ a kvs, v = .ref a ∧ H a = some (.dT kvs) ∧ kvs.map (·.1) = ks ∧ Rps H ds (kvs.map (·.2))
  | .dK ks ds, v => ∃ a kvs, v = .ref a ∧ H a = some (.dK kvs) ∧ kvs.map (·.1) = ks ∧ Rps H ds (kvs.map (·.2))
  | .ex a, v => v = .ref a
def Rps (H : Hp) : List D → List V → Prop
  | [], vs => vs = []
  | d :: ds, vs => ∃ v r, vs = v :: r ∧ Rp H d v ∧ Rps H ds r
end
/-- pointwise, with the addresses that are ours -/
def All3 (P : D → V → List Addr → Prop) : List D → List V → List Addr → Prop
  | [], xs, f => xs = [] ∧ f = []
  | d :: ds, xs, f => ∃ v r f1 f2, xs = v :: r ∧ f = f1 ++ f2 ∧ P d v f1 ∧ All3 P ds r f2
mutual
def Rv (B H : Hp) : Md → D → V → List Addr → Prop
  | .bw, d, v, f => Rp K H d v ∧ f = []
  | .sh, d, v, f => Rp K B d v ∧ f = []
  | .ow m, d, v, f => m.nb = true ∧ ∃ ds a xs g, d = .lst ds ∧ v = .ref a ∧ H a = some (.lst xs) ∧ f = a :: g ∧ All3 (Rv B H m) ds xs g
  | .od, d, v, f => ∃ ks ds a kvs, d = .dT ks ds ∧ v = .ref a ∧ H a = some (.dT kvs) ∧ kvs.map (·.1) = ks ∧ Rps K B ds (kvs.map (·.2)) ∧ f = [a]
  | .ah p m, d, v, f => m.nb = true ∧ v = .ref p ∧ Rv B H m d v f
  | .tp ms, d, v, f => Md.nbs ms = true ∧ ∃ ds a xs, d = .tup ds ∧ v = .ref a ∧ B a = some (.tup xs) ∧ Rvs B H ms ds xs f
def Rvs (B H : Hp) : List Md → List D → List V → List Addr → Prop
  | [], ds, xs, f => ds = [] ∧ xs = [] ∧ f = []
  | m :: ms, ds, xs, f => ∃ d dr v r f1 f2, ds = d :: dr ∧ xs = v :: r ∧ f = f1 ++ f2 ∧ Rv B H m d v f1 ∧ Rvs B H ms dr r f2
end
end

section
variable {K : PySem.W.Frag}
mutual
theorem Rp.mono {H H' : Hp} (e : Ex H H') : ∀ (d : D) (v : V), Rp K H d v → Rp K H' d v
  | .non, _, h => by simpa only [Rp] using h
  | .bl _, _, h => by simpa only [Rp] using h
  | .int _, _, h => by simpa only [Rp] using h
  | .str _, _, h => by simpa only [Rp] using h
  | .ty _, _, h => by simpa only [Rp] using h
  | .fz ns, v, h => by
    simp only [Rp] at h ⊢
    obtain ⟨a, e1, s⟩ := h
    exact ⟨a, e1, e.fz s⟩
  | .lst ds, v, h => by
    simp only [Rp] at h ⊢
    obtain ⟨a, xs, e1, s, r⟩ := h
    exact ⟨a, xs, e1, e _ _ s, Rps.mono e ds xs r⟩
  | .tup ds, v, h => by
    simp only [Rp] at h ⊢
    obtain ⟨a, xs, e1, s, r⟩ := h
    exact ⟨a, xs, e1, e _ _ s, Rps.mono e ds xs r⟩
  | .dT ks ds, v, h => by
    simp only [Rp] at h ⊢
    obtain ⟨a, kvs, e1, s, k, r⟩ := h
    exact ⟨a, kvs, e1, e _ _ s, k, Rps.mono e ds _ r⟩
  | .dK ks ds, v, h => by
    simp only [Rp] at h ⊢
    obtain ⟨a, kvs, e1, s, k, r⟩ := h
    exact ⟨a, kvs, e1, e _ _ s, k, Rps.mono e ds _ r⟩
  | .ex _, _, h => by simp only [Rp] at h ⊢; exact h
theorem Rps.mono {H H' : Hp} (e : Ex H H') : ∀ (ds : List D) (vs : List V), Rps K H ds vs → Rps K H' ds vs
  | [], _, h => by simpa only [Rps] using h
  | d :: ds, vs, h => by
    simp only [Rps] at h ⊢
    obtain ⟨v, r, e1, h1, h2⟩ := h
    exact ⟨v, r, e1, Rp.mono e d v h1, Rps.mono e ds r h2⟩
end
theorem Rps.len {H : Hp} : ∀ {ds : List D} {vs : List V}, Rps K H ds vs → vs.length = ds.length
  | [], vs, h => by simp only [Rps] at h; subst h; rfl
  | d :: ds, vs, h => by
    simp only [Rps] at h
    obtain ⟨v, r, e1, h1, h2⟩ := h
    subst e1
    simp [Rps.len h2]
theorem Rps.get {H : Hp} : ∀ {ds : List D} {vs : List V} {i : Nat} {d : D}, Rps K H ds vs → ds[i]? = some d → ∃ v, vs[i]? = some v ∧ Rp K H d v
  | [], _, _, _, _, e => by simp at e
  | d :: ds, vs, i, d', h, e => by
    simp only [Rps] at h
    obtain ⟨v, r, e1, h1, h2⟩ := h
    subst e1
    cases i with
    | zero => simp at e; subst e; exact ⟨v, rfl, h1⟩
    | succ i => simpa using Rps.get h2 (by simpa using e)
theorem Rps.at {H : Hp} : ∀ {ds : List D} {vs : List V} {i : Nat} {v : V}, Rps K H ds vs → vs[i]? = some v → ∃ d, ds[i]? = some d ∧ Rp K H d v
  | [], vs, i, v, h, e => by simp only [Rps] at h; subst h; simp at e
  | d :: ds, vs, i, v', h, e => by
    simp only [Rps] at h
    obtain ⟨v, r, e1, h1, h2⟩ := h
    subst e1
    cases i with
    | zero => simp at e; subst e; exact ⟨d, rfl, h1⟩
    | succ i => simpa using Rps.at h2 (by simpa using e)
theorem Rps.app {H : Hp} : ∀ {ds es : List D} {vs us : List V}, Rps K H ds vs → Rps K H es us → Rps K H (ds ++ es) (vs ++ us)
  | [], _, vs, _, h, h' => by simp only [Rps] at h; subst h; exact h'
  | d :: ds, es, vs, us, h, h' => by
    simp only [Rps] at h
    obtain ⟨v, r, e1, h1, h2⟩ := h
    subst e1
    simp only [List.cons_append, Rps]
    exact ⟨v, r ++ us, rfl, h1, Rps.app h2 h'⟩
theorem Rps.take {H : Hp} : ∀ {ds : List D} {vs : List V} (n : Nat), Rps K H ds vs → Rps K H (ds.take n) (vs.take n)
  | [], vs, n, h => by simp only [Rps] at h; subst h; simp [Rps]
  | d :: ds, vs, n, h => by
    simp only [Rps] at h
    obtain ⟨v, r, e1, h1, h2⟩ := h
    subst e1
    cases n with
    | zero => simp [Rps]
    | succ n =>
      simp only [List.take_succ_cons, Rps]
      exact ⟨v, r.take n, rfl, h1, Rps.take n h2⟩
theorem Rps.drop {H : Hp} : ∀ {ds : List D} {vs : List V} (n : Nat), Rps K H ds vs → Rps K H (ds.drop n) (vs.drop n)
  | [], vs, n, h => by simp only [Rps] at h; subst h; simp [Rps]
  | d :: ds, vs, n, h => by
    have h' := h
    simp only [Rps] at h
    obtain ⟨v, r, e1, h1, h2⟩ := h
    subst e1
    cases n with
    | zero => exact h'
    | succ n => exact Rps.drop n h2
theorem Rps.rev {H : Hp} : ∀ {ds : List D} {vs : List V}, Rps K H ds vs → Rps K H ds.reverse vs.reverse
  | [], vs, h => by simp only [Rps] at h; subst h; simp [Rps]
  | d :: ds, vs, h => by
    simp only [Rps] at h
    obtain ⟨v, r, e1, h1, h2⟩ := h
    subst e1
    simp only [List.reverse_cons]
    exact Rps.app (Rps.rev h2) (by simp only [Rps]; exact ⟨v, [], rfl, h1, rfl⟩)
theorem Rps.one {H : Hp} {d : D} {v : V} (h : Rp K H d v) : Rps K H [d] [v] := by
  simp only [Rps]; exact ⟨v, [], rfl, h, rfl⟩
theorem Rps.cons {H : Hp} {d : D} {v : V} {ds : List D} {vs : List V} (h : Rp K H d v) (t : Rps K H ds vs) : Rps K H (d :: ds) (v :: vs) := by
  simp only [Rps]; exact ⟨v, vs, rfl, h, t⟩

/-! ### what is ours -/
theorem All3.imp {P Q : D → V → List Addr → Prop} : ∀ {ds : List D} {xs : List V} {f : List Addr}, All3 P ds xs f → (∀ d v g, (∀ a ∈ g, a ∈ f) → P d v g → Q d v g) → All3 Q ds xs f
  | [], _, _, h, _ => h
  | d :: ds, xs, f, h, k => by
    obtain ⟨v, r, f1, f2, e1, e2, h1, h2⟩ := h
    subst e2
    exact ⟨v, r, f1, f2, e1, rfl, k d v f1 (fun a ha => List.mem_append_left _ ha) h1, All3.imp h2 fun d v g hg => k d v g fun a ha => List.mem_append_right _ (hg a ha)⟩
theorem All3.app {P : D → V → List Addr → Prop} : ∀ {ds es : List D} {xs ys : List V} {f g : List Addr}, All3 P ds xs f → All3 P es ys g → All3 P (ds ++ es) (xs ++ ys) (f ++ g)
  | [], _, _, _, _, _, h, h' => by obtain ⟨rfl, rfl⟩ := h; exact h'
  | d :: ds, es, xs, ys, f, g, h, h' => by
    obtain ⟨v, r, f1, f2, e1, e2, h1, h2⟩ := h
    subst e1; subst e2
    exact ⟨v, r ++ ys, f1, f2 ++ g, rfl, List.append_assoc _ _ _, h1, All3.app h2 h'⟩
theorem All3.len {P : D → V → List Addr → Prop} : ∀ {ds : List D} {xs : List V} {f : List Addr}, All3 P ds xs f → xs.length = ds.length
  | [], _, _, h => by obtain ⟨rfl, rfl⟩ := h; rfl
  | d :: ds, xs, f, h => by
    obtain ⟨v, r, f1, f2, e1, e2, h1, h2⟩ := h
    subst e1
    simp [All3.len h2]
mutual
theorem Rv.mono {B B' H H' : Hp} (eB : Ex B B') (eH : Ex H H') : ∀ (m : Md) (d : D) (v : V) (f : List Addr), Rv K B H m d v f → Rv K B' H' m d v f
  | .bw, d, v, f, h => by simp only [Rv] at h ⊢; exact ⟨Rp.mono eH d v h.1, h.2⟩
  | .sh, d, v, f, h => by simp only [Rv] at h ⊢; exact ⟨Rp.mono eB d v h.1, h.2⟩
  | .ow m, d, v, f, h => by
    simp only [Rv] at h ⊢
    obtain ⟨n0, ds, a, xs, g, e1, e2, e3, e4, h⟩ := h
    exact ⟨n0, ds, a, xs, g, e1, e2, eH _ _ e3, e4, h.imp fun d v f _ => Rv.mono eB eH m d v f⟩
  | .od, d, v, f, h => by
    simp only [Rv] at h ⊢
    obtain ⟨ks, ds, a, kvs, e1, e2, e3, e4, h, e5⟩ := h
    exact ⟨ks, ds, a, kvs, e1, e2, eH _ _ e3, e4, Rps.mono eB _ _ h, e5⟩
  | .ah p m, d, v, f, h => by
    simp only [Rv] at h ⊢
    exact ⟨h.1, h.2.1, Rv.mono eB eH m d v f h.2.2⟩
  | .tp ms, d, v, f, h => by
    simp only [Rv] at h ⊢
    obtain ⟨n0, ds, a, xs, e1, e2, e3, h⟩ := h
    exact ⟨n0, ds, a, xs, e1, e2, eB _ _ e3, Rvs.mono eB eH ms ds xs f h⟩
theorem Rvs.mono {B B' H H' : Hp} (eB : Ex B B') (eH : Ex H H') : ∀ (ms : List Md) (ds : List D) (xs : List V) (f : List Addr), Rvs K B H ms ds xs f → Rvs K B' H' ms ds xs f
  | [], ds, xs, f, h => by simpa only [Rvs] using h
  | m :: ms, ds, xs, f, h => by
    simp only [Rvs] at h ⊢
    obtain ⟨d, dr, v, r, f1, f2, e1, e2, e3, h1, h2⟩ := h
    exact ⟨d, dr, v, r, f1, f2, e1, e2, e3, Rv.mono eB eH m d v f1 h1, Rvs.mono eB eH ms dr r f2 h2⟩
end
mutual
/-- only our own addresses matter -/
theorem Rv.keep {B B' H H' : Hp} (eB : Ex B B') : ∀ (m : Md) (d : D) (v : V) (f : List Addr), m.nb = true → (∀ a ∈ f, ∀ o, H a = some o → H' a = some o) → Rv K B H m d v f → Rv K B' H' m d v f
  | .bw, d, v, f, n, _, h => by simp [Md.nb] at n
  | .sh, d, v, f, n, _, h => by simp only [Rv] at h ⊢; exact ⟨Rp.mono eB d v h.1, h.2⟩
  | .ow m, d, v, f, n, k, h => by
    simp only [Rv] at h ⊢
    obtain ⟨n0, ds, a, xs, g, e1, e2, e3, e4, h⟩ := h
    subst e4
    exact ⟨n0, ds, a, xs, g, e1, e2, k a List.mem_cons_self _ e3, rfl, h.imp fun d v f hf => Rv.keep eB m d v f (by simpa [Md.nb] using n) fun b hb => k b (List.mem_cons_of_mem _ (hf b hb))⟩
  | .od, d, v, f, n, k, h => by
    simp only [Rv] at h ⊢
    obtain ⟨ks, ds, a, kvs, e1, e2, e3, e4, h, e5⟩ := h
    subst e5
    exact ⟨ks, ds, a, kvs, e1, e2, k a List.mem_cons_self _ e3, e4, Rps.mono eB _ _ h, rfl⟩
  | .ah p m, d, v, f, n, k, h => by
    simp only [Rv] at h ⊢
    exact ⟨h.1, h.2.1, Rv.keep eB m d v f (by simpa [Md.nb] using n) k h.2.2⟩
  | .tp ms, d, v, f, n, k, h => by
    simp only [Rv] at h ⊢
    obtain ⟨n0, ds, a, xs, e1, e2, e3, h⟩ := h
    exact ⟨n0, ds, a, xs, e1, e2, eB _ _ e3, Rvs.keep eB ms ds xs f (by simpa [Md.nb] using n) k h⟩
theorem Rvs.keep {B B' H H' : Hp} (eB : Ex B B') : ∀ (ms : List Md) (ds : List D) (xs : List V) (f : List Addr), Md.nbs ms = true → (∀ a ∈ f, ∀ o, H a = some o → H' a = some o) → Rvs K B H ms ds xs f → Rvs K B' H' ms ds xs f
  | [], ds, xs, f, _, _, h => by simpa only [Rvs] using h
  | m :: ms, ds, xs, f, n, k, h => by
    simp only [Rvs] at h ⊢
    obtain ⟨d, dr, v, r, f1, f2, e1, e2, e3, h1, h2⟩ := h
    subst e3
    simp only [Md.nbs, Bool.and_eq_true] at n
    exact ⟨d, dr, v, r, f1, f2, e1, e2, rfl, Rv.keep eB m d v f1 n.1 (fun a ha => k a (List.mem_append_left _ ha)) h1, Rvs.keep eB ms dr r f2 n.2 (fun a ha => k a (List.mem_append_right _ ha)) h2⟩
end
theorem All3.rps {H : Hp} {P : D → V → List Addr → Prop} : ∀ {ds : List D} {xs : List V} {f : List Addr}, All3 P ds xs f → (∀ d v g, (∀ a ∈ g, a ∈ f) → P d v g → Rp K H d v) → Rps K H ds xs
  | [], _, _, h, _ => by obtain ⟨rfl, rfl⟩ := h; simp [Rps]
  | d :: ds, xs, f, h, k => by
    obtain ⟨v, r, f1, f2, e1, e2, h1, h2⟩ := h
    subst e1; subst e2
    simp only [Rps]
    exact ⟨v, r, rfl, k d v f1 (fun a ha => List.mem_append_left _ ha) h1, All3.rps h2 fun d v g hg => k d v g fun a ha => List.mem_append_right _ (hg a ha)⟩
mutual
/-- with our own addresses frozen it is shared data -/
theorem Rv.frz {B B' H : Hp} (eB : Ex B B') : ∀ (m : Md) (d : D) (v : V) (f : List Addr), m.nb = true → (∀ a ∈ f, ∀ o, H a = some o → B' a = some o) → Rv K B H m d v f → Rp K B' d v
  | .bw, d, v, f, n, _, h => by simp [Md.nb] at n
  | .sh, d, v, f, n, _, h => by simp only [Rv] at h; exact Rp.mono eB d v h.1
  | .ow m, d, v, f, n, k, h => by
    simp only [Rv] at h
    obtain ⟨n0, ds, a, xs, g, e1, e2, e3, e4, h⟩ := h
    subst e1; subst e4
    simp only [Rp]
    exact ⟨a, xs, e2, k a List.mem_cons_self _ e3, h.rps fun d v f hf => Rv.frz eB m d v f (by simpa [Md.nb] using n) fun b hb => k b (List.mem_cons_of_mem _ (hf b hb))⟩
  | .od, d, v, f, n, k, h => by
    simp only [Rv] at h
    obtain ⟨ks, ds, a, kvs, e1, e2, e3, e4, h, e5⟩ := h
    subst e1; subst e5
    simp only [Rp]
    exact ⟨a, kvs, e2, k a List.mem_cons_self _ e3, e4, Rps.mono eB _ _ h⟩
  | .ah p m, d, v, f, n, k, h => by
    simp only [Rv] at h
    exact Rv.frz eB m d v f (by simpa [Md.nb] using n) k h.2.2
  | .tp ms, d, v, f, n, k, h => by
    simp only [Rv] at h
    obtain ⟨n0, ds, a, xs, e1, e2, e3, h⟩ := h
    subst e1
    simp only [Rp]
    exact ⟨a, xs, e2, eB _ _ e3, Rvs.frz eB ms ds xs f (by simpa [Md.nb] using n) k h⟩
theorem Rvs.frz {B B' H : Hp} (eB : Ex B B') : ∀ (ms : List Md) (ds : List D) (xs : List V) (f : List Addr), Md.nbs ms = true → (∀ a ∈ f, ∀ o, H a = some o → B' a = some o) → Rvs K B H ms ds xs f → Rps K B' ds xs
  | [], ds, xs, f, _, _, h => by
    simp only [Rvs] at h
    obtain ⟨rfl, rfl, rfl⟩ := h
    simp [Rps]
  | m :: ms, ds, xs, f, n, k, h => by
    simp only [Rvs] at h
    obtain ⟨d, dr, v, r, f1, f2, e1, e2, e3, h1, h2⟩ := h
    subst e1; subst e2; subst e3
    simp only [Md.nbs, Bool.and_eq_true] at n
    exact Rps.cons (Rv.frz eB m d v f1 n.1 (fun a ha => k a (List.mem_append_left _ ha)) h1) (Rvs.frz eB ms dr r f2 n.2 (fun a ha => k a (List.mem_append_right _ ha)) h2)
end
mutual
/-- now it can be read -/
theorem Rv.rp {B H : Hp} (eB : Ex B H) : ∀ (m : Md) (d : D) (v : V) (f : List Addr), Rv K B H m d v f → Rp K H d v
  | .bw, d, v, f, h => by simp only [Rv] at h; exact h.1
  | .sh, d, v, f, h => by simp only [Rv] at h; exact Rp.mono eB d v h.1
  | .ow m, d, v, f, h => by
    simp only [Rv] at h
    obtain ⟨n0, ds, a, xs, g, e1, e2, e3, e4, h⟩ := h
    subst e1
    simp only [Rp]
    exact ⟨a, xs, e2, e3, h.rps fun d v f _ => Rv.rp eB m d v f⟩
  | .od, d, v, f, h => by
    simp only [Rv] at h
    obtain ⟨ks, ds, a, kvs, e1, e2, e3, e4, h, e5⟩ := h
    subst e1
    simp only [Rp]
    exact ⟨a, kvs, e2, e3, e4, Rps.mono eB _ _ h⟩
  | .ah p m, d, v, f, h => by
    simp only [Rv] at h
    exact Rv.rp eB m d v f h.2.2
  | .tp ms, d, v, f, h => by
    simp only [Rv] at h
    obtain ⟨n0, ds, a, xs, e1, e2, e3, h⟩ := h
    subst e1
    simp only [Rp]
    exact ⟨a, xs, e2, eB _ _ e3, Rvs.rp eB ms ds xs f h⟩
theorem Rvs.rp {B H : Hp} (eB : Ex B H) : ∀ (ms : List Md) (ds : List D) (xs : List V) (f : List Addr), Rvs K B H ms ds xs f → Rps K H ds xs
  | [], ds, xs, f, h => by
    simp only [Rvs] at h
    obtain ⟨rfl, rfl, rfl⟩ := h
    simp [Rps]
  | m :: ms, ds, xs, f, h => by
    simp only [Rvs] at h
    obtain ⟨d, dr, v, r, f1, f2, e1, e2, e3, h1, h2⟩ := h
    subst e1; subst e2
    exact Rps.cons (Rv.rp eB m d v f1 h1) (Rvs.rp eB ms dr r f2 h2)
end
/-- what is ours: a list or a dict -/
def Own1 : HO → Prop
  | .lst _ => True
  | .dT _ => True
  | _ => False
theorem All3.mem {P : D → V → List Addr → Prop} {R : Addr → Prop} : ∀ {ds : List D} {xs : List V} {f : List Addr}, All3 P ds xs f → (∀ d v g, P d v g → ∀ a ∈ g, R a) → ∀ a ∈ f, R a
  | [], _, _, h, _ => by obtain ⟨rfl, rfl⟩ := h; intro a ha; cases ha
  | d :: ds, xs, f, h, k => by
    obtain ⟨v, r, f1, f2, e1, e2, h1, h2⟩ := h
    subst e2
    intro a ha
    rcases List.mem_append.mp ha with ha | ha
    · exact k d v f1 h1 a ha
    · exact All3.mem h2 k a ha
mutual
theorem Rv.mem {B H : Hp} : ∀ (m : Md) (d : D) (v : V) (f : List Addr), Rv K B H m d v f → ∀ a ∈ f, ∃ o, H a = some o ∧ Own1 o
  | .bw, d, v, f, h => by
    simp only [Rv] at h
    obtain ⟨_, rfl⟩ := h
    intro a ha; cases ha
  | .sh, d, v, f, h => by
    simp only [Rv] at h
    obtain ⟨_, rfl⟩ := h
    intro a ha; cases ha
  | .ow m, d, v, f, h => by
    simp only [Rv] at h
    obtain ⟨n0, ds, a, xs, g, e1, e2, e3, e4, h⟩ := h
    subst e4
    intro b hb
    rcases List.mem_cons.mp hb with rfl | hb
    · exact ⟨_, e3, trivial⟩
    · exact All3.mem h (fun d v g => Rv.mem m d v g) b hb
  | .od, d, v, f, h => by
    simp only [Rv] at h
    obtain ⟨ks, ds, a, kvs, e1, e2, e3, e4, h, e5⟩ := h
    subst e5
    intro b hb
    rcases List.mem_cons.mp hb with rfl | hb
    · exact ⟨_, e3, trivial⟩
    · cases hb
  | .ah p m, d, v, f, h => by
    simp only [Rv] at h
    exact Rv.mem m d v f h.2.2
  | .tp ms, d, v, f, h => by
    simp only [Rv] at h
    obtain ⟨n0, ds, a, xs, e1, e2, e3, h⟩ := h
    exact Rvs.mem ms ds xs f h
theorem Rvs.mem {B H : Hp} : ∀ (ms : List Md) (ds : List D) (xs : List V) (f : List Addr), Rvs K B H ms ds xs f → ∀ a ∈ f, ∃ o, H a = some o ∧ Own1 o
  | [], ds, xs, f, h => by
    simp only [Rvs] at h
    obtain ⟨_, _, rfl⟩ := h
    intro a ha; cases ha
  | m :: ms, ds, xs, f, h => by
    simp only [Rvs] at h
    obtain ⟨d, dr, v, r, f1, f2, e1, e2, e3, h1, h2⟩ := h
    subst e3
    intro a ha
    rcases List.mem_append.mp ha with ha | ha
    · exact Rv.mem m d v f1 h1 a ha
    · exact Rvs.mem ms dr r f2 h2 a ha
end

/-! ### data without lists -/
mutual
def D.atm : D → Bool
  | .non | .bl _ | .int _ | .str _ | .fz _ | .ty _ => true
  | .lst _ => false
  | .tup ds => D.atms ds
  | .dT _ _ | .dK _ _ | .ex _ => false
def D.atms : List D → Bool
  | [] => true
  | d :: ds => d.atm && D.atms ds
end
def tupO : HO → Bool
  | .tup _ => true
  | .frz _ _ => true
  | _ => false
/-- B with the tuples of H -/
def wT (B H : Hp) : Hp := fun a => match H a with
  | some o => if tupO o then some o else B a
  | none => B a
theorem wT.ex {B H : Hp} (e : Ex B H) : Ex B (wT B H) := fun a o h => by
  unfold wT
  rw [e a o h]
  show (if tupO o = true then some o else B a) = some o
  split
  · rfl
  · exact h
theorem wT.le {B H : Hp} (e : Ex B H) : Ex (wT B H) H := fun a o h => by
  unfold wT at h
  cases q : H a with
  | none =>
    rw [q] at h
    have := e a o h
    rw [q] at this
    cases this
  | some u =>
    rw [q] at h
    replace h : (if tupO u = true then some u else B a) = some o := h
    split at h
    · exact h
    · rw [← q]; exact e a o h
theorem wT.tup {B H : Hp} {a : Addr} {o : HO} (h : H a = some o) (t : tupO o = true) : wT B H a = some o := by
  unfold wT
  rw [h]
  show (if tupO o = true then some o else B a) = some o
  rw [if_pos t]
theorem wT.own {B H : Hp} {a : Addr} {o : HO} (h : H a = some o) (t : Own1 o) : wT B H a = B a := by
  unfold wT
  rw [h]
  show (if tupO o = true then some o else B a) = B a
  rw [if_neg]
  cases o <;> simp_all [Own1, tupO]
theorem wT.inv {B H : Hp} {a : Addr} {o : HO} (h : wT B H a = some o) : B a = some o ∨ tupO o = true := by
  unfold wT at h
  cases q : H a with
  | none =>
    rw [q] at h
    exact .inl h
  | some u =>
    rw [q] at h
    replace h : (if tupO u = true then some u else B a) = some o := h
    split at h
    · rename_i hu
      rw [Option.some.inj h] at hu
      exact .inr hu
    · exact .inl h
theorem wT.fz {B H : Hp} {a : Addr} {xs : List V} (h : FzL K H a xs) : FzL K (wT B H) a xs := by
  rcases h with ⟨o, h⟩ | h
  · exact .inl ⟨o, wT.tup h rfl⟩
  · exact .inr h
mutual
theorem Rp.atm {B H : Hp} : ∀ (d : D) (v : V), d.atm = true → Rp K H d v → Rp K (wT B H) d v
  | .non, _, _, h => by simpa only [Rp] using h
  | .bl _, _, _, h => by simpa only [Rp] using h
  | .int _, _, _, h => by simpa only [Rp] using h
  | .str _, _, _, h => by simpa only [Rp] using h
  | .ty _, _, _, h => by simpa only [Rp] using h
  | .fz ns, v, _, h => by
    simp only [Rp] at h ⊢
    obtain ⟨a, e1, s⟩ := h
    exact ⟨a, e1, wT.fz s⟩
  | .lst ds, v, n, h => by simp [D.atm] at n
  | .tup ds, v, n, h => by
    simp only [Rp] at h ⊢
    obtain ⟨a, xs, e1, s, r⟩ := h
    exact ⟨a, xs, e1, wT.tup s rfl, Rps.atm ds xs (by simpa [D.atm] using n) r⟩
  | .dT _ _, v, n, h => by simp [D.atm] at n
  | .dK _ _, v, n, h => by simp [D.atm] at n
  | .ex _, v, n, h => by simp [D.atm] at n
theorem Rps.atm {B H : Hp} : ∀ (ds : List D) (vs : List V), D.atms ds = true → Rps K H ds vs → Rps K (wT B H) ds vs
  | [], _, _, h => by simpa only [Rps] using h
  | d :: ds, vs, n, h => by
    simp only [Rps] at h ⊢
    simp only [D.atms, Bool.and_eq_true] at n
    obtain ⟨v, r, e1, h1, h2⟩ := h
    exact ⟨v, r, e1, Rp.atm d v n.1 h1, Rps.atm ds r n.2 h2⟩
end
end

/-! ## the frame -/
abbrev Ent := Option (D × Md)
abbrev SS := List Ent
section
variable (K : PySem.W.Frag)
def En (B H : Hp) : Ent → Option V → List Addr → Prop
  | none, _, f => f = []
  | some dm, v, f => ∃ x, v = some x ∧ Rv K B H dm.2 dm.1 x f
def Ss (B H : Hp) : SS → List (Option V) → List Addr → Prop
  | [], vs, f => vs = [] ∧ f = []
  | e :: es, vs, f => ∃ v r f1 f2, vs = v :: r ∧ f = f1 ++ f2 ∧ En K B H e v f1 ∧ Ss B H es r f2
def Ent.nb : Ent → Bool
  | none => true
  | some dm => dm.2.nb
def nbs (es : SS) : Prop := ∀ e ∈ es, Ent.nb e = true
/-- B: what is shared; F: what stood when the def began; B0: of that what it may share; g: addresses laid by -/
structure Fr (B0 F B H : Hp) (g : List Addr) (es : SS) (vs : List (Option V)) : Prop where
  ex : Ex B H
  fx : Ex F H
  b0 : Ex B0 B
  sub : ∀ a o, B a = some o → F a ≠ none → B0 a ≠ none ∨ tupO o = true
  it : ∃ f, Ss K B H es vs f ∧ (g ++ f).Nodup ∧ ∀ a ∈ g ++ f, B a = none ∧ F a = none ∧ ∃ o, H a = some o ∧ Own1 o
end
end Ve

set_option Elab.async false
set_option linter.all false
set_option maxRecDepth 100000
set_option maxHeartbeats 1000000
namespace Ve
open PySem PySem.Spec PyProof.Rows L2
section
variable {K : PySem.W.Frag} {B0 F B B' H H' : Hp} {g f : List Addr} {es ss ts : SS} {vs tv : List (Option V)} {σ : L2.St} {d : D} {m : Md} {v : V}

theorem Rv.mksh (h : Rp K B d v) : Rv K B H .sh d v [] := by
  simp only [Rv]
  exact ⟨h, trivial⟩
theorem Rv.mkbw (h : Rp K H d v) : Rv K B H .bw d v [] := by
  simp only [Rv]
  exact ⟨h, trivial⟩
theorem En.mono (eB : Ex B B') (eH : Ex H H') : ∀ {e : Ent} {v : Option V} {f : List Addr}, En K B H e v f → En K B' H' e v f
  | none, _, _, h => h
  | some dm, v, f, h => by
    obtain ⟨x, e1, h⟩ := h
    exact ⟨x, e1, Rv.mono eB eH _ _ _ _ h⟩
theorem En.keep (eB : Ex B B') : ∀ {e : Ent} {v : Option V} {f : List Addr}, Ent.nb e = true → (∀ a ∈ f, ∀ o, H a = some o → H' a = some o) → En K B H e v f → En K B' H' e v f
  | none, _, _, _, _, h => h
  | some dm, v, f, n, k, h => by
    obtain ⟨x, e1, h⟩ := h
    exact ⟨x, e1, Rv.keep eB _ _ _ _ n k h⟩
theorem En.mem : ∀ {e : Ent} {v : Option V} {f : List Addr}, En K B H e v f → ∀ a ∈ f, ∃ o, H a = some o ∧ Own1 o
  | none, _, _, h => by
    cases (show _ = [] from h)
    intro a ha; cases ha
  | some dm, v, f, h => by
    obtain ⟨x, e1, h⟩ := h
    exact Rv.mem _ _ _ _ h
theorem Ss.mono (eB : Ex B B') (eH : Ex H H') : ∀ {es : SS} {vs : List (Option V)} {f : List Addr}, Ss K B H es vs f → Ss K B' H' es vs f
  | [], _, _, h => h
  | e :: es, vs, f, h => by
    obtain ⟨v, r, f1, f2, e1, e2, h1, h2⟩ := h
    exact ⟨v, r, f1, f2, e1, e2, h1.mono eB eH, Ss.mono eB eH h2⟩
theorem Ss.keep (eB : Ex B B') : ∀ {es : SS} {vs : List (Option V)} {f : List Addr}, nbs es → (∀ a ∈ f, ∀ o, H a = some o → H' a = some o) → Ss K B H es vs f → Ss K B' H' es vs f
  | [], _, _, _, _, h => h
  | e :: es, vs, f, n, k, h => by
    obtain ⟨v, r, f1, f2, e1, e2, h1, h2⟩ := h
    subst e2
    exact ⟨v, r, f1, f2, e1, rfl, h1.keep eB (n e List.mem_cons_self) fun a ha => k a (List.mem_append_left _ ha), Ss.keep eB (fun x hx => n x (List.mem_cons_of_mem _ hx)) (fun a ha => k a (List.mem_append_right _ ha)) h2⟩
theorem Ss.mem : ∀ {es : SS} {vs : List (Option V)} {f : List Addr}, Ss K B H es vs f → ∀ a ∈ f, ∃ o, H a = some o ∧ Own1 o
  | [], _, _, h => by
    obtain ⟨_, rfl⟩ := h
    intro a ha; cases ha
  | e :: es, vs, f, h => by
    obtain ⟨v, r, f1, f2, e1, e2, h1, h2⟩ := h
    subst e2
    intro a ha
    rcases List.mem_append.mp ha with ha | ha
    · exact h1.mem a ha
    · exact Ss.mem h2 a ha
theorem Ss.len : ∀ {es : SS} {vs : List (Option V)} {f : List Addr}, Ss K B H es vs f → vs.length = es.length
  | [], _, _, h => by obtain ⟨rfl, _⟩ := h; rfl
  | e :: es, vs, f, h => by
    obtain ⟨v, r, f1, f2, e1, e2, h1, h2⟩ := h
    subst e1
    simp [Ss.len h2]
/-- one entry, and what may stand in its place -/
theorem Ss.at : ∀ {es : SS} {vs : List (Option V)} {f : List Addr} {i : Nat} {e : Ent}, Ss K B H es vs f → es[i]? = some e →
    ∃ v fi fr, vs[i]? = some v ∧ En K B H e v fi ∧ f.Perm (fi ++ fr) ∧ ∀ e' v' f', En K B H e' v' f' → ∃ f2, Ss K B H (es.set i e') (vs.set i v') f2 ∧ f2.Perm (f' ++ fr)
  | [], _, _, _, _, _, e => by simp at e
  | e :: es, vs, f, i, e', h, he => by
    obtain ⟨v, r, f1, f2, e1, e2, h1, h2⟩ := h
    subst e1; subst e2
    cases i with
    | zero =>
      simp at he
      subst he
      exact ⟨v, f1, f2, rfl, h1, List.Perm.refl _, fun e' v' f' h' => ⟨f' ++ f2, ⟨v', r, f', f2, rfl, rfl, h', h2⟩, List.Perm.refl _⟩⟩
    | succ i =>
      obtain ⟨u, fi, fr, q1, q2, q3, q4⟩ := Ss.at h2 (by simpa using he)
      refine ⟨u, fi, f1 ++ fr, by simpa using q1, q2, ?_, fun e'' v' f' h' => ?_⟩
      · exact (List.Perm.append_left f1 q3).trans (by rw [← List.append_assoc, ← List.append_assoc]; exact List.Perm.append_right fr List.perm_append_comm)
      · obtain ⟨f3, s3, p3⟩ := q4 e'' v' f' h'
        refine ⟨f1 ++ f3, ⟨v, r.set i v', f1, f3, rfl, rfl, h1, s3⟩, ?_⟩
        exact (List.Perm.append_left f1 p3).trans (by rw [← List.append_assoc, ← List.append_assoc]; exact List.Perm.append_right fr List.perm_append_comm)

theorem nodup_sub {f g : List Addr} (h : (f ++ g).Nodup) : g.Nodup := (List.nodup_append.mp h).2.1

/-! ### what is laid by -/
theorem Fr.perm {g' : List Addr} (p : g.Perm g') (h : Fr K B0 F B H g es vs) : Fr K B0 F B H g' es vs := by
  obtain ⟨f, s, n, k⟩ := h.it
  exact ⟨h.ex, h.fx, h.b0, h.sub, f, s, ((p.append_right f).nodup_iff).mp n, fun a ha => k a (((p.append_right f).mem_iff).mpr ha)⟩
theorem Fr.drop {f : List Addr} (h : Fr K B0 F B H (f ++ g) es vs) : Fr K B0 F B H g es vs := by
  obtain ⟨f', s, n, k⟩ := h.it
  rw [List.append_assoc] at n k
  exact ⟨h.ex, h.fx, h.b0, h.sub, f', s, nodup_sub n, fun a ha => k a (List.mem_append_right _ ha)⟩
theorem Fr.pop {dm : D × Md} (h : Fr K B0 F B H g (some dm :: es) vs) : ∃ v f vs', vs = some v :: vs' ∧ Rv K B H dm.2 dm.1 v f ∧ Fr K B0 F B H (f ++ g) es vs' := by
  obtain ⟨f, ⟨v, r, f1, f2, e1, e2, ⟨x, e3, h1⟩, h2⟩, n, k⟩ := h.it
  subst e1; subst e2; subst e3
  refine ⟨x, f1, r, rfl, h1, h.ex, h.fx, h.b0, h.sub, f2, h2, ?_, fun a ha => k a ?_⟩
  · have p : (g ++ (f1 ++ f2)).Perm (f1 ++ g ++ f2) := by
      rw [← List.append_assoc]
      exact List.Perm.append_right f2 List.perm_append_comm
    exact (p.nodup_iff).mp n
  · rcases List.mem_append.mp ha with ha | ha
    · rcases List.mem_append.mp ha with ha | ha
      · exact List.mem_append_right _ (List.mem_append_left _ ha)
      · exact List.mem_append_left _ ha
    · exact List.mem_append_right _ (List.mem_append_right _ ha)
theorem Fr.pop1 {dm : D × Md} {w : Option V} {vs : List (Option V)} (h : Fr K B0 F B H g (some dm :: es) (w :: vs)) : ∃ v f, w = some v ∧ Rv K B H dm.2 dm.1 v f ∧ Fr K B0 F B H (f ++ g) es vs := by
  obtain ⟨v, f, vs', e, r, h⟩ := h.pop
  injection e with e1 e2
  subst e1; subst e2
  exact ⟨v, f, rfl, r, h⟩
theorem Fr.push (h : Fr K B0 F B H (f ++ g) es vs) (r : Rv K B H m d v f) : Fr K B0 F B H g (some (d, m) :: es) (some v :: vs) := by
  obtain ⟨f', s, n, k⟩ := h.it
  refine ⟨h.ex, h.fx, h.b0, h.sub, f ++ f', ⟨some v, vs, f, f', rfl, rfl, ⟨v, rfl, r⟩, s⟩, ?_, fun a ha => k a ?_⟩
  · have p : (f ++ g ++ f').Perm (g ++ (f ++ f')) := by
      rw [← List.append_assoc]
      exact List.Perm.append_right f' List.perm_append_comm
    exact (p.nodup_iff).mp n
  · rcases List.mem_append.mp ha with ha | ha
    · exact List.mem_append_left _ (List.mem_append_right _ ha)
    · rcases List.mem_append.mp ha with ha | ha
      · exact List.mem_append_left _ (List.mem_append_left _ ha)
      · exact List.mem_append_right _ ha
/-- a value that is none of ours -/
theorem Fr.push0 (h : Fr K B0 F B H g es vs) (r : Rv K B H m d v []) : Fr K B0 F B H g (some (d, m) :: es) (some v :: vs) := Fr.push (f := []) h r
theorem Fr.popD {e : Ent} {w : Option V} {vs : List (Option V)} (h : Fr K B0 F B H g (e :: es) (w :: vs)) : Fr K B0 F B H g es vs := by
  obtain ⟨f, ⟨v, r, f1, f2, e1, e2, h1, h2⟩, n, k⟩ := h.it
  injection e1 with e1 e3
  subst e3; subst e2
  refine ⟨h.ex, h.fx, h.b0, h.sub, f2, h2, ?_, fun a ha => k a ?_⟩
  · obtain ⟨n1, n2, n3⟩ := List.nodup_append.mp n
    refine List.nodup_append.mpr ⟨n1, nodup_sub n2, fun a ha b hb => n3 a ha b (List.mem_append_right _ hb)⟩
  · rcases List.mem_append.mp ha with ha | ha
    · exact List.mem_append_left _ ha
    · exact List.mem_append_right _ (List.mem_append_right _ ha)
theorem Fr.pushN (h : Fr K B0 F B H g es vs) (w : Option V) : Fr K B0 F B H g (none :: es) (w :: vs) := by
  obtain ⟨f, s, n, k⟩ := h.it
  exact ⟨h.ex, h.fx, h.b0, h.sub, f, ⟨w, vs, [], f, rfl, rfl, rfl, s⟩, n, k⟩
theorem Fr.len (h : Fr K B0 F B H g es vs) : vs.length = es.length := by
  obtain ⟨f, s, _⟩ := h.it
  exact s.len
theorem set_same {α : Type} : ∀ {l : List α} {i : Nat} {x : α}, l[i]? = some x → l.set i x = l
  | [], _, _, h => by simp at h
  | a :: l, 0, x, h => by simp at h; subst h; rfl
  | a :: l, i + 1, x, h => by simp only [List.set_cons_succ]; rw [set_same (by simpa using h)]
theorem set_app {α : Type} {ts ss : List α} {i : Nat} {e : α} : (ts ++ ss).set (ts.length + i) e = ts ++ ss.set i e := by
  rw [List.set_append_right _ _ (Nat.le_add_right _ _), Nat.add_sub_cancel_left]
theorem get_app {α : Type} {ts ss : List α} {i : Nat} : (ts ++ ss)[ts.length + i]? = ss[i]? := by
  rw [List.getElem?_append_right (Nat.le_add_right _ _), Nat.add_sub_cancel_left]
/-- a slot, taken out -/
theorem Fr.takeS {i : Nat} (hl : ts.length = tv.length) (h : Fr K B0 F B H g (ts ++ ss) (tv ++ σ)) (e : ss[i]? = some (some (d, m))) :
    ∃ v f, σ[i]? = some (some v) ∧ Rv K B H m d v f ∧ Fr K B0 F B H (f ++ g) (ts ++ ss.set i none) (tv ++ σ) := by
  obtain ⟨f, s, n, k⟩ := h.it
  obtain ⟨v, fi, fr, q1, ⟨x, q2, q2'⟩, q3, q4⟩ := s.at (i := ts.length + i) (e := some (d, m)) (by rw [get_app]; exact e)
  subst q2
  rw [hl, get_app] at q1
  obtain ⟨f2, s2, p2⟩ := q4 none (some x) [] rfl
  rw [set_app, hl, set_app, set_same q1] at s2
  refine ⟨x, fi, q1, q2', h.ex, h.fx, h.b0, h.sub, f2, s2, ?_, fun a ha => k a ?_⟩
  · have p : (g ++ f).Perm (fi ++ g ++ f2) := (List.Perm.append_left g q3).trans (by
      rw [← List.append_assoc]
      refine (List.Perm.append_right fr List.perm_append_comm).trans (List.Perm.append_left _ ?_)
      simpa using p2.symm)
    exact (p.nodup_iff).mp n
  · have hf2 : ∀ b, b ∈ f2 → b ∈ f := fun b hb => (q3.mem_iff).mpr (List.mem_append_right _ (by simpa using (p2.mem_iff).mp hb))
    rcases List.mem_append.mp ha with ha | ha
    · rcases List.mem_append.mp ha with ha | ha
      · exact List.mem_append_right _ ((q3.mem_iff).mpr (List.mem_append_left _ ha))
      · exact List.mem_append_left _ ha
    · exact List.mem_append_right _ (hf2 a ha)
/-- a slot, set -/
theorem Fr.putS {i : Nat} (hl : ts.length = tv.length) (h : Fr K B0 F B H (f ++ g) (ts ++ ss) (tv ++ σ)) (hi : i < ss.length) (r : Rv K B H m d v f) :
    Fr K B0 F B H g (ts ++ ss.set i (some (d, m))) (tv ++ σ.set i (some v)) := by
  obtain ⟨f', s, n, k⟩ := h.it
  obtain ⟨v0, fi, fr, q1, _, q3, q4⟩ := s.at (i := ts.length + i) (e := ss[i]) (by rw [get_app]; simp [hi])
  obtain ⟨f2, s2, p2⟩ := q4 (some (d, m)) (some v) f ⟨v, rfl, r⟩
  rw [set_app, hl, set_app] at s2
  refine ⟨h.ex, h.fx, h.b0, h.sub, f2, s2, ?_, fun a ha => k a ?_⟩
  · have n' : (f ++ g ++ (fi ++ fr)).Nodup := ((List.Perm.append_left _ q3).nodup_iff).mp n
    have n2 : (f ++ g ++ fr).Nodup := by
      obtain ⟨n1, n2, n3⟩ := List.nodup_append.mp n'
      exact List.nodup_append.mpr ⟨n1, nodup_sub n2, fun a ha b hb => n3 a ha b (List.mem_append_right _ hb)⟩
    have p : (f ++ g ++ fr).Perm (g ++ f2) := by
      refine (List.Perm.append_right fr List.perm_append_comm).trans ?_
      rw [List.append_assoc]
      exact List.Perm.append_left g p2.symm
    exact (p.nodup_iff).mp n2
  · rcases List.mem_append.mp ha with ha | ha
    · exact List.mem_append_left _ (List.mem_append_right _ ha)
    · rcases List.mem_append.mp ((p2.mem_iff).mp ha) with ha | ha
      · exact List.mem_append_left _ (List.mem_append_left _ ha)
      · exact List.mem_append_right _ ((q3.mem_iff).mpr (List.mem_append_right _ ha))
/-- a slot, forgotten -/
theorem Fr.noneS {i : Nat} (hl : ts.length = tv.length) (h : Fr K B0 F B H g (ts ++ ss) (tv ++ σ)) (hi : i < ss.length) (w : Option V) :
    Fr K B0 F B H g (ts ++ ss.set i none) (tv ++ σ.set i w) := by
  obtain ⟨f', s, n, k⟩ := h.it
  obtain ⟨v0, fi, fr, q1, _, q3, q4⟩ := s.at (i := ts.length + i) (e := ss[i]) (by rw [get_app]; simp [hi])
  obtain ⟨f2, s2, p2⟩ := q4 none w [] rfl
  rw [set_app, hl, set_app] at s2
  have p2' : f2.Perm fr := by simpa using p2
  refine ⟨h.ex, h.fx, h.b0, h.sub, f2, s2, ?_, fun a ha => k a ?_⟩
  · have n' : (g ++ (fi ++ fr)).Nodup := ((List.Perm.append_left _ q3).nodup_iff).mp n
    obtain ⟨n1, n2, n3⟩ := List.nodup_append.mp n'
    have n4 : (g ++ fr).Nodup := List.nodup_append.mpr ⟨n1, nodup_sub n2, fun a ha b hb => n3 a ha b (List.mem_append_right _ hb)⟩
    exact ((List.Perm.append_left g p2').nodup_iff).mpr n4
  · rcases List.mem_append.mp ha with ha | ha
    · exact List.mem_append_left _ ha
    · exact List.mem_append_right _ ((q3.mem_iff).mpr (List.mem_append_right _ ((p2'.mem_iff).mp ha)))
/-- an entry in the middle goes to the front -/
theorem Ss.app : ∀ {l1 l2 : SS} {w1 w2 : List (Option V)} {f : List Addr}, l1.length = w1.length → (Ss K B H (l1 ++ l2) (w1 ++ w2) f ↔ ∃ f1 f2, f = f1 ++ f2 ∧ Ss K B H l1 w1 f1 ∧ Ss K B H l2 w2 f2)
  | [], l2, [], w2, f, _ => by
    constructor
    · intro h; exact ⟨[], f, rfl, ⟨rfl, rfl⟩, h⟩
    · rintro ⟨f1, f2, rfl, ⟨_, rfl⟩, h⟩; exact h
  | [], _, _ :: _, _, _, e => by simp at e
  | _ :: _, _, [], _, _, e => by simp at e
  | e :: l1, l2, w :: w1, w2, f, hl => by
    have ih := fun (f : List Addr) => @Ss.app l1 l2 w1 w2 f (by simpa using hl)
    constructor
    · rintro ⟨v, r, f1, f2, e1, e2, h1, h2⟩
      injection e1 with e1 e3
      subst e1; subst e3
      obtain ⟨f3, f4, e4, h3, h4⟩ := (ih f2).mp h2
      exact ⟨f1 ++ f3, f4, by rw [e2, e4, List.append_assoc], ⟨w, w1, f1, f3, rfl, rfl, h1, h3⟩, h4⟩
    · rintro ⟨f1, f2, e2, ⟨v, r, f3, f4, e1, e4, h3, h4⟩, h2⟩
      injection e1 with e1 e3
      subst e1; subst e3
      exact ⟨w, w1 ++ w2, f3, f4 ++ f2, rfl, by rw [e2, e4, List.append_assoc], h3, (ih _).mpr ⟨f4, f2, rfl, h4, h2⟩⟩
theorem Fr.front {l1 l2 : SS} {e : Ent} {w1 w2 : List (Option V)} {w : Option V} (hl : l1.length = w1.length) (h : Fr K B0 F B H g (l1 ++ e :: l2) (w1 ++ w :: w2)) : Fr K B0 F B H g (e :: (l1 ++ l2)) (w :: (w1 ++ w2)) := by
  obtain ⟨f, s, n, k⟩ := h.it
  obtain ⟨f1, f2, e2, s1, ⟨v, r, f3, f4, e1, e4, h3, h4⟩⟩ := (Ss.app hl).mp s
  injection e1 with e1 e3
  subst e1; subst e3; subst e2; subst e4
  have p : (f1 ++ (f3 ++ f4)).Perm (f3 ++ (f1 ++ f4)) := by
    rw [← List.append_assoc, ← List.append_assoc]
    exact List.Perm.append_right f4 List.perm_append_comm
  exact ⟨h.ex, h.fx, h.b0, h.sub, f3 ++ (f1 ++ f4), ⟨w, _, f3, f1 ++ f4, rfl, rfl, h3, (Ss.app hl).mpr ⟨f1, f4, rfl, s1, h4⟩⟩, ((List.Perm.append_left g p).nodup_iff).mp n, fun a ha => k a (((List.Perm.append_left g p).mem_iff).mpr ha)⟩
theorem Fr.back {l1 l2 : SS} {e : Ent} {w1 w2 : List (Option V)} {w : Option V} (hl : l1.length = w1.length) (h : Fr K B0 F B H g (e :: (l1 ++ l2)) (w :: (w1 ++ w2))) : Fr K B0 F B H g (l1 ++ e :: l2) (w1 ++ w :: w2) := by
  obtain ⟨f, ⟨v, r, f3, f4, e1, e4, h3, h4⟩, n, k⟩ := h.it
  injection e1 with e1 e3
  subst e1; subst e3; subst e4
  obtain ⟨f1, f2, e2, s1, s2⟩ := (Ss.app hl).mp h4
  subst e2
  have p : (f3 ++ (f1 ++ f2)).Perm (f1 ++ (f3 ++ f2)) := by
    rw [← List.append_assoc, ← List.append_assoc]
    exact List.Perm.append_right f2 List.perm_append_comm
  exact ⟨h.ex, h.fx, h.b0, h.sub, f1 ++ (f3 ++ f2), (Ss.app hl).mpr ⟨f1, f3 ++ f2, rfl, s1, ⟨w, w2, f3, f2, rfl, rfl, h3, s2⟩⟩, ((List.Perm.append_left g p).nodup_iff).mp n, fun a ha => k a (((List.Perm.append_left g p).mem_iff).mpr ha)⟩

/-! ### the heap goes on -/
theorem Fr.not_none (h : Fr K B0 F B H g es vs) {p : Addr} (hp : H p = none) : B p = none ∧ F p = none := by
  constructor
  · cases q : B p with
    | none => rfl
    | some o => have := h.ex _ _ q; rw [hp] at this; cases this
  · cases q : F p with
    | none => rfl
    | some o => have := h.fx _ _ q; rw [hp] at this; cases this
theorem Fr.alloc {p : Addr} {o : HO} (h : Fr K B0 F B H g es vs) (hp : H p = none) (ho : Own1 o) : Fr K B0 F B (upd H p o) (p :: g) es vs := by
  obtain ⟨f, s, n, k⟩ := h.it
  have e := Ex.new (o := o) hp
  obtain ⟨b1, b2⟩ := h.not_none hp
  refine ⟨h.ex.trans e, h.fx.trans e, h.b0, h.sub, f, s.mono (Ex.refl _) e, ?_, fun a ha => ?_⟩
  · refine List.nodup_cons.mpr ⟨fun hm => ?_, n⟩
    obtain ⟨_, _, u, hu, _⟩ := k p hm
    rw [hp] at hu; cases hu
  · rcases List.mem_cons.mp ha with rfl | ha
    · exact ⟨b1, b2, o, upd_same, ho⟩
    · obtain ⟨c1, c2, u, hu, hv⟩ := k a ha
      exact ⟨c1, c2, u, e _ _ hu, hv⟩
theorem Fr.allocS {p : Addr} {o : HO} (h : Fr K B0 F B H g es vs) (hp : H p = none) : Fr K B0 F (upd B p o) (upd H p o) g es vs := by
  obtain ⟨f, s, n, k⟩ := h.it
  have e := Ex.new (o := o) hp
  obtain ⟨b1, b2⟩ := h.not_none hp
  have eb := Ex.new (o := o) b1
  refine ⟨fun a u q => ?_, h.fx.trans e, h.b0.trans eb, fun a u q z => ?_, f, s.mono eb e, n, fun a ha => ?_⟩
  · by_cases ha : a = p
    · subst ha; rw [upd_same] at q ⊢; exact q
    · rw [upd_ne ha] at q ⊢; exact h.ex _ _ q
  · by_cases ha : a = p
    · subst ha; exact absurd b2 z
    · rw [upd_ne ha] at q; exact h.sub _ _ q z
  · obtain ⟨c1, c2, u, hu, hv⟩ := k a ha
    have ne : a ≠ p := fun z => by subst z; rw [hp] at hu; cases hu
    exact ⟨by rw [upd_ne ne]; exact c1, c2, u, e _ _ hu, hv⟩
theorem Fr.write {p : Addr} {o : HO} (h : Fr K B0 F B H g es vs) (hp : p ∈ g) (n : nbs es) (ho : Own1 o) : Fr K B0 F B (upd H p o) g es vs := by
  obtain ⟨f, s, nd, k⟩ := h.it
  obtain ⟨b1, b2, _⟩ := k p (List.mem_append_left _ hp)
  have ex : ∀ {C : Hp}, C p = none → Ex C H → Ex C (upd H p o) := fun {C} hc e a u q => by
    rw [upd_ne (ne_of_none q hc)]
    exact e a u q
  refine ⟨ex b1 h.ex, ex b2 h.fx, h.b0, h.sub, f, s.keep (Ex.refl _) n (fun a ha u q => ?_), nd, fun a ha => ?_⟩
  · have ne : a ≠ p := fun z => by
      subst z
      exact (List.nodup_append.mp nd).2.2 a hp a ha rfl
    rw [upd_ne ne]
    exact q
  · obtain ⟨c1, c2, u, hu, hv⟩ := k a ha
    by_cases z : a = p
    · subst z; exact ⟨c1, c2, o, upd_same, ho⟩
    · exact ⟨c1, c2, u, by rw [upd_ne z]; exact hu, hv⟩
theorem Fr.share {p : Addr} {o : HO} (h : Fr K B0 F B H (p :: g) es vs) (hp : H p = some o) : Fr K B0 F (upd B p o) H g es vs := by
  obtain ⟨f, s, n, k⟩ := h.it
  obtain ⟨b1, b2, _⟩ := k p List.mem_cons_self
  have eb := Ex.new (o := o) b1
  rw [List.cons_append] at n k
  obtain ⟨n1, n2⟩ := List.nodup_cons.mp n
  refine ⟨fun a u q => ?_, h.fx, h.b0.trans eb, fun a u q z => ?_, f, s.mono eb (Ex.refl _), n2, fun a ha => ?_⟩
  · by_cases ha : a = p
    · subst ha; rw [upd_same] at q; rw [hp]; exact q
    · rw [upd_ne ha] at q; exact h.ex _ _ q
  · by_cases ha : a = p
    · subst ha; exact absurd b2 z
    · rw [upd_ne ha] at q; exact h.sub _ _ q z
  · obtain ⟨c1, c2, u, hu, hv⟩ := k a (List.mem_cons_of_mem _ ha)
    have ne : a ≠ p := fun z => by subst z; exact n1 ha
    exact ⟨by rw [upd_ne ne]; exact c1, c2, u, hu, hv⟩
theorem Fr.shareAll : ∀ {f : List Addr} {B : Hp}, Fr K B0 F B H (f ++ g) es vs → ∃ B', Ex B B' ∧ (∀ a ∈ f, ∀ o, H a = some o → B' a = some o) ∧ Fr K B0 F B' H g es vs
  | [], B, h => ⟨B, Ex.refl _, fun _ ha => (nomatch ha), h⟩
  | p :: f, B, h => by
    obtain ⟨ff, s, n, k⟩ := h.it
    obtain ⟨b1, b2, o, ho, _⟩ := k p List.mem_cons_self
    obtain ⟨B', e, z, h'⟩ := Fr.shareAll (f := f) (h.share (g := f ++ g) ho)
    refine ⟨B', (Ex.new b1).trans e, fun a ha u hu => ?_, h'⟩
    rcases List.mem_cons.mp ha with rfl | ha
    · rw [ho] at hu
      cases hu
      exact e _ _ upd_same
    · exact z a ha u hu
theorem Fr.wt (h : Fr K B0 F B H g es vs) : Fr K B0 F (wT B H) H g es vs := by
  obtain ⟨f, s, n, k⟩ := h.it
  refine ⟨wT.le h.ex, h.fx, h.b0.trans (wT.ex h.ex), fun a o q z => ?_, f, s.mono (wT.ex h.ex) (Ex.refl _), n, fun a ha => ?_⟩
  · rcases wT.inv q with q | q
    · exact h.sub _ _ q z
    · exact .inr q
  · obtain ⟨c1, c2, u, hu, hv⟩ := k a ha
    exact ⟨(wT.own hu hv).trans c1, c2, u, hu, hv⟩
/-- every entry as shared -/
theorem Fr.sh {m : Md} {d : D} {v : V} (h : Fr K B0 F B H g (some (d, m) :: es) (some v :: vs)) (n : m.nb = true) : ∃ B', Ex B B' ∧ Fr K B0 F B' H g (some (d, .sh) :: es) (some v :: vs) := by
  obtain ⟨x, f, e, r, h⟩ := h.pop1
  cases e
  obtain ⟨B', eb, z, h'⟩ := h.shareAll
  exact ⟨B', eb, h'.push0 (Rv.mksh (Rv.frz eb _ _ _ _ n z r))⟩
/-- data without lists may be kept -/
theorem Fr.at {m : Md} {d : D} {v : V} (h : Fr K B0 F B H g (some (d, m) :: es) (some v :: vs)) (n : d.atm = true) : Fr K B0 F (wT B H) H g (some (d, .sh) :: es) (some v :: vs) := by
  obtain ⟨x, f, e, r, h⟩ := h.pop1
  cases e
  exact h.drop.wt.push0 (Rv.mksh (Rp.atm _ _ n (Rv.rp h.ex _ _ _ _ r)))
/-- to be read -/
theorem Fr.rd {m : Md} {d : D} {w : Option V} (h : Fr K B0 F B H g (some (d, m) :: es) (w :: vs)) : ∃ v, w = some v ∧ Rp K H d v := by
  obtain ⟨x, f, e, r, h⟩ := h.pop1
  exact ⟨x, e, Rv.rp h.ex _ _ _ _ r⟩
/-- the heap has grown elsewhere -/
theorem Fr.grow (h : Fr K B0 F B H g es vs) (e : Ex H H') : Fr K B0 F B H' g es vs := by
  obtain ⟨f, s, n, k⟩ := h.it
  refine ⟨h.ex.trans e, h.fx.trans e, h.b0, h.sub, f, s.mono (Ex.refl _) e, n, fun a ha => ?_⟩
  obtain ⟨c1, c2, u, hu, hv⟩ := k a ha
  exact ⟨c1, c2, u, e _ _ hu, hv⟩
/-! ### behind a call -/
/-- all that was handed over is shared -/
theorem Fr.call {Bc : Hp} {rs : SS} {rv : List (Option V)} (h : Fr K B0 F B H g es vs) (c : Fr K B H Bc H' [] rs rv) (hl : rs.length = rv.length) : Fr K B0 F Bc H' g (rs ++ es) (rv ++ vs) := by
  obtain ⟨f, s, n, k⟩ := h.it
  obtain ⟨fc, sc, nc, kc⟩ := c.it
  rw [List.nil_append] at nc kc
  have dis : ∀ a, a ∈ g ++ f → Bc a = none := fun a ha => by
    obtain ⟨c1, c2, u, hu, hv⟩ := k a ha
    cases q : Bc a with
    | none => rfl
    | some o =>
      have e1 := c.ex _ _ q
      have e2 := c.fx _ _ hu
      rw [e1] at e2
      cases e2
      rcases c.sub a _ q (by rw [hu]; simp) with z | z
      · exact absurd c1 z
      · cases u <;> simp_all [Own1, tupO]
  refine ⟨c.ex, h.fx.trans c.fx, h.b0.trans c.b0, fun a o q z => ?_, fc ++ f, (Ss.app hl).mpr ⟨fc, f, rfl, sc, s.mono c.b0 c.fx⟩, ?_, fun a ha => ?_⟩
  · have hz : H a ≠ none := by
      cases q2 : F a with
      | none => exact absurd q2 z
      | some u => rw [h.fx _ _ q2]; simp
    rcases c.sub a o q hz with y | y
    · cases q3 : B a with
      | none => exact absurd q3 y
      | some u =>
        have := c.b0 _ _ q3
        rw [q] at this
        cases this
        exact h.sub a _ q3 z
    · exact .inr y
  · have p : (g ++ (fc ++ f)).Perm (fc ++ (g ++ f)) := by
      rw [← List.append_assoc, ← List.append_assoc]
      exact List.Perm.append_right f List.perm_append_comm
    refine (p.nodup_iff).mpr (List.nodup_append.mpr ⟨nc, n, fun a ha b hb e => ?_⟩)
    subst e
    obtain ⟨_, c2, _⟩ := kc a ha
    obtain ⟨_, _, u, hu, _⟩ := k a hb
    rw [hu] at c2; cases c2
  · rcases List.mem_append.mp ha with ha' | ha'
    · obtain ⟨c1, c2, u, hu, hv⟩ := k a (List.mem_append_left _ ha')
      exact ⟨dis a (List.mem_append_left _ ha'), c2, u, c.fx _ _ hu, hv⟩
    · rcases List.mem_append.mp ha' with ha2 | ha2
      · obtain ⟨c1, c2, u, hu, hv⟩ := kc a ha2
        refine ⟨c1, ?_, u, hu, hv⟩
        cases q : F a with
        | none => rfl
        | some o => rw [h.fx _ _ q] at c2; cases c2
      · obtain ⟨c1, c2, u, hu, hv⟩ := k a (List.mem_append_right _ ha2)
        exact ⟨dis a (List.mem_append_right _ ha2), c2, u, c.fx _ _ hu, hv⟩
end

/-! ### a result that leans on nothing but itself and on tuples -/
mutual
def Md.okB : Md → D → Bool
  | .bw => fun _ => false
  | .sh => fun d => d.atm
  | .ow m => fun d => match d with
    | .lst ds => ds.all (fun e => Md.okB m e)
    | _ => false
  | .od => fun d => match d with
    | .dT _ ds => D.atms ds
    | _ => false
  | .ah _ m => fun d => Md.okB m d
  | .tp ms => fun d => match d with
    | .tup ds => Md.okBs ms ds
    | _ => false
def Md.okBs : List Md → List D → Bool
  | [] => fun ds => ds.isEmpty
  | m :: ms => fun ds => match ds with
    | d :: ds => Md.okB m d && Md.okBs ms ds
    | [] => false
end
section
variable {K : PySem.W.Frag} {B0 F B Bc H H' : Hp} {g : List Addr} {es : SS} {vs : List (Option V)}
theorem All3.imp2 {P Q : D → V → List Addr → Prop} {c : D → Bool} : ∀ {ds : List D} {xs : List V} {f : List Addr}, All3 P ds xs f → ds.all c = true → (∀ d v g, c d = true → P d v g → Q d v g) → All3 Q ds xs f
  | [], _, _, h, _, _ => h
  | d :: ds, xs, f, h, n, k => by
    obtain ⟨v, r, f1, f2, e1, e2, h1, h2⟩ := h
    simp only [List.all_cons, Bool.and_eq_true] at n
    exact ⟨v, r, f1, f2, e1, e2, k d v f1 n.1 h1, All3.imp2 h2 n.2 k⟩
mutual
theorem Rv.okB (e : Ex Bc H') : ∀ (m : Md) (d : D) (v : V) (f : List Addr), m.okB d = true → Rv K Bc H' m d v f → Rv K (wT B H') H' m d v f
  | .bw, d, v, f, n, h => by simp [Md.okB] at n
  | .sh, d, v, f, n, h => by
    simp only [Rv] at h ⊢
    exact ⟨Rp.atm d v (by simpa [Md.okB] using n) (Rp.mono e d v h.1), h.2⟩
  | .ow m, d, v, f, n, h => by
    simp only [Rv] at h ⊢
    obtain ⟨n0, ds, a, xs, g, e1, e2, e3, e4, h⟩ := h
    subst e1
    exact ⟨n0, ds, a, xs, g, rfl, e2, e3, e4, h.imp2 (by simpa [Md.okB] using n) fun d v g n h => Rv.okB e m d v g n h⟩
  | .od, d, v, f, n, h => by
    simp only [Rv] at h ⊢
    obtain ⟨ks, ds, a, kvs, e1, e2, e3, e4, h, e5⟩ := h
    subst e1
    exact ⟨ks, ds, a, kvs, rfl, e2, e3, e4, Rps.atm ds _ (by simpa [Md.okB] using n) (Rps.mono e _ _ h), e5⟩
  | .ah p m, d, v, f, n, h => by
    simp only [Rv] at h ⊢
    exact ⟨h.1, h.2.1, Rv.okB e m d v f (by simpa [Md.okB] using n) h.2.2⟩
  | .tp ms, d, v, f, n, h => by
    simp only [Rv] at h ⊢
    obtain ⟨n0, ds, a, xs, e1, e2, e3, h⟩ := h
    subst e1
    exact ⟨n0, ds, a, xs, rfl, e2, wT.tup (e _ _ e3) rfl, Rvs.okB e ms ds xs f (by simpa [Md.okB] using n) h⟩
theorem Rvs.okB (e : Ex Bc H') : ∀ (ms : List Md) (ds : List D) (xs : List V) (f : List Addr), Md.okBs ms ds = true → Rvs K Bc H' ms ds xs f → Rvs K (wT B H') H' ms ds xs f
  | [], ds, xs, f, n, h => by simpa only [Rvs] using h
  | m :: ms, ds, xs, f, n, h => by
    simp only [Rvs] at h ⊢
    obtain ⟨d, dr, v, r, f1, f2, e1, e2, e3, h1, h2⟩ := h
    subst e1
    simp only [Md.okBs, Bool.and_eq_true] at n
    exact ⟨d, dr, v, r, f1, f2, rfl, e2, e3, Rv.okB e m d v f1 n.1 h1, Rvs.okB e ms dr r f2 n.2 h2⟩
end
/-- behind a call to which things were lent: the result leans on nothing of it -/
theorem Fr.callB {m : Md} {d : D} {v : V} (h : Fr K B0 F B H g es vs) (c : Fr K H H Bc H' [] [some (d, m)] [some v]) (n : m.okB d = true) : ∃ B', Fr K B0 F B' H' g (some (d, m) :: es) (some v :: vs) := by
  obtain ⟨x, fc, e, r, c'⟩ := c.pop1
  cases e
  obtain ⟨fe, ⟨_, rfl⟩, nc, kc⟩ := c'.it
  simp only [List.append_nil] at nc kc
  obtain ⟨f, s, nd, k⟩ := h.it
  have eB : Ex B H' := h.ex.trans c.fx
  have r' := Rv.okB (B := B) c.ex _ _ _ _ n r
  refine ⟨wT B H', wT.le eB, h.fx.trans c.fx, h.b0.trans (wT.ex eB), fun a o q z => ?_, fc ++ f, ⟨some v, vs, fc, f, rfl, rfl, ⟨v, rfl, r'⟩, s.mono (wT.ex eB) c.fx⟩, ?_, fun a ha => ?_⟩
  · rcases wT.inv q with q | q
    · exact h.sub _ _ q z
    · exact .inr q
  · have p : (g ++ (fc ++ f)).Perm (fc ++ (g ++ f)) := by
      rw [← List.append_assoc, ← List.append_assoc]
      exact List.Perm.append_right f List.perm_append_comm
    refine (p.nodup_iff).mpr (List.nodup_append.mpr ⟨nc, nd, fun a ha b hb e => ?_⟩)
    subst e
    obtain ⟨_, c2, _⟩ := kc a ha
    obtain ⟨_, _, u, hu, _⟩ := k a hb
    rw [hu] at c2; cases c2
  · have old : a ∈ g ++ f → wT B H' a = none ∧ F a = none ∧ ∃ o, H' a = some o ∧ Own1 o := fun hb => by
      obtain ⟨c1, c2, u, hu, hv⟩ := k a hb
      exact ⟨(wT.own (c.fx _ _ hu) hv).trans c1, c2, u, c.fx _ _ hu, hv⟩
    rcases List.mem_append.mp ha with ha | ha
    · exact old (List.mem_append_left _ ha)
    · rcases List.mem_append.mp ha with ha | ha
      · obtain ⟨c1, c2, u, hu, hv⟩ := kc a ha
        obtain ⟨q1, q2⟩ := h.not_none c2
        exact ⟨(wT.own hu hv).trans q1, q2, u, hu, hv⟩
      · exact old (List.mem_append_right _ ha)
/-- .. to be read alone -/
theorem Fr.callR {m : Md} {d : D} {v : V} (h : Fr K B0 F B H g es vs) (c : Fr K H H Bc H' [] [some (d, m)] [some v]) : Fr K B0 F B H' g (some (d, .bw) :: es) (some v :: vs) := by
  obtain ⟨x, fc, e, r, c'⟩ := c.pop1
  cases e
  exact (h.grow c.fx).push0 (Rv.mkbw (Rv.rp c.ex _ _ _ _ r))
end
end Ve

set_option Elab.async false
set_option linter.all false
set_option maxRecDepth 100000
set_option maxHeartbeats 1000000
namespace Ve
open PySem PySem.Spec PyProof.Rows L2

/-! ## outcomes -/
structure Exn where
  c : Nat
  ks : List Str
  es : List (D × Md)
inductive Rr (α : Type) where
  | ok (a : α)
  | er (x : Exn)
abbrev Dm := D × Md
abbrev ME := SS → Option (Rr Dm × SS)
abbrev MT := SS → Option (Rr Bool × SS)
abbrev MA := SS → Option (Rr (List Dm) × SS)
abbrev MF := List D → Option (Rr Dm)
inductive SO where
  | nx (ss : SS) | rt (v : Dm) (ss : SS) | bk (ss : SS) | ct (ss : SS) | er (x : Exn) (ss : SS)
abbrev MS := SS → Option SO

/-- in a row -/
def bnd {α β : Type} (m : SS → Option (Rr α × SS)) (k : α → SS → Option (Rr β × SS)) : SS → Option (Rr β × SS) := fun ss =>
  match m ss with
  | some (.ok a, s1) => k a s1
  | some (.er x, s1) => some (.er x, s1)
  | none => none
def ret {α : Type} (a : α) : SS → Option (Rr α × SS) := fun ss => some (.ok a, ss)
def lft {α : Type} (a : Option α) : SS → Option (Rr α × SS) := fun ss => match a with
  | some a => some (.ok a, ss)
  | none => none

section
variable (K : PySem.W.Frag) (T : Nat → Value)
/-- an exception in the air -/
def XR (x : Exn) (cls : Value) (dd : Option Addr) (xv : List V) (B : Hp) : Prop := cls = T x.c ∧ (x.ks = [] → dd = none) ∧ (x.ks ≠ [] → ∃ d, dd = some d ∧ B d = some (.xd (x.ks.zip xv))) ∧ T x.c ≠ .none
def PErr (B0 F : Hp) (g : List Addr) (σ : L2.St) (ss ts : SS) (tv : List (Option V)) (W : WX) (x : Exn) : Prop :=
  ∀ cls dd (xv : List V) B' H', xv.length = x.es.length → Fr K B0 F B' H' g (x.es.map some ++ (ts ++ ss)) (xv.map some ++ (tv ++ σ)) → XR T x cls dd xv B' → W cls dd σ H'
def PostE (B0 F H : Hp) (g : List Addr) (σ : L2.St) (ss ts : SS) (tv : List (Option V)) (W : WX) (Q : VK) : Rr Dm → Prop
  | .ok dm => ∀ v B' H', Ex H H' → Fr K B0 F B' H' g (some dm :: (ts ++ ss)) (some v :: (tv ++ σ)) → Q v H'
  | .er x => PErr K T B0 F g σ ss ts tv W x
def PostT (B0 F H : Hp) (g : List Addr) (σ : L2.St) (ss ts : SS) (tv : List (Option V)) (W : WX) (Q : Bool → Hp → Prop) : Rr Bool → Prop
  | .ok b => ∀ B' H', Ex H H' → Fr K B0 F B' H' g (ts ++ ss) (tv ++ σ) → Q b H'
  | .er x => PErr K T B0 F g σ ss ts tv W x
def PostA (B0 F H : Hp) (g : List Addr) (σ : L2.St) (ss ts : SS) (tv : List (Option V)) (W : WX) (Q : List V → Hp → Prop) : Rr (List Dm) → Prop
  | .ok as => ∀ (vs : List V) B' H', vs.length = as.length → Ex H H' → Fr K B0 F B' H' g (as.map some ++ (ts ++ ss)) (vs.map some ++ (tv ++ σ)) → Q vs H'
  | .er x => PErr K T B0 F g σ ss ts tv W x
def tE (W : WX) (m : ME) : TE := fun σ H Q => ∃ (B0 F B : Hp) (g : List Addr) (ss ts : SS) (tv : List (Option V)) (r : Rr Dm) (ss' : SS),
  ts.length = tv.length ∧ Fr K B0 F B H g (ts ++ ss) (tv ++ σ) ∧ m ss = some (r, ss') ∧ PostE K T B0 F H g σ ss' ts tv W Q r
def tT (W : WX) (m : MT) : TT := fun σ H Q => ∃ (B0 F B : Hp) (g : List Addr) (ss ts : SS) (tv : List (Option V)) (r : Rr Bool) (ss' : SS),
  ts.length = tv.length ∧ Fr K B0 F B H g (ts ++ ss) (tv ++ σ) ∧ m ss = some (r, ss') ∧ PostT K T B0 F H g σ ss' ts tv W Q r
def tA (W : WX) (m : MA) : TA := fun σ H Q => ∃ (B0 F B : Hp) (g : List Addr) (ss ts : SS) (tv : List (Option V)) (r : Rr (List Dm)) (ss' : SS),
  ts.length = tv.length ∧ Fr K B0 F B H g (ts ++ ss) (tv ++ σ) ∧ m ss = some (r, ss') ∧ PostA K T B0 F H g σ ss' ts tv W Q r
/-- the five ways a statement ends -/
def PostS (B0 F : Hp) (g : List Addr) (ts : SS) (tv : List (Option V)) (W : WX) (D : Ends) : SO → Prop
  | .nx ss => ∀ σ' B' H', Fr K B0 F B' H' g (ts ++ ss) (tv ++ σ') → D.nx σ' H'
  | .bk ss => ∀ σ' B' H', Fr K B0 F B' H' g (ts ++ ss) (tv ++ σ') → D.bk σ' H'
  | .ct ss => ∀ σ' B' H', Fr K B0 F B' H' g (ts ++ ss) (tv ++ σ') → D.ct σ' H'
  | .rt dm ss => ∀ v σ' B' H', Fr K B0 F B' H' g (some dm :: (ts ++ ss)) (some v :: (tv ++ σ')) → D.rt v H'
  | .er x ss => ∀ σ', PErr K T B0 F g σ' ss ts tv W x
def tS (W : WX) (m : MS) : TS := fun D σ H => ∃ (B0 F B : Hp) (g : List Addr) (ss ts : SS) (tv : List (Option V)) (o : SO),
  ts.length = tv.length ∧ nbs ts ∧ nbs ss ∧ Fr K B0 F B H g (ts ++ ss) (tv ++ σ) ∧ m ss = some o ∧ PostS K T B0 F g ts tv W D o
end
abbrev JE (T : Nat → Value) (W : WX) (X : Cx) (e : Expr) (m : ME) : Prop := PE X e (tE X.K T W m)
abbrev JT (T : Nat → Value) (W : WX) (X : Cx) (e : Expr) (m : MT) : Prop := PT X e (tT X.K T W m)
abbrev JW (T : Nat → Value) (W : WX) (X : Cx) (e : Expr) (m : MT) : Prop := PW X e (tT X.K T W m)
abbrev JA (T : Nat → Value) (W : WX) (X : Cx) (es : List Expr) (m : MA) : Prop := PA X es (tA X.K T W m)
abbrev JS (T : Nat → Value) (W : WX) (X : Cx) (st : Stmt) (m : MS) : Prop := PS X st (tS X.K T W m)
abbrev JB (T : Nat → Value) (W : WX) (X : Cx) (st : List Stmt) (m : MS) : Prop := PSs X st (tS X.K T W m)
theorem pe_imp {X : Cx} {e : Expr} {t t' : TE} (h : PE X e t) (k : ∀ σ H Q, t' σ H Q → t σ H Q) : PE X e t' := ⟨fun pins s σ H Q I w => h.run pins s σ H Q I (k σ H Q w)⟩
theorem pt_imp {X : Cx} {e : Expr} {t t' : TT} (h : PT X e t) (k : ∀ σ H Q, t' σ H Q → t σ H Q) : PT X e t' := ⟨fun pins s σ H Q I w => h.run pins s σ H Q I (k σ H Q w)⟩
theorem pw_imp {X : Cx} {e : Expr} {t t' : TT} (h : PW X e t) (k : ∀ σ H Q, t' σ H Q → t σ H Q) : PW X e t' := ⟨fun wh pins s σ H Q I w => h.run wh pins s σ H Q I (k σ H Q w)⟩
theorem pa_imp {X : Cx} {e : List Expr} {t t' : TA} (h : PA X e t) (k : ∀ σ H Q, t' σ H Q → t σ H Q) : PA X e t' := ⟨fun pos pins s σ H Q I w => h.run pos pins s σ H Q I (k σ H Q w)⟩
theorem ps_imp {X : Cx} {e : Stmt} {t t' : TS} (h : PS X e t) (k : ∀ D σ H, t' D σ H → t D σ H) : PS X e t' := ⟨fun pins s σ H D I w => h.run pins s σ H D I (k D σ H w)⟩
theorem pss_imp {X : Cx} {e : List Stmt} {t t' : TS} (h : PSs X e t) (k : ∀ D σ H, t' D σ H → t D σ H) : PSs X e t' := ⟨fun pins s σ H D I w => h.run pins s σ H D I (k D σ H w)⟩

section
variable {K : PySem.W.Frag} {T : Nat → Value} {W : WX} {X : Cx} {B0 F B H : Hp} {g : List Addr} {ss ts es : SS} {tv vs : List (Option V)} {σ : L2.St}
theorem PostE.at {H' : Hp} {Q : VK} {r : Rr Dm} (x : Ex H H') (p : PostE K T B0 F H g σ ss ts tv W Q r) : PostE K T B0 F H' g σ ss ts tv W Q r := by
  cases r with
  | ok dm => exact fun v B' H2 y fr => p v B' H2 (x.trans y) fr
  | er x => exact p
theorem PostT.at {H' : Hp} {Q : Bool → Hp → Prop} {r : Rr Bool} (x : Ex H H') (p : PostT K T B0 F H g σ ss ts tv W Q r) : PostT K T B0 F H' g σ ss ts tv W Q r := by
  cases r with
  | ok dm => exact fun B' H2 y fr => p B' H2 (x.trans y) fr
  | er x => exact p
theorem PErr.drop {a : Ent} {w : Option V} {x : Exn} (h : PErr K T B0 F g σ ss ts tv W x) : PErr K T B0 F g σ ss (a :: ts) (w :: tv) W x := fun cls dd xv B' H' hl f xr =>
  h cls dd xv B' H' hl (Fr.popD (Fr.front (l1 := x.es.map some) (w1 := xv.map some) (by simp [hl]) f)) xr
theorem PErr.drops {x : Exn} (h : PErr K T B0 F g σ ss ts tv W x) : ∀ {as : SS} {ws : List (Option V)}, as.length = ws.length → PErr K T B0 F g σ ss (as ++ ts) (ws ++ tv) W x
  | [], [], _ => h
  | a :: as, w :: ws, hl => PErr.drop (h.drops (as := as) (ws := ws) (by simpa using hl))
  | [], _ :: _, hl => by simp at hl
  | _ :: _, [], hl => by simp at hl
theorem Fr.dropN {as : List Dm} {av : List V} (hl : av.length = as.length) (h : Fr K B0 F B H g (as.map some ++ es) (av.map some ++ vs)) : Fr K B0 F B H g es vs := by
  induction as generalizing av with
  | nil => cases av with
    | nil => exact h
    | cons _ _ => simp at hl
  | cons a as ih => cases av with
    | nil => simp at hl
    | cons v av => exact ih (by simpa using hl) (Fr.popD h)
theorem Fr.rdN {as : List Dm} {av : List V} (hl : av.length = as.length) (h : Fr K B0 F B H g (as.map some ++ es) (av.map some ++ vs)) : Rps K H (as.map (·.1)) av := by
  induction as generalizing av with
  | nil => cases av with
    | nil => simp [Rps]
    | cons _ _ => simp at hl
  | cons a as ih => cases av with
    | nil => simp at hl
    | cons v av =>
      obtain ⟨x, e, r⟩ := Fr.rd (d := a.1) (m := a.2) h
      cases e
      exact Rps.cons r (ih (by simpa using hl) (Fr.popD h))

/-! ## operations on data -/
/-- on two, one, some values -/
def Op2 (K : PySem.W.Frag) (r : R2) (f : Dm → Dm → Option Dm) : Prop := ∀ (B0 F B H : Hp) (g : List Addr) (es : SS) (vs : List (Option V)) (a b : Dm) (va vb : V) (res : Dm) (Q : VK),
  Fr K B0 F B H g (some b :: some a :: es) (some vb :: some va :: vs) → f a b = some res → (∀ v B' H', Ex H H' → Fr K B0 F B' H' g (some res :: es) (some v :: vs) → Q v H') → r va vb H Q
def Op1 (K : PySem.W.Frag) (r : V → Hp → VK → Prop) (f : Dm → Option Dm) : Prop := ∀ (B0 F B H : Hp) (g : List Addr) (es : SS) (vs : List (Option V)) (a : Dm) (va : V) (res : Dm) (Q : VK),
  Fr K B0 F B H g (some a :: es) (some va :: vs) → f a = some res → (∀ v B' H', Ex H H' → Fr K B0 F B' H' g (some res :: es) (some v :: vs) → Q v H') → r va H Q
def OpN (K : PySem.W.Frag) (r : List V → Hp → VK → Prop) (f : List Dm → Option Dm) : Prop := ∀ (B0 F B H : Hp) (g : List Addr) (es : SS) (vs : List (Option V)) (as : List Dm) (av : List V) (res : Dm) (Q : VK),
  av.length = as.length → Fr K B0 F B H g (as.map some ++ es) (av.map some ++ vs) → f as = some res → (∀ v B' H', Ex H H' → Fr K B0 F B' H' g (some res :: es) (some v :: vs) → Q v H') → r av H Q

/-! ## expressions -/
def mC (d : D) : ME := ret (d, .sh)
/-- a name: read; given up; shared from here on -/
def mVar (i : Nat) : ME := fun ss => match ss[i]? with
  | some (some (d, .sh)) => some (.ok (d, .sh), ss)
  | some (some (d, _)) => some (.ok (d, if d.atm then .sh else .bw), ss)
  | _ => none
def mMov (i : Nat) : ME := fun ss => match ss[i]? with
  | some (some dm) => some (.ok dm, ss.set i none)
  | _ => none
def mFrz (i : Nat) : ME := fun ss => match ss[i]? with
  | some (some (d, m)) => if m.nb then some (.ok (d, .sh), ss.set i (some (d, .sh))) else none
  | _ => none
/-- a value made ours is shared -/
def mSh (m : ME) : ME := bnd m fun dm => lft (if dm.2.nb then some (dm.1, .sh) else if dm.1.atm then some (dm.1, .sh) else none)
def mOp2 (f : Dm → Dm → Option Dm) (ma mb : ME) : ME := bnd ma fun a => bnd mb fun b => lft (f a b)
def mOp1 (f : Dm → Option Dm) (ma : ME) : ME := bnd ma fun a => lft (f a)
def mNil : MA := ret []
def mCons (m : ME) (ms : MA) : MA := bnd m fun a => bnd ms fun as => ret (a :: as)
def mOpN (f : List Dm → Option Dm) (ms : MA) : ME := bnd ms fun as => lft (f as)

theorem bnd_ok {α β : Type} {m : SS → Option (Rr α × SS)} {k : α → SS → Option (Rr β × SS)} {r : Rr β} {ss ss' : SS} (h : bnd m k ss = some (r, ss')) :
    (∃ a s1, m ss = some (.ok a, s1) ∧ k a s1 = some (r, ss')) ∨ ∃ x, m ss = some (.er x, ss') ∧ r = .er x := by
  unfold bnd at h
  split at h
  · exact .inl ⟨_, _, by assumption, h⟩
  · rename_i x s1 e
    cases h
    exact .inr ⟨x, e, rfl⟩
  · cases h
theorem lft_ok {α : Type} {a : Option α} {r : Rr α} {ss ss' : SS} (h : lft a ss = some (r, ss')) : ∃ b, a = some b ∧ r = .ok b ∧ ss' = ss := by
  unfold lft at h
  split at h
  · cases h; exact ⟨_, rfl, rfl, rfl⟩
  · cases h

theorem je_c {e : Expr} {v : V} {d : D} (h : PE X e (tC v)) (r : ∀ B, Rp X.K B d v) : JE T W X e (mC d) :=
  pe_imp h fun σ H Q ⟨B0, F, B, g, ss, ts, tv, r', ss', hl, fr, e, p⟩ => by
    cases e
    exact p v B H (Ex.refl _) (fr.push0 (Rv.mksh (r B)))
theorem je_int {i : Int} {j pos} : JE T W X (.Constant (.int i) j pos) (mC (.int i)) := je_c pe_int fun B => by simp [Rp]
theorem je_bl {b : Bool} {j pos} : JE T W X (.Constant (.bool b) j pos) (mC (.bl b)) := je_c pe_bl fun B => by simp [Rp]
theorem je_non {j pos} : JE T W X (.Constant .none j pos) (mC .non) := je_c pe_non fun B => by simp [Rp]
theorem je_str {x : Str} {j pos} : JE T W X (.Constant (.str x) j pos) (mC (.str x)) := je_c pe_str fun B => by simp [Rp]
theorem je_var {i : Nat} {e : Expr} (h : PE X e (tVar i)) : JE T W X e (mVar i) :=
  pe_imp h fun σ H Q ⟨B0, F, B, g, ss, ts, tv, r', ss', hl, fr, e, p⟩ => by
    unfold mVar at e
    split at e
    · rename_i d hs
      cases e
      obtain ⟨v, f, h1, h2, h3⟩ := fr.takeS hl hs
      refine ⟨v, h1, p v B H (Ex.refl _) (fr.push0 ?_)⟩
      simp only [Rv] at h2
      exact Rv.mksh h2.1
    · rename_i d m _ hs
      cases e
      obtain ⟨v, f, h1, h2, h3⟩ := fr.takeS hl hs
      have rp := Rv.rp fr.ex _ _ _ _ h2
      cases a : d.atm with
      | true =>
        refine ⟨v, h1, ?_⟩
        rw [a] at p
        exact p v (wT B H) H (Ex.refl _) (fr.wt.push0 (Rv.mksh (Rp.atm _ _ a rp)))
      | false =>
        refine ⟨v, h1, ?_⟩
        rw [a] at p
        exact p v B H (Ex.refl _) (fr.push0 (Rv.mkbw rp))
    · cases e
theorem je_mov {i : Nat} {e : Expr} (h : PE X e (tVar i)) : JE T W X e (mMov i) :=
  pe_imp h fun σ H Q ⟨B0, F, B, g, ss, ts, tv, r', ss', hl, fr, e, p⟩ => by
    unfold mMov at e
    split at e
    · rename_i dm hs
      cases e
      obtain ⟨v, f, h1, h2, h3⟩ := fr.takeS (d := dm.1) (m := dm.2) hl hs
      exact ⟨v, h1, p v B H (Ex.refl _) (h3.push h2)⟩
    · cases e
theorem je_frz {i : Nat} {e : Expr} (h : PE X e (tVar i)) : JE T W X e (mFrz i) :=
  pe_imp h fun σ H Q ⟨B0, F, B, g, ss, ts, tv, r', ss', hl, fr, e, p⟩ => by
    unfold mFrz at e
    split at e
    · rename_i d m hs
      split at e
      · rename_i n
        cases e
        obtain ⟨v, f, h1, h2, h3⟩ := fr.takeS hl hs
        obtain ⟨B', eb, z, h4⟩ := h3.shareAll
        have r := Rv.frz eb _ _ _ _ n z h2
        have hi : i < ss.length := (List.getElem?_eq_some_iff.mp hs).1
        have h5 := Fr.putS (f := []) hl h4 (by simpa using hi) (Rv.mksh r)
        rw [List.set_set] at h5
        have e2 : σ.set i (some v) = σ := set_same h1
        rw [e2] at h5
        exact ⟨v, h1, p v B' H (Ex.refl _) (h5.push0 (Rv.mksh r))⟩
      · cases e
    · cases e
theorem je_sh {e : Expr} {m : ME} (h : JE T W X e m) : JE T W X e (mSh m) :=
  pe_imp h fun σ H Q ⟨B0, F, B, g, ss, ts, tv, r', ss', hl, fr, e, p⟩ => by
    rcases bnd_ok e with ⟨a, s1, e1, e2⟩ | ⟨x, e1, rfl⟩
    · obtain ⟨b, e3, rfl, rfl⟩ := lft_ok e2
      refine ⟨B0, F, B, g, ss, ts, tv, .ok a, ss', hl, fr, e1, fun v B' H' x1 fr' => ?_⟩
      split at e3
      · rename_i n
        cases e3
        obtain ⟨B2, _, h2⟩ := Fr.sh (d := a.1) (m := a.2) fr' n
        exact p v B2 H' x1 h2
      · split at e3
        · rename_i n
          cases e3
          exact p v _ H' x1 (Fr.at (d := a.1) (m := a.2) fr' n)
        · cases e3
    · exact ⟨B0, F, B, g, ss, ts, tv, _, ss', hl, fr, e1, p⟩
section
variable {a b : Expr} {ma mb : ME} {pos : Pos}
theorem t_op2 {K : PySem.W.Frag} {r : R2} {f : Dm → Dm → Option Dm} (hf : Op2 K r f) (σ : L2.St) (H : Hp) (Q : VK) (h : tE K T W (mOp2 f ma mb) σ H Q) : tOp r (tE K T W ma) (tE K T W mb) σ H Q := by
  obtain ⟨B0, F, B, g, ss, ts, tv, r', ss', hl, fr, e, p⟩ := h
  rcases bnd_ok e with ⟨da, s1, e1, e2⟩ | ⟨x, e1, rfl⟩
  · refine ⟨B0, F, B, g, ss, ts, tv, .ok da, s1, hl, fr, e1, fun va B1 H1 x1 fr1 => ?_⟩
    rcases bnd_ok e2 with ⟨db, s2, e3, e4⟩ | ⟨x, e3, rfl⟩
    · refine ⟨B0, F, B1, g, s1, some da :: ts, some va :: tv, .ok db, s2, by simp [hl], fr1, e3, fun vb B2 H2 x2 fr2 => ?_⟩
      obtain ⟨res, e5, rfl, rfl⟩ := lft_ok e4
      exact hf B0 F B2 H2 g _ _ da db va vb res Q fr2 e5 fun v B3 H3 x3 fr3 => p v B3 H3 (x1.trans (x2.trans x3)) fr3
    · exact ⟨B0, F, B1, g, s1, some da :: ts, some va :: tv, .er x, ss', by simp [hl], fr1, e3, PErr.drop p⟩
  · exact ⟨B0, F, B, g, ss, ts, tv, .er x, ss', hl, fr, e1, p⟩
theorem je_bin {op : Operator} {r : R2} {f : Dm → Dm → Option Dm} (ho : OpR X (binaryOp op) r) (hf : Op2 X.K r f) (ha : JE T W X a ma) (hb : JE T W X b mb) : JE T W X (.BinOp a op b pos) (mOp2 f ma mb) :=
  pe_imp (pe_op ho ha hb) (t_op2 hf)
theorem je_cmp {op : CmpOp} {r : R2} {f : Dm → Dm → Option Dm} (ho : OpR X (compareOp op) r) (hf : Op2 X.K r f) (ha : JE T W X a ma) (hb : JE T W X b mb) (hm : behindInMarks op b = false) : JE T W X (.Compare a [op] [b] pos) (mOp2 f ma mb) :=
  pe_imp (pe_cmpR ho ha hb hm) (t_op2 hf)
theorem je_ix {r : R2} {f : Dm → Dm → Option Dm} (hr : IxR X r) (hf : Op2 X.K r f) (ha : JE T W X a ma) (hb : JE T W X b mb) (hs : PlainIx b) : JE T W X (.Subscript a b pos) (mOp2 f ma mb) :=
  pe_imp (pe_ix hr ha hb hs) (t_op2 hf)
theorem je_un {op : UnaryOp} {r : V → Hp → VK → Prop} {f : Dm → Option Dm} (ho : UnR X (unaryOp op) r) (hf : Op1 X.K r f) (ha : JE T W X a ma) : JE T W X (.UnaryOp op a pos) (mOp1 f ma) :=
  pe_imp (pe_un ho ha) fun σ H Q ⟨B0, F, B, g, ss, ts, tv, r', ss', hl, fr, e, p⟩ => by
    rcases bnd_ok e with ⟨da, s1, e1, e2⟩ | ⟨x, e1, rfl⟩
    · obtain ⟨res, e5, rfl, rfl⟩ := lft_ok e2
      exact ⟨B0, F, B, g, ss, ts, tv, .ok da, ss', hl, fr, e1, fun va B1 H1 x1 fr1 => hf B0 F B1 H1 g _ _ da va res Q fr1 e5 fun v B3 H3 x3 fr3 => p v B3 H3 (x1.trans x3) fr3⟩
    · exact ⟨B0, F, B, g, ss, ts, tv, .er x, ss', hl, fr, e1, p⟩
/-- a test from a value -/
def mTst (m : ME) : MT := bnd m fun a => lft (match a.1 with | .bl b => some b | _ => none)
theorem t_tst {K : PySem.W.Frag} {m : ME} (σ : L2.St) (H : Hp) (Q : Bool → Hp → Prop) (h : tT K T W (mTst m) σ H Q) : tTest (tE K T W m) σ H Q := by
  obtain ⟨B0, F, B, g, ss, ts, tv, r', ss', hl, fr, e, p⟩ := h
  rcases bnd_ok e with ⟨da, s1, e1, e2⟩ | ⟨x, e1, rfl⟩
  · obtain ⟨res, e5, rfl, rfl⟩ := lft_ok e2
    refine ⟨B0, F, B, g, ss, ts, tv, .ok da, ss', hl, fr, e1, fun va B1 H1 x1 fr1 => ?_⟩
    obtain ⟨d, m⟩ := da
    obtain ⟨x, e6, rp⟩ := fr1.rd
    cases e6
    split at e5
    · rename_i b hd
      cases e5
      replace hd : d = .bl _ := hd
      subst hd
      simp only [Rp] at rp
      exact ⟨_, rp, p B1 H1 x1 fr1.popD⟩
    · cases e5
  · exact ⟨B0, F, B, g, ss, ts, tv, .er x, ss', hl, fr, e1, p⟩
theorem jt_cmp {op : CmpOp} {r : R2} {f : Dm → Dm → Option Dm} (ho : OpR X (compareOp op) r) (hf : Op2 X.K r f) (ha : JE T W X a ma) (hb : JE T W X b mb) (hm : behindInMarks op b = false) : JT T W X (.Compare a [op] [b] pos) (mTst (mOp2 f ma mb)) :=
  pt_imp (pt_cmpR (r := fun x y H Q => r x y H Q) ho ha hb hm) fun σ H Q h => by
    obtain ⟨B0, F, B, g, ss, ts, tv, r', ss', hl, fr, e, p⟩ := h
    have h2 : tTest (tE X.K T W (mOp2 f ma mb)) σ H Q := t_tst σ H Q ⟨B0, F, B, g, ss, ts, tv, r', ss', hl, fr, e, p⟩
    exact t_op2 hf σ H _ h2
theorem jt_val {e : Expr} {m : ME} (h : JE T W X e m) (he : ∀ whole, isTrue e X.env whole = (do let v ← whole; standAt e.pos; holding [v] (truthy v)) := by intro _; rfl) : JT T W X e (mTst m) :=
  pt_imp (pt_val h he) fun σ H Q h => t_tst σ H Q h
/-! ### and, or, not -/
def mAnd (m n : MT) : MT := bnd m fun b => if b then n else ret false
def mOr (m n : MT) : MT := bnd m fun b => if b then ret true else n
def mNot (m : MT) : MT := bnd m fun b => ret (!b)
variable {m n : MT} {rest : List Expr}
theorem t_and {K : PySem.W.Frag} (σ : L2.St) (H : Hp) (Q : Bool → Hp → Prop) (h : tT K T W (mAnd m n) σ H Q) : tAnd (tT K T W m) (tT K T W n) σ H Q := by
  obtain ⟨B0, F, B, g, ss, ts, tv, r', ss', hl, fr, e, p⟩ := h
  rcases bnd_ok e with ⟨b, s1, e1, e2⟩ | ⟨x, e1, rfl⟩
  · refine ⟨B0, F, B, g, ss, ts, tv, .ok b, s1, hl, fr, e1, fun B1 H1 x1 fr1 => ?_⟩
    cases b with
    | true => exact iteT ⟨B0, F, B1, g, s1, ts, tv, r', ss', hl, fr1, e2, by first | exact PostE.at x1 p | exact PostT.at x1 p⟩
    | false =>
      cases e2
      exact iteF (p B1 H1 x1 fr1)
  · exact ⟨B0, F, B, g, ss, ts, tv, .er x, ss', hl, fr, e1, p⟩
theorem t_or {K : PySem.W.Frag} (σ : L2.St) (H : Hp) (Q : Bool → Hp → Prop) (h : tT K T W (mOr m n) σ H Q) : tOr (tT K T W m) (tT K T W n) σ H Q := by
  obtain ⟨B0, F, B, g, ss, ts, tv, r', ss', hl, fr, e, p⟩ := h
  rcases bnd_ok e with ⟨b, s1, e1, e2⟩ | ⟨x, e1, rfl⟩
  · refine ⟨B0, F, B, g, ss, ts, tv, .ok b, s1, hl, fr, e1, fun B1 H1 x1 fr1 => ?_⟩
    cases b with
    | false => exact iteF ⟨B0, F, B1, g, s1, ts, tv, r', ss', hl, fr1, e2, by first | exact PostE.at x1 p | exact PostT.at x1 p⟩
    | true =>
      cases e2
      exact iteT (p B1 H1 x1 fr1)
  · exact ⟨B0, F, B, g, ss, ts, tv, .er x, ss', hl, fr, e1, p⟩
theorem jt_not (ha : JT T W X a m) : JT T W X (.UnaryOp .Not a pos) (mNot m) :=
  pt_imp (pt_not ha) fun σ H Q ⟨B0, F, B, g, ss, ts, tv, r', ss', hl, fr, e, p⟩ => by
    rcases bnd_ok e with ⟨b, s1, e1, e2⟩ | ⟨x, e1, rfl⟩
    · cases e2
      exact ⟨B0, F, B, g, ss, ts, tv, .ok b, ss', hl, fr, e1, fun B1 H1 x1 fr1 => p B1 H1 x1 fr1⟩
    · exact ⟨B0, F, B, g, ss, ts, tv, .er x, ss', hl, fr, e1, p⟩
theorem jw_and1 (ha : JT T W X a m) : JW T W X (.BoolOp .And [a] pos) m := pw_and1 ha
theorem jw_or1 (ha : JT T W X a m) : JW T W X (.BoolOp .Or [a] pos) m := pw_or1 ha
theorem jw_and (ha : JT T W X a m) (hb : JW T W X (.BoolOp .And (b :: rest) pos) n) : JW T W X (.BoolOp .And (a :: b :: rest) pos) (mAnd m n) := pw_imp (pw_and ha hb) t_and
theorem jw_or (ha : JT T W X a m) (hb : JW T W X (.BoolOp .Or (b :: rest) pos) n) : JW T W X (.BoolOp .Or (a :: b :: rest) pos) (mOr m n) := pw_imp (pw_or ha hb) t_or
theorem jw_pt {e : Expr} (h : JW T W X e m) : JT T W X e m := PW.pt h
/-- .. as values: the first ones are truths -/
def mAndV (m n : ME) : ME := bnd (mTst m) fun b => if b then n else ret (.bl false, .sh)
def mOrV (m n : ME) : ME := bnd (mTst m) fun b => if b then ret (.bl true, .sh) else n
def mNotV (m : ME) : ME := bnd (mTst m) fun b => ret (.bl (!b), .sh)
theorem je_one {op : BoolOp} (h : JE T W X a ma) : JE T W X (.BoolOp op [a] pos) ma := pe_one h
theorem rp_bl {K : PySem.W.Frag} {B : Hp} {b : Bool} : Rp K B (.bl b) (.bl b) := by simp [Rp]
theorem rp_int {K : PySem.W.Frag} {B : Hp} {i : Int} : Rp K B (.int i) (.int i) := by simp [Rp]
theorem rp_non {K : PySem.W.Frag} {B : Hp} : Rp K B .non .non := by simp [Rp]
theorem rp_str {K : PySem.W.Frag} {B : Hp} {x : Str} : Rp K B (.str x) (.str x) := by simp [Rp]
theorem je_and (ha : JE T W X a ma) (hb : JE T W X (.BoolOp .And (b :: rest) pos) mb) : JE T W X (.BoolOp .And (a :: b :: rest) pos) (mAndV ma mb) :=
  pe_imp (pe_and ha hb) fun σ H Q ⟨B0, F, B, g, ss, ts, tv, r', ss', hl, fr, e, p⟩ => by
    rcases bnd_ok e with ⟨c, s1, e1, e2⟩ | ⟨x, e1, rfl⟩
    · refine t_tst σ H _ ⟨B0, F, B, g, ss, ts, tv, .ok c, s1, hl, fr, e1, fun B1 H1 x1 fr1 => ?_⟩
      cases c with
      | true => exact iteT ⟨B0, F, B1, g, s1, ts, tv, r', ss', hl, fr1, e2, by first | exact PostE.at x1 p | exact PostT.at x1 p⟩
      | false =>
        cases e2
        exact iteF (p _ B1 H1 x1 (fr1.push0 (Rv.mksh rp_bl)))
    · exact t_tst σ H _ ⟨B0, F, B, g, ss, ts, tv, .er x, ss', hl, fr, e1, p⟩
theorem je_or (ha : JE T W X a ma) (hb : JE T W X (.BoolOp .Or (b :: rest) pos) mb) : JE T W X (.BoolOp .Or (a :: b :: rest) pos) (mOrV ma mb) :=
  pe_imp (pe_or ha hb) fun σ H Q ⟨B0, F, B, g, ss, ts, tv, r', ss', hl, fr, e, p⟩ => by
    rcases bnd_ok e with ⟨c, s1, e1, e2⟩ | ⟨x, e1, rfl⟩
    · refine t_tst σ H _ ⟨B0, F, B, g, ss, ts, tv, .ok c, s1, hl, fr, e1, fun B1 H1 x1 fr1 => ?_⟩
      cases c with
      | false => exact iteF ⟨B0, F, B1, g, s1, ts, tv, r', ss', hl, fr1, e2, by first | exact PostE.at x1 p | exact PostT.at x1 p⟩
      | true =>
        cases e2
        exact iteT (p _ B1 H1 x1 (fr1.push0 (Rv.mksh rp_bl)))
    · exact t_tst σ H _ ⟨B0, F, B, g, ss, ts, tv, .er x, ss', hl, fr, e1, p⟩
theorem je_not (ha : JE T W X a ma) : JE T W X (.UnaryOp .Not a pos) (mNotV ma) :=
  pe_imp (pe_not ha) fun σ H Q ⟨B0, F, B, g, ss, ts, tv, r', ss', hl, fr, e, p⟩ => by
    rcases bnd_ok e with ⟨c, s1, e1, e2⟩ | ⟨x, e1, rfl⟩
    · cases e2
      exact t_tst σ H _ ⟨B0, F, B, g, ss, ts, tv, .ok c, ss', hl, fr, e1, fun B1 H1 x1 fr1 => p _ B1 H1 x1 (fr1.push0 (Rv.mksh rp_bl))⟩
    · exact t_tst σ H _ ⟨B0, F, B, g, ss, ts, tv, .er x, ss', hl, fr, e1, p⟩
/-- a if t else b -/
def mIfE (t : MT) (m n : ME) : ME := bnd t fun b => if b then m else n
theorem je_ifE {c : Expr} {t : MT} (hc : JT T W X c t) (ha : JE T W X a ma) (hb : JE T W X b mb) : JE T W X (.IfExp c a b pos) (mIfE t ma mb) :=
  pe_imp (pe_ifExp hc ha hb) fun σ H Q ⟨B0, F, B, g, ss, ts, tv, r', ss', hl, fr, e, p⟩ => by
    rcases bnd_ok e with ⟨c, s1, e1, e2⟩ | ⟨x, e1, rfl⟩
    · refine ⟨B0, F, B, g, ss, ts, tv, .ok c, s1, hl, fr, e1, fun B1 H1 x1 fr1 => ?_⟩
      cases c with
      | true => exact iteT ⟨B0, F, B1, g, s1, ts, tv, r', ss', hl, fr1, e2, by first | exact PostE.at x1 p | exact PostT.at x1 p⟩
      | false => exact iteF ⟨B0, F, B1, g, s1, ts, tv, r', ss', hl, fr1, e2, by first | exact PostE.at x1 p | exact PostT.at x1 p⟩
    · exact ⟨B0, F, B, g, ss, ts, tv, .er x, ss', hl, fr, e1, p⟩
/-! ### arguments -/
theorem ja_nil : JA T W X [] mNil := pa_imp pa_nil fun σ H Q ⟨B0, F, B, g, ss, ts, tv, r', ss', hl, fr, e, p⟩ => by
  cases e
  exact p [] B H rfl (Ex.refl _) fr
theorem ja_cons {es : List Expr} {ms : MA} (ha : JE T W X a ma) (hr : JA T W X es ms) (hs : starEach (a :: es) X.env = (false, eval a X.env) :: starEach es X.env := by rfl) : JA T W X (a :: es) (mCons ma ms) :=
  pa_imp (pa_cons ha hr hs) fun σ H Q ⟨B0, F, B, g, ss, ts, tv, r', ss', hl, fr, e, p⟩ => by
    rcases bnd_ok e with ⟨da, s1, e1, e2⟩ | ⟨x, e1, rfl⟩
    · refine ⟨B0, F, B, g, ss, ts, tv, .ok da, s1, hl, fr, e1, fun va B1 H1 x1 fr1 => ?_⟩
      rcases bnd_ok e2 with ⟨as, s2, e3, e4⟩ | ⟨x, e3, rfl⟩
      · cases e4
        exact ⟨B0, F, B1, g, s1, some da :: ts, some va :: tv, .ok as, ss', by simp [hl], fr1, e3, fun vs B2 H2 hv x2 fr2 =>
          p (va :: vs) B2 H2 (by simp [hv]) (x1.trans x2) (Fr.front (l1 := as.map some) (w1 := vs.map some) (by simp [hv]) fr2)⟩
      · exact ⟨B0, F, B1, g, s1, some da :: ts, some va :: tv, .er x, ss', by simp [hl], fr1, e3, PErr.drop p⟩
    · exact ⟨B0, F, B, g, ss, ts, tv, .er x, ss', hl, fr, e1, p⟩
theorem t_opN {K : PySem.W.Frag} {r : List V → Hp → VK → Prop} {f : List Dm → Option Dm} {ms : MA} (hf : OpN K r f) (σ : L2.St) (H : Hp) (Q : VK) (h : tE K T W (mOpN f ms) σ H Q) : tA K T W ms σ H fun vs H1 => r vs H1 Q := by
  obtain ⟨B0, F, B, g, ss, ts, tv, r', ss', hl, fr, e, p⟩ := h
  rcases bnd_ok e with ⟨as, s1, e1, e2⟩ | ⟨x, e1, rfl⟩
  · obtain ⟨res, e5, rfl, rfl⟩ := lft_ok e2
    exact ⟨B0, F, B, g, ss, ts, tv, .ok as, ss', hl, fr, e1, fun vs B1 H1 hv x1 fr1 => hf B0 F B1 H1 g _ _ as vs res Q hv fr1 e5 fun v B3 H3 x3 fr3 => p v B3 H3 (x1.trans x3) fr3⟩
  · exact ⟨B0, F, B, g, ss, ts, tv, .er x, ss', hl, fr, e1, p⟩
theorem je_blt {x : Str} {id : String} {r : List V → Hp → VK → Prop} {f : List Dm → Option Dm} {p pos : Pos} {e : Expr} {es : List Expr} {ms : MA} (hc : CallR X (.builtin id) r) (hf : OpN X.K r f) (hg : Gl X x) (hm : X.mg x = none) (hv : bootBuiltins x = some (.builtin id)) (ha : JA T W X (e :: es) ms)
    (hn : x ≠ "__name__" := by decide) (hdb : (x == ("__debug__" : Str)) = false := by decide) (he : starEach (e :: es) X.env = (false, eval e X.env) :: starEach es X.env := by rfl) (hpl : (backTo pos (starEach es X.env)).any (·.1) = false := by rfl) :
    JE T W X (.Call (.Name x p) (e :: es) [] pos) (mOpN f ms) := pe_imp (pe_callB hc hg hm hv ha hn hdb he hpl) (t_opN hf)
theorem je_ty {x : Str} {id : String} {r : List V → Hp → VK → Prop} {f : List Dm → Option Dm} {p pos : Pos} {e : Expr} {es : List Expr} {ms : MA} (hc : CallR X (.type id) r) (hf : OpN X.K r f) (hg : Gl X x) (hm : X.mg x = none) (hv : bootBuiltins x = some (.type id)) (ha : JA T W X (e :: es) ms)
    (hn : x ≠ "__name__" := by decide) (hdb : (x == ("__debug__" : Str)) = false := by decide) (he : starEach (e :: es) X.env = (false, eval e X.env) :: starEach es X.env := by rfl) (hpl : (backTo pos (starEach es X.env)).any (·.1) = false := by rfl) :
    JE T W X (.Call (.Name x p) (e :: es) [] pos) (mOpN f ms) := pe_imp (pe_callTy hc hg hm hv ha hn hdb he hpl) (t_opN hf)
end
end
end Ve

set_option Elab.async false
set_option linter.all false
set_option maxRecDepth 100000
set_option maxHeartbeats 1000000
namespace Ve
open PySem PySem.Spec PyProof.Rows L2

/-- lists stay below this -/
def lim : Nat := 1000000
theorem lim_le : lim ≤ sizeLine := by rw [sizeLine_eq]; decide
theorem lim_lt : lim < sizeLine := by rw [sizeLine_eq]; decide

def isSh : Md → Bool
  | .sh => true
  | _ => false
theorem isSh_eq {m : Md} (h : isSh m = true) : m = .sh := by cases m <;> first | rfl | cases h
/-- may the items be shared? -/
def elSh : Md → List D → Bool
  | .sh, _ => true
  | .ow .sh, _ => true
  | _, ds => D.atms ds

section
variable {K : PySem.W.Frag} {B0 F B H : Hp} {g : List Addr} {es : SS} {vs : List (Option V)}
theorem Rv.ow_iff {m : Md} {d : D} {v : V} {f : List Addr} : Rv K B H (.ow m) d v f ↔ m.nb = true ∧ ∃ ds a xs g, d = .lst ds ∧ v = .ref a ∧ H a = some (.lst xs) ∧ f = a :: g ∧ All3 (Rv K B H m) ds xs g := by
  simp only [Rv]
theorem All3.ofRps : ∀ {ds : List D} {xs : List V}, Rps K B ds xs → All3 (Rv K B H .sh) ds xs []
  | [], xs, h => by simp only [Rps] at h; exact ⟨h, rfl⟩
  | d :: ds, xs, h => by
    simp only [Rps] at h
    obtain ⟨v, r, e1, h1, h2⟩ := h
    exact ⟨v, r, [], [], e1, rfl, Rv.mksh h1, All3.ofRps h2⟩
theorem All3.toRps : ∀ {ds : List D} {xs : List V} {f : List Addr}, All3 (Rv K B H .sh) ds xs f → Rps K B ds xs
  | [], xs, f, h => by obtain ⟨rfl, rfl⟩ := h; simp [Rps]
  | d :: ds, xs, f, h => by
    obtain ⟨v, r, f1, f2, e1, e2, h1, h2⟩ := h
    subst e1
    simp only [Rv] at h1
    exact Rps.cons h1.1 (All3.toRps h2)
/-- a list's items, shared -/
theorem Fr.elems {ds : List D} {m : Md} {v : V} (h : Fr K B0 F B H g (some (.lst ds, m) :: es) (some v :: vs)) (n : elSh m ds = true) :
    ∃ B' a xs, Ex B B' ∧ v = .ref a ∧ H a = some (.lst xs) ∧ Rps K B' ds xs ∧ Fr K B0 F B' H g es vs := by
  obtain ⟨x, f, e, r, h'⟩ := h.pop1
  cases e
  have gen : D.atms ds = true → ∃ B' a xs, Ex B B' ∧ v = .ref a ∧ H a = some (.lst xs) ∧ Rps K B' ds xs ∧ Fr K B0 F B' H g es vs := fun n => by
    have rp := Rv.rp h'.ex _ _ _ _ r
    simp only [Rp] at rp
    obtain ⟨a, xs, e1, e2, e3⟩ := rp
    exact ⟨wT B H, a, xs, wT.ex h'.ex, e1, e2, Rps.atm _ _ n e3, h'.drop.wt⟩
  cases m with
  | sh =>
    simp only [Rv, Rp] at r
    obtain ⟨⟨a, xs, e1, e2, e3⟩, _⟩ := r
    exact ⟨B, a, xs, Ex.refl _, e1, h'.ex _ _ e2, e3, h'.drop⟩
  | ow m =>
    cases m with
    | sh =>
      obtain ⟨n0, ds', a, xs, g', e0, e1, e2, e3, e4⟩ := Rv.ow_iff.mp r
      cases e0
      exact ⟨B, a, xs, Ex.refl _, e1, e2, e4.toRps, h'.drop⟩
    | _ => exact gen n
  | _ => exact gen n
/-- a tuple's -/
theorem Fr.elemsT {ds : List D} {m : Md} {v : V} (h : Fr K B0 F B H g (some (.tup ds, m) :: es) (some v :: vs)) (n : elSh m ds = true) :
    ∃ B' a xs, Ex B B' ∧ v = .ref a ∧ H a = some (.tup xs) ∧ Rps K B' ds xs ∧ Fr K B0 F B' H g es vs := by
  obtain ⟨x, f, e, r, h'⟩ := h.pop1
  cases e
  have gen : D.atms ds = true → ∃ B' a xs, Ex B B' ∧ v = .ref a ∧ H a = some (.tup xs) ∧ Rps K B' ds xs ∧ Fr K B0 F B' H g es vs := fun n => by
    have rp := Rv.rp h'.ex _ _ _ _ r
    simp only [Rp] at rp
    obtain ⟨a, xs, e1, e2, e3⟩ := rp
    exact ⟨wT B H, a, xs, wT.ex h'.ex, e1, e2, Rps.atm _ _ n e3, h'.drop.wt⟩
  cases m with
  | sh =>
    simp only [Rv, Rp] at r
    obtain ⟨⟨a, xs, e1, e2, e3⟩, _⟩ := r
    exact ⟨B, a, xs, Ex.refl _, e1, h'.ex _ _ e2, e3, h'.drop⟩
  | ow m =>
    cases m with
    | sh =>
      obtain ⟨n0, ds', a, xs, g', e0, e1, e2, e3, e4⟩ := Rv.ow_iff.mp r
      cases e0
    | _ => exact gen n
  | _ => exact gen n
/-- a new list of shared items -/
theorem Fr.newL {ds : List D} {xs : List V} {p : Addr} (h : Fr K B0 F B H g es vs) (r : Rps K B ds xs) (hp : H p = none) : Fr K B0 F B (upd H p (.lst xs)) g (some (.lst ds, .ow .sh) :: es) (some (.ref p) :: vs) := by
  have h' := h.alloc (o := .lst xs) hp trivial
  exact Fr.push (f := [p]) h' (Rv.ow_iff.mpr ⟨rfl, ds, p, xs, [], rfl, rfl, upd_same, rfl, All3.ofRps r⟩)
/-- a new tuple of shared items -/
theorem Fr.newT {ds : List D} {xs : List V} {p : Addr} (h : Fr K B0 F B H g es vs) (r : Rps K B ds xs) (hp : H p = none) : Fr K B0 F (upd B p (.tup xs)) (upd H p (.tup xs)) g (some (.tup ds, .sh) :: es) (some (.ref p) :: vs) := by
  have h' := h.allocS (o := .tup xs) hp
  refine h'.push0 (Rv.mksh ?_)
  simp only [Rp]
  exact ⟨p, xs, rfl, upd_same, Rps.mono (Ex.new (h.not_none hp).1) _ _ r⟩
theorem Fr.popL {m : Md} : ∀ {as : List Dm} {av : List V} {g : List Addr}, av.length = as.length → Fr K B0 F B H g (as.map some ++ es) (av.map some ++ vs) → as.all (fun a => a.2.beq m) = true →
    ∃ f, All3 (Rv K B H m) (as.map (·.1)) av f ∧ Fr K B0 F B H (f ++ g) es vs
  | [], [], g, _, h, _ => ⟨[], ⟨rfl, rfl⟩, h⟩
  | [], _ :: _, _, hl, _, _ => by simp at hl
  | _ :: _, [], _, hl, _, _ => by simp at hl
  | a :: as, v :: av, g, hl, h, n => by
    simp only [List.all_cons, Bool.and_eq_true] at n
    have em := Md.eq_of _ _ n.1
    obtain ⟨x, f1, e, r, h1⟩ := Fr.pop1 (dm := a) h
    cases e
    obtain ⟨f2, r2, h2⟩ := Fr.popL (as := as) (av := av) (by simpa using hl) h1 n.2
    rw [em] at r
    refine ⟨f1 ++ f2, ⟨v, av, f1, f2, rfl, rfl, r, r2⟩, Fr.perm ?_ h2⟩
    rw [← List.append_assoc]
    exact List.Perm.append_right g List.perm_append_comm
theorem Fr.popM : ∀ {as : List Dm} {av : List V} {g : List Addr}, av.length = as.length → Fr K B0 F B H g (as.map some ++ es) (av.map some ++ vs) →
    ∃ f, Rvs K B H (as.map (·.2)) (as.map (·.1)) av f ∧ Fr K B0 F B H (f ++ g) es vs
  | [], [], g, _, h => ⟨[], by simp [Rvs], h⟩
  | [], _ :: _, _, hl, _ => by simp at hl
  | _ :: _, [], _, hl, _ => by simp at hl
  | a :: as, v :: av, g, hl, h => by
    obtain ⟨x, f1, e, r, h1⟩ := Fr.pop1 (dm := a) h
    cases e
    obtain ⟨f2, r2, h2⟩ := Fr.popM (as := as) (av := av) (by simpa using hl) h1
    refine ⟨f1 ++ f2, ?_, Fr.perm ?_ h2⟩
    · simp only [List.map_cons, Rvs]
      exact ⟨a.1, _, v, av, f1, f2, rfl, rfl, rfl, r, r2⟩
    · rw [← List.append_assoc]
      exact List.Perm.append_right g List.perm_append_comm
theorem Fr.popSh {as : List Dm} {av : List V} (hl : av.length = as.length) (h : Fr K B0 F B H g (as.map some ++ es) (av.map some ++ vs)) (n : as.all (fun a => isSh a.2) = true) : Rps K B (as.map (·.1)) av ∧ Fr K B0 F B H g es vs := by
  obtain ⟨f, r, h'⟩ := Fr.popL (m := .sh) hl h (by
    rw [List.all_eq_true] at n ⊢
    intro a ha
    rw [isSh_eq (n a ha)]
    rfl)
  exact ⟨r.toRps, h'.drop⟩

/-! ## ints -/
def oI (g : Int → Int → Option D) : Dm → Dm → Option Dm := fun a b => match a.1, b.1 with
  | .int i, .int j => (g i j).map fun d => (d, .sh)
  | _, _ => none
theorem op2_I {C : Int → Int → Prop} {gv : Int → Int → V} {gd : Int → Int → Option D} (hC : ∀ i j d, gd i j = some d → C i j ∧ ∀ B, Rp K B d (gv i j)) : Op2 K (rI C gv) (oI gd) := by
  intro B0 F B H g es vs a b va vb res Q fr e q
  obtain ⟨da, ma⟩ := a
  obtain ⟨db, mb⟩ := b
  unfold oI at e
  split at e
  · rename_i i j h1 h2
    dsimp only at h1 h2
    subst h1 h2
    obtain ⟨vb', eb, rb⟩ := fr.rd
    cases eb
    have fr1 := fr.popD
    obtain ⟨va', ea, ra⟩ := fr1.rd
    cases ea
    simp only [Rp] at ra rb
    cases hg : gd i j with
    | none => rw [hg] at e; cases e
    | some d =>
      rw [hg] at e
      cases e
      obtain ⟨hc, hr⟩ := hC i j d hg
      exact ⟨i, j, ra, rb, hc, q _ B H (Ex.refl _) (fr1.popD.push0 (Rv.mksh (hr B)))⟩
  · cases e
theorem op2_I0 {gv : Int → Int → V} {gd : Int → Int → D} (hC : ∀ i j B, Rp K B (gd i j) (gv i j)) : Op2 K (rI0 gv) (oI fun i j => some (gd i j)) := by
  intro B0 F B H g es vs a b va vb res Q fr e q
  obtain ⟨i, j, e1, e2, _, q'⟩ := op2_I (K := K) (C := fun _ _ => True) (gv := gv) (gd := fun i j => some (gd i j)) (fun i j d h => by cases h; exact ⟨trivial, hC i j⟩) B0 F B H g es vs a b va vb res Q fr e q
  exact ⟨i, j, e1, e2, q'⟩
def oAdd : Dm → Dm → Option Dm := oI fun i j => some (.int (i + j))
def oSub : Dm → Dm → Option Dm := oI fun i j => some (.int (i - j))
theorem mulOk_ex : ∃ f : Int → Int → Bool, ∀ i j : Int, f i j = true ↔ ((-(2 ^ 64) < i ∧ i < 2 ^ 64) ∨ (-(2 ^ 64) < j ∧ j < 2 ^ 64)) :=
  ⟨fun i j => decide ((-(2 ^ 64) < i ∧ i < 2 ^ 64) ∨ (-(2 ^ 64) < j ∧ j < 2 ^ 64)), fun _ _ => decide_eq_true_iff⟩
noncomputable def mulOk : Int → Int → Bool := Classical.choose mulOk_ex
theorem mulOk_iff {i j : Int} : mulOk i j = true ↔ ((-(2 ^ 64) < i ∧ i < 2 ^ 64) ∨ (-(2 ^ 64) < j ∧ j < 2 ^ 64)) := Classical.choose_spec mulOk_ex i j
noncomputable def oMul : Dm → Dm → Option Dm := oI fun i j => if mulOk i j then some (.int (i * j)) else none
def oDiv : Dm → Dm → Option Dm := oI fun i j => if 0 < j ∧ j < 1073741824 then some (.int (i / j)) else none
def oMod : Dm → Dm → Option Dm := oI fun i j => if 0 < j then some (.int (i % j)) else none
def oPow : Dm → Dm → Option Dm := oI fun i j => if 0 ≤ j ∧ j ≤ 1000000 ∧ i.natAbs < 2 ^ 64 then some (.int (i ^ j.toNat)) else none
def oLt : Dm → Dm → Option Dm := oI fun i j => some (.bl (decide (i < j)))
def oLe : Dm → Dm → Option Dm := oI fun i j => some (.bl (decide (i ≤ j)))
def oGt : Dm → Dm → Option Dm := oI fun i j => some (.bl (decide (j < i)))
def oGe : Dm → Dm → Option Dm := oI fun i j => some (.bl (decide (j ≤ i)))
theorem op_oAdd : Op2 K (rI0 fun i j => .int (i + j)) oAdd := op2_I0 fun _ _ _ => rp_int
theorem op_oSub : Op2 K (rI0 fun i j => .int (i - j)) oSub := op2_I0 fun _ _ _ => rp_int
theorem op_oMul : Op2 K (rI CMul fun i j => .int (i * j)) oMul := op2_I fun i j d h => by
  split at h
  · rename_i c; cases h; exact ⟨mulOk_iff.mp c, fun _ => rp_int⟩
  · cases h
theorem op_oDiv : Op2 K (rI CDiv fun i j => .int (i / j)) oDiv := op2_I fun i j d h => by
  split at h
  · rename_i c; cases h; exact ⟨c, fun _ => rp_int⟩
  · cases h
theorem op_oMod : Op2 K (rI (fun _ j => 0 < j) fun i j => .int (i % j)) oMod := op2_I fun i j d h => by
  split at h
  · rename_i c; cases h; exact ⟨c, fun _ => rp_int⟩
  · cases h
theorem op_oPow : Op2 K (rI CPow fun i j => .int (i ^ j.toNat)) oPow := op2_I fun i j d h => by
  split at h
  · rename_i c; cases h; exact ⟨c, fun _ => rp_int⟩
  · cases h
theorem op_oLt : Op2 K (rI0 fun i j => .bl (decide (i < j))) oLt := op2_I0 fun _ _ _ => rp_bl
theorem op_oLe : Op2 K (rI0 fun i j => .bl (decide (i ≤ j))) oLe := op2_I0 fun _ _ _ => rp_bl
theorem op_oGt : Op2 K (rI0 fun i j => .bl (decide (j < i))) oGt := op2_I0 fun _ _ _ => rp_bl
theorem op_oGe : Op2 K (rI0 fun i j => .bl (decide (j ≤ i))) oGe := op2_I0 fun _ _ _ => rp_bl
/-- -n -/
def oNeg : Dm → Option Dm := fun a => match a.1 with
  | .int i => some (.int (-i), .sh)
  | _ => none
theorem op_oNeg : Op1 K (rU fun i => .int (-i)) oNeg := by
  intro B0 F B H g es vs a va res Q fr e q
  obtain ⟨da, ma⟩ := a
  unfold oNeg at e
  split at e
  · rename_i i h
    dsimp only at h
    subst h
    cases e
    obtain ⟨v', ev, r⟩ := fr.rd
    cases ev
    simp only [Rp] at r
    exact ⟨i, r, q _ B H (Ex.refl _) (fr.popD.push0 (Rv.mksh rp_int))⟩
  · cases e

/-! ## equality -/
mutual
def D.py : D → PyData
  | .non => .none
  | .bl b => .bool b
  | .int i => .int i
  | .str x => .str x
  | .lst ds => .list (D.pys ds)
  | .tup ds => .tuple (D.pys ds)
  | _ => .dict []
def D.pys : List D → List PyData
  | [] => []
  | d :: ds => d.py :: D.pys ds
end
theorem D.pys_map : ∀ ds : List D, D.pys ds = ds.map D.py
  | [] => rfl
  | d :: ds => by rw [D.pys, D.pys_map ds]; rfl
mutual
theorem Rp.dp : ∀ (d : D) (v : V), d.py.canLay0 = true → Rp K H d v → Dp K H v d.py
  | .non, v, _, h => by simp only [Rp] at h; subst h; exact .non
  | .bl b, v, _, h => by simp only [Rp] at h; subst h; exact .bl b
  | .int i, v, _, h => by simp only [Rp] at h; subst h; exact .int i
  | .str x, v, _, h => by simp only [Rp] at h; subst h; exact .str x
  | .fz _, _, c, _ => by simp [D.py, PyData.canLay0] at c
  | .ty _, _, c, _ => by simp [D.py, PyData.canLay0] at c
  | .lst ds, v, c, h => by
    simp only [Rp] at h
    obtain ⟨a, xs, e1, e2, e3⟩ := h
    subst e1
    exact .lst (SqL.of e2) (Rps.dp ds xs (by simpa [D.py, PyData.canLay0] using c) e3)
  | .tup ds, v, c, h => by
    simp only [Rp] at h
    obtain ⟨a, xs, e1, e2, e3⟩ := h
    subst e1
    exact .tup (SqT.of e2) (Rps.dp ds xs (by simpa [D.py, PyData.canLay0] using c) e3)
  | .dT _ _, _, c, _ => by simp [D.py, PyData.canLay0] at c
  | .dK _ _, _, c, _ => by simp [D.py, PyData.canLay0] at c
  | .ex _, _, c, _ => by simp [D.py, PyData.canLay0] at c
theorem Rps.dp : ∀ (ds : List D) (vs : List V), PyData.canLayAll0 (D.pys ds) = true → Rps K H ds vs → DpAll K H vs (D.pys ds)
  | [], vs, _, h => by simp only [Rps] at h; subst h; exact .nil
  | d :: ds, vs, c, h => by
    simp only [Rps] at h
    obtain ⟨v, r, e1, h1, h2⟩ := h
    subst e1
    simp only [D.pys, PyData.canLayAll0, Bool.and_eq_true] at c
    exact .cons (Rp.dp d v c.1 h1) (Rps.dp ds r c.2 h2)
end
def D.shp (d : D) : Bool := SeqAt.shaped d.py
def D.eqv (d e : D) : Bool := PyData.eqv d.py e.py
def oEq : Dm → Dm → Option Dm := fun a b => if a.1.shp && b.1.shp then some (.bl (a.1.eqv b.1), .sh) else none
def oNe : Dm → Dm → Option Dm := fun a b => if a.1.shp && b.1.shp then some (.bl (!(a.1.eqv b.1)), .sh) else none
theorem eq_dp {a b : Dm} {va vb : V} (fr : Fr K B0 F B H g (some b :: some a :: es) (some vb :: some va :: vs)) (n : (a.1.shp && b.1.shp) = true) : Dp K H va a.1.py ∧ Dp K H vb b.1.py ∧ SeqAt.shaped a.1.py = true ∧ SeqAt.shaped b.1.py = true ∧ Fr K B0 F B H g es vs := by
  obtain ⟨da, ma⟩ := a
  obtain ⟨db, mb⟩ := b
  simp only [Bool.and_eq_true] at n
  obtain ⟨vb', eb, rb⟩ := fr.rd
  cases eb
  have fr1 := fr.popD
  obtain ⟨va', ea, ra⟩ := fr1.rd
  cases ea
  exact ⟨Rp.dp _ _ (SeqAt.canLay_of_shaped n.1) ra, Rp.dp _ _ (SeqAt.canLay_of_shaped n.2) rb, n.1, n.2, fr1.popD⟩
theorem op_oEq : Op2 K (rEqD K) oEq := by
  intro B0 F B H g es vs a b va vb res Q fr e q
  unfold oEq at e
  split at e
  · rename_i n
    cases e
    obtain ⟨h1, h2, h3, h4, fr2⟩ := eq_dp fr n
    exact ⟨_, _, h1, h2, h3, h4, q _ B H (Ex.refl _) (fr2.push0 (Rv.mksh rp_bl))⟩
  · cases e
theorem op_oNe : Op2 K (rNeD K) oNe := by
  intro B0 F B H g es vs a b va vb res Q fr e q
  unfold oNe at e
  split at e
  · rename_i n
    cases e
    obtain ⟨h1, h2, h3, h4, fr2⟩ := eq_dp fr n
    exact ⟨_, _, h1, h2, h3, h4, q _ B H (Ex.refl _) (fr2.push0 (Rv.mksh rp_bl))⟩
  · cases e
/-- is None -/
def D.isN : D → Bool
  | .non => true
  | _ => false
def oIsN : Dm → Dm → Option Dm := fun a b => match b.1 with
  | .non => some (.bl a.1.isN, .sh)
  | _ => none
def oNotN : Dm → Dm → Option Dm := fun a b => match b.1 with
  | .non => some (.bl (!a.1.isN), .sh)
  | _ => none
theorem rp_non_iff {d : D} {v : V} (h : Rp K H d v) : decide (v = .non) = d.isN := by
  cases d <;> simp only [Rp] at h <;> first
    | (subst h; rfl)
    | (obtain ⟨a, _, e, _⟩ := h; subst e; rfl)
    | (obtain ⟨a, e, _⟩ := h; subst e; rfl)
theorem op_oIsN : Op2 K (fun x y H Q => y = .non ∧ Q (.bl (decide (x = .non))) H) oIsN := by
  intro B0 F B H g es vs a b va vb res Q fr e q
  obtain ⟨da, ma⟩ := a
  obtain ⟨db, mb⟩ := b
  unfold oIsN at e
  split at e
  · rename_i h
    dsimp only at h
    subst h
    cases e
    obtain ⟨vb', eb, rb⟩ := fr.rd
    cases eb
    have fr1 := fr.popD
    obtain ⟨va', ea, ra⟩ := fr1.rd
    cases ea
    refine ⟨by simpa only [Rp] using rb, ?_⟩
    rw [rp_non_iff ra]
    exact q _ B H (Ex.refl _) (fr1.popD.push0 (Rv.mksh rp_bl))
  · cases e
theorem op_oNotN : Op2 K (fun x y H Q => y = .non ∧ Q (.bl (!decide (x = .non))) H) oNotN := by
  intro B0 F B H g es vs a b va vb res Q fr e q
  obtain ⟨da, ma⟩ := a
  obtain ⟨db, mb⟩ := b
  unfold oNotN at e
  split at e
  · rename_i h
    dsimp only at h
    subst h
    cases e
    obtain ⟨vb', eb, rb⟩ := fr.rd
    cases eb
    have fr1 := fr.popD
    obtain ⟨va', ea, ra⟩ := fr1.rd
    cases ea
    refine ⟨by simpa only [Rp] using rb, ?_⟩
    rw [rp_non_iff ra]
    exact q _ B H (Ex.refl _) (fr1.popD.push0 (Rv.mksh rp_bl))
  · cases e
/-- in a list -/
def oIn : Dm → Dm → Option Dm := fun a b => match b.1 with
  | .lst ds => if a.1.shp && b.1.shp then some (.bl (ds.any fun z => z.eqv a.1), .sh) else none
  | _ => none
def oNotIn : Dm → Dm → Option Dm := fun a b => match b.1 with
  | .lst ds => if a.1.shp && b.1.shp then some (.bl (!(ds.any fun z => z.eqv a.1)), .sh) else none
  | _ => none
theorem any_pys (d : D) : ∀ ds : List D, ((D.pys ds).any fun z => PyData.eqv z d.py) = ds.any fun z => z.eqv d
  | [] => rfl
  | e :: ds => by
    rw [D.pys, List.any_cons, any_pys d ds, List.any_cons]
    rfl
theorem op_oIn : Op2 K (rInD K) oIn := by
  intro B0 F B H g es vs a b va vb res Q fr e q
  obtain ⟨db, mb⟩ := b
  unfold oIn at e
  split at e
  · rename_i ds h
    dsimp only at h
    subst h
    split at e
    · rename_i n
      cases e
      obtain ⟨h1, h2, h3, h4, fr2⟩ := eq_dp fr n
      refine ⟨_, D.pys ds, h1, h2, h3, h4, ?_⟩
      rw [any_pys]
      exact q _ B H (Ex.refl _) (fr2.push0 (Rv.mksh rp_bl))
    · cases e
  · cases e
theorem op_oNotIn : Op2 K (rNotInD K) oNotIn := by
  intro B0 F B H g es vs a b va vb res Q fr e q
  obtain ⟨db, mb⟩ := b
  unfold oNotIn at e
  split at e
  · rename_i ds h
    dsimp only at h
    subst h
    split at e
    · rename_i n
      cases e
      obtain ⟨h1, h2, h3, h4, fr2⟩ := eq_dp fr n
      refine ⟨_, D.pys ds, h1, h2, h3, h4, ?_⟩
      rw [any_pys]
      exact q _ B H (Ex.refl _) (fr2.push0 (Rv.mksh rp_bl))
    · cases e
  · cases e

/-! ## items, slices, lists -/
/-- how an item is held that is read off a thing so held -/
def itMd (m : Md) (d : D) : Md := if d.atm then .sh else if isSh m then .sh else .bw
def oIx : Dm → Dm → Option Dm := fun a b => match a.1, b.1 with
  | .lst ds, .int i => (atI ds i).map fun d => (d, itMd a.2 d)
  | .tup ds, .int i => (atI ds i).map fun d => (d, itMd a.2 d)
  | .fz ns, .int i => (atI ns i).map fun n => (.int n, .sh)
  | _, _ => none
theorem atI_rps {ds : List D} {xs : List V} {i : Int} {d : D} (h : Rps K H ds xs) (e : atI ds i = some d) : ∃ v, atI xs i = some v ∧ Rp K H d v := by
  unfold atI at e ⊢
  rw [h.len]
  cases q : ixN ds.length i with
  | none => rw [q] at e; cases e
  | some j =>
    rw [q] at e
    exact h.get e
theorem atI_map {α β : Type} {f : α → β} {xs : List α} {i : Int} {x : α} (e : atI xs i = some x) : atI (xs.map f) i = some (f x) := by
  unfold atI at e ⊢
  rw [List.length_map]
  cases q : ixN xs.length i with
  | none => rw [q] at e; cases e
  | some j =>
    rw [q] at e
    have e' : xs[j]? = some x := e
    show (xs.map f)[j]? = some (f x)
    rw [List.getElem?_map, e']
    rfl
theorem Fr.item {m : Md} {d e : D} {v x : V} (h : Fr K B0 F B H g (some (d, m) :: es) (some v :: vs)) (hr : Rp K H e x) (hs : isSh m = true → Rp K B e x) : ∃ B', Fr K B0 F B' H g (some (e, itMd m e) :: es) (some x :: vs) := by
  have h' := h.popD
  unfold itMd
  cases a : e.atm with
  | true => exact ⟨wT B H, h'.wt.push0 (Rv.mksh (Rp.atm _ _ a hr))⟩
  | false =>
    cases s : isSh m with
    | true => exact ⟨B, h'.push0 (Rv.mksh (hs s))⟩
    | false => exact ⟨B, h'.push0 (Rv.mkbw hr)⟩
theorem op_oIx : Op2 K (rIx K) oIx := by
  intro B0 F B H g es vs a b va vb res Q fr e q
  obtain ⟨da, ma⟩ := a
  obtain ⟨db, mb⟩ := b
  obtain ⟨vb', eb, rb⟩ := fr.rd
  cases eb
  have fr1 := fr.popD
  obtain ⟨va', ea, ra⟩ := fr1.rd
  cases ea
  have sh : isSh ma = true → Rp K B da va := fun s => by
    obtain ⟨x, f, e, r, h⟩ := fr1.pop1
    cases e
    rw [isSh_eq s] at r
    simp only [Rv] at r
    exact r.1
  unfold oIx at e
  split at e
  · rename_i ds i h1 h2
    dsimp only at h1 h2
    subst h1 h2
    simp only [Rp] at rb
    cases hd : atI ds i with
    | none => rw [hd] at e; cases e
    | some d =>
      rw [hd] at e
      cases e
      have ra' := ra
      simp only [Rp] at ra
      obtain ⟨p, xs, e1, e2, e3⟩ := ra
      subst e1
      obtain ⟨x, hx, rx⟩ := atI_rps e3 hd
      obtain ⟨B', fr'⟩ := Fr.item fr1 rx fun s => by
        have r2 := sh s
        simp only [Rp] at r2
        obtain ⟨p', xs', e1', e2', e3'⟩ := r2
        cases e1'
        have := fr1.ex _ _ e2'
        rw [e2] at this
        cases this
        obtain ⟨x', hx', rx'⟩ := atI_rps e3' hd
        rw [hx] at hx'
        cases hx'
        exact rx'
      exact .inl ⟨p, xs, i, x, rfl, rb, SqL.of e2, hx, q x B' H (Ex.refl _) fr'⟩
  · rename_i ds i h1 h2
    dsimp only at h1 h2
    subst h1 h2
    simp only [Rp] at rb
    cases hd : atI ds i with
    | none => rw [hd] at e; cases e
    | some d =>
      rw [hd] at e
      cases e
      simp only [Rp] at ra
      obtain ⟨p, xs, e1, e2, e3⟩ := ra
      subst e1
      obtain ⟨x, hx, rx⟩ := atI_rps e3 hd
      obtain ⟨B', fr'⟩ := Fr.item fr1 rx fun s => by
        have r2 := sh s
        simp only [Rp] at r2
        obtain ⟨p', xs', e1', e2', e3'⟩ := r2
        cases e1'
        have := fr1.ex _ _ e2'
        rw [e2] at this
        cases this
        obtain ⟨x', hx', rx'⟩ := atI_rps e3' hd
        rw [hx] at hx'
        cases hx'
        exact rx'
      exact .inr (.inl ⟨p, xs, i, x, rfl, rb, SqT.of e2, hx, q x B' H (Ex.refl _) fr'⟩)
  · rename_i ns i h1 h2
    dsimp only at h1 h2
    subst h1 h2
    simp only [Rp] at rb
    cases hd : atI ns i with
    | none => rw [hd] at e; cases e
    | some n =>
      rw [hd] at e
      cases e
      simp only [Rp] at ra
      obtain ⟨p, e1, e2⟩ := ra
      subst e1
      exact .inl ⟨p, _, i, .int n, rfl, rb, e2.sq, atI_map hd, q _ B H (Ex.refl _) (fr1.popD.push0 (Rv.mksh rp_int))⟩
  · cases e
/-- xs + ys -/
def oCat : Dm → Dm → Option Dm := fun a b => match a.1, b.1 with
  | .lst ds, .lst es => if elSh a.2 ds && elSh b.2 es && decide (ds.length + es.length ≤ lim) then some (.lst (ds ++ es), .ow .sh) else none
  | _, _ => none
theorem op_oCat : Op2 K rCat oCat := by
  intro B0 F B H g es vs a b va vb res Q fr e q
  obtain ⟨da, ma⟩ := a
  obtain ⟨db, mb⟩ := b
  unfold oCat at e
  split at e
  · rename_i ds1 ds2 h1 h2
    dsimp only at h1 h2
    subst h1 h2
    split at e
    · rename_i n
      cases e
      simp only [Bool.and_eq_true, decide_eq_true_eq] at n
      obtain ⟨⟨n1, n2⟩, n3⟩ := n
      obtain ⟨B1, p2, ys, x1, e2, hy, ry, fr1⟩ := fr.elems n2
      subst e2
      obtain ⟨B2, p1, xs, x2, e1, hx, rx, fr2⟩ := fr1.elems n1
      subst e1
      refine ⟨p1, p2, xs, ys, rfl, rfl, hx, hy, ?_, fun p hp => ?_⟩
      · rw [rx.len, ry.len]; exact Nat.le_trans n3 lim_le
      · exact q _ B2 _ (Ex.new hp) (fr2.newL (Rps.app rx (Rps.mono x2 _ _ ry)) hp)
    · cases e
  · cases e
end

/-! ## calls of built-ins -/
def intsOf : List D → Option (List Int)
  | [] => some []
  | .int i :: ds => (intsOf ds).map (i :: ·)
  | _ :: _ => none
theorem intsOf_eq : ∀ {ds : List D} {ns : List Int}, intsOf ds = some ns → ds = ns.map D.int
  | [], ns, h => by cases h; rfl
  | .int i :: ds, ns, h => by
    simp only [intsOf] at h
    cases q : intsOf ds with
    | none => rw [q] at h; cases h
    | some ms =>
      rw [q] at h
      cases h
      rw [intsOf_eq q]
      rfl
  | .non :: _, _, h => by simp [intsOf] at h
  | .bl _ :: _, _, h => by simp [intsOf] at h
  | .str _ :: _, _, h => by simp [intsOf] at h
  | .fz _ :: _, _, h => by simp [intsOf] at h
  | .ty _ :: _, _, h => by simp [intsOf] at h
  | .lst _ :: _, _, h => by simp [intsOf] at h
  | .tup _ :: _, _, h => by simp [intsOf] at h
  | .dT _ _ :: _, _, h => by simp [intsOf] at h
  | .dK _ _ :: _, _, h => by simp [intsOf] at h
  | .ex _ :: _, _, h => by simp [intsOf] at h
theorem intsOf_map : ∀ ns : List Int, intsOf (ns.map D.int) = some ns
  | [] => rfl
  | n :: ns => by simp only [List.map_cons, intsOf, intsOf_map ns]; rfl
def blsOf : List D → Option (List Bool)
  | [] => some []
  | .bl i :: ds => (blsOf ds).map (i :: ·)
  | _ :: _ => none
theorem blsOf_eq : ∀ {ds : List D} {ns : List Bool}, blsOf ds = some ns → ds = ns.map D.bl
  | [], ns, h => by cases h; rfl
  | .bl i :: ds, ns, h => by
    simp only [blsOf] at h
    cases q : blsOf ds with
    | none => rw [q] at h; cases h
    | some ms =>
      rw [q] at h
      cases h
      rw [blsOf_eq q]
      rfl
  | .non :: _, _, h => by simp [blsOf] at h
  | .int _ :: _, _, h => by simp [blsOf] at h
  | .str _ :: _, _, h => by simp [blsOf] at h
  | .fz _ :: _, _, h => by simp [blsOf] at h
  | .ty _ :: _, _, h => by simp [blsOf] at h
  | .lst _ :: _, _, h => by simp [blsOf] at h
  | .tup _ :: _, _, h => by simp [blsOf] at h
  | .dT _ _ :: _, _, h => by simp [blsOf] at h
  | .dK _ _ :: _, _, h => by simp [blsOf] at h
  | .ex _ :: _, _, h => by simp [blsOf] at h
theorem blsOf_map : ∀ ns : List Bool, blsOf (ns.map D.bl) = some ns
  | [] => rfl
  | n :: ns => by simp only [List.map_cons, blsOf, blsOf_map ns]; rfl
section
variable {K : PySem.W.Frag} {B0 F B H : Hp} {g : List Addr} {es : SS} {vs : List (Option V)}
theorem Rps.ints : ∀ {ns : List Int} {xs : List V}, Rps K H (ns.map D.int) xs → xs = ns.map V.int
  | [], xs, h => by simpa only [List.map_nil, Rps] using h
  | n :: ns, xs, h => by
    simp only [List.map_cons, Rps] at h
    obtain ⟨v, r, e1, h1, h2⟩ := h
    simp only [Rp] at h1
    subst h1
    rw [e1, Rps.ints h2]
    rfl
theorem Rps.bls : ∀ {ns : List Bool} {xs : List V}, Rps K H (ns.map D.bl) xs → xs = ns.map V.bl
  | [], xs, h => by simpa only [List.map_nil, Rps] using h
  | n :: ns, xs, h => by
    simp only [List.map_cons, Rps] at h
    obtain ⟨v, r, e1, h1, h2⟩ := h
    simp only [Rp] at h1
    subst h1
    rw [e1, Rps.bls h2]
    rfl
/-- one argument -/
theorem arg1 {a : Dm} {av : List V} (hl : av.length = ([a] : List Dm).length) (fr : Fr K B0 F B H g (([a] : List Dm).map some ++ es) (av.map some ++ vs)) : ∃ v, av = [v] ∧ Fr K B0 F B H g (some (a.1, a.2) :: es) (some v :: vs) := by
  match av, hl with
  | [v], _ => exact ⟨v, rfl, fr⟩
theorem arg2 {a b : Dm} {av : List V} (hl : av.length = ([a, b] : List Dm).length) (fr : Fr K B0 F B H g (([a, b] : List Dm).map some ++ es) (av.map some ++ vs)) : ∃ v w, av = [v, w] ∧ Fr K B0 F B H g (some (a.1, a.2) :: some (b.1, b.2) :: es) (some v :: some w :: vs) := by
  match av, hl with
  | [v, w], _ => exact ⟨v, w, rfl, fr⟩
def oLen : List Dm → Option Dm := fun as => match as with
  | [(.lst ds, _)] => some (.int (ds.length : Nat), .sh)
  | [(.tup ds, _)] => some (.int (ds.length : Nat), .sh)
  | [(.fz ns, _)] => some (.int (ns.length : Nat), .sh)
  | _ => none
theorem op_oLen : OpN K (fun xs H Q => ∃ p ys, xs = [.ref p] ∧ (SqL K H p ys ∨ SqT K H p ys) ∧ Q (.int ys.length) H) oLen := by
  intro B0 F B H g es vs as av res Q hl fr e q
  unfold oLen at e
  split at e
  · rename_i ds m
    cases e
    obtain ⟨v, rfl, fr⟩ := arg1 hl fr
    obtain ⟨x, ex, r⟩ := fr.rd
    cases ex
    simp only [Rp] at r
    obtain ⟨p, xs, e1, e2, e3⟩ := r
    subst e1
    refine ⟨p, xs, rfl, .inl (SqL.of e2), ?_⟩
    rw [e3.len]
    exact q _ B H (Ex.refl _) (fr.popD.push0 (Rv.mksh rp_int))
  · rename_i ds m
    cases e
    obtain ⟨v, rfl, fr⟩ := arg1 hl fr
    obtain ⟨x, ex, r⟩ := fr.rd
    cases ex
    simp only [Rp] at r
    obtain ⟨p, xs, e1, e2, e3⟩ := r
    subst e1
    refine ⟨p, xs, rfl, .inr (SqT.of e2), ?_⟩
    rw [e3.len]
    exact q _ B H (Ex.refl _) (fr.popD.push0 (Rv.mksh rp_int))
  · rename_i ns m
    cases e
    obtain ⟨v, rfl, fr⟩ := arg1 hl fr
    obtain ⟨x, ex, r⟩ := fr.rd
    cases ex
    simp only [Rp] at r
    obtain ⟨p, e1, e2⟩ := r
    subst e1
    refine ⟨p, _, rfl, .inl e2.sq, ?_⟩
    rw [List.length_map]
    exact q _ B H (Ex.refl _) (fr.popD.push0 (Rv.mksh rp_int))
  · cases e
def oList : List Dm → Option Dm := fun as => match as with
  | [(.lst ds, m)] => if elSh m ds then some (.lst ds, .ow .sh) else none
  | [(.tup ds, m)] => if elSh m ds then some (.lst ds, .ow .sh) else none
  | _ => none
theorem op_oList : OpN K (fun xs H Q => ∃ p ys, xs = [.ref p] ∧ (SqL K H p ys ∨ SqT K H p ys) ∧ ∀ l, H l = none → Q (.ref l) (upd H l (.lst ys))) oList := by
  intro B0 F B H g es vs as av res Q hl fr e q
  unfold oList at e
  split at e
  · rename_i ds m
    split at e
    · rename_i n
      cases e
      obtain ⟨v, rfl, fr⟩ := arg1 hl fr
      obtain ⟨B', p, xs, x, e1, e2, r, fr'⟩ := fr.elems n
      subst e1
      exact ⟨p, xs, rfl, .inl (SqL.of e2), fun l hl => q _ _ _ (Ex.new hl) (fr'.newL r hl)⟩
    · cases e
  · rename_i ds m
    split at e
    · rename_i n
      cases e
      obtain ⟨v, rfl, fr⟩ := arg1 hl fr
      obtain ⟨B', p, xs, x, e1, e2, r, fr'⟩ := fr.elemsT n
      subst e1
      exact ⟨p, xs, rfl, .inr (SqT.of e2), fun l hl => q _ _ _ (Ex.new hl) (fr'.newL r hl)⟩
    · cases e
  · cases e
def oSum : List Dm → Option Dm := fun as => match as with
  | [(.lst ds, _)] => (intsOf ds).map fun ns => (.int ns.sum, .sh)
  | _ => none
theorem op_oSum : OpN K (rSum K) oSum := by
  intro B0 F B H g es vs as av res Q hl fr e q
  unfold oSum at e
  split at e
  · rename_i ds m
    cases hn : intsOf ds with
    | none => rw [hn] at e; cases e
    | some ns =>
      rw [hn] at e
      cases e
      obtain ⟨v, rfl, fr⟩ := arg1 hl fr
      obtain ⟨x, ex, r⟩ := fr.rd
      cases ex
      rw [intsOf_eq hn] at r
      simp only [Rp] at r
      obtain ⟨p, xs, e1, e2, e3⟩ := r
      subst e1
      rw [e3.ints] at e2
      exact ⟨p, ns, rfl, SqL.of e2, q _ B H (Ex.refl _) (fr.popD.push0 (Rv.mksh rp_int))⟩
  · cases e
def minL : List Int → Option Int
  | [] => none
  | n :: ns => some (ns.foldl (fun a b => if b < a then b else a) n)
def maxL : List Int → Option Int
  | [] => none
  | n :: ns => some (ns.foldl (fun a b => if a < b then b else a) n)
theorem minF_le : ∀ (ns : List Int) (n : Int), ns.foldl (fun a b => if b < a then b else a) n ≤ n ∧ ∀ y ∈ ns, ns.foldl (fun a b => if b < a then b else a) n ≤ y
  | [], n => ⟨Int.le_refl _, fun _ h => nomatch h⟩
  | m :: ns, n => by
    obtain ⟨h1, h2⟩ := minF_le ns (if m < n then m else n)
    simp only [List.foldl_cons]
    refine ⟨?_, fun y hy => ?_⟩
    · split at h1 <;> (split <;> omega)
    · rcases List.mem_cons.mp hy with rfl | hy
      · split at h1 <;> (split <;> omega)
      · exact h2 y hy
theorem maxF_le : ∀ (ns : List Int) (n : Int), n ≤ ns.foldl (fun a b => if a < b then b else a) n ∧ ∀ y ∈ ns, y ≤ ns.foldl (fun a b => if a < b then b else a) n
  | [], n => ⟨Int.le_refl _, fun _ h => nomatch h⟩
  | m :: ns, n => by
    obtain ⟨h1, h2⟩ := maxF_le ns (if n < m then m else n)
    simp only [List.foldl_cons]
    refine ⟨?_, fun y hy => ?_⟩
    · split at h1 <;> (split <;> omega)
    · rcases List.mem_cons.mp hy with rfl | hy
      · split at h1 <;> (split <;> omega)
      · exact h2 y hy
theorem minF_mem : ∀ (ns : List Int) (n : Int), ns.foldl (fun a b => if b < a then b else a) n ∈ n :: ns
  | [], n => List.mem_cons_self
  | m :: ns, n => by
    have h := minF_mem ns (if m < n then m else n)
    simp only [List.foldl_cons]
    rcases List.mem_cons.mp h with h | h
    · rw [h]; split <;> simp
    · exact List.mem_cons_of_mem _ (List.mem_cons_of_mem _ h)
theorem maxF_mem : ∀ (ns : List Int) (n : Int), ns.foldl (fun a b => if a < b then b else a) n ∈ n :: ns
  | [], n => List.mem_cons_self
  | m :: ns, n => by
    have h := maxF_mem ns (if n < m then m else n)
    simp only [List.foldl_cons]
    rcases List.mem_cons.mp h with h | h
    · rw [h]; split <;> simp
    · exact List.mem_cons_of_mem _ (List.mem_cons_of_mem _ h)
theorem minL_spec {ns : List Int} {m : Int} (h : minL ns = some m) : m ∈ ns ∧ ∀ y ∈ ns, m ≤ y := by
  cases ns with
  | nil => cases h
  | cons n ns =>
    cases h
    refine ⟨minF_mem ns n, fun y hy => ?_⟩
    rcases List.mem_cons.mp hy with rfl | hy
    · exact (minF_le ns y).1
    · exact (minF_le ns n).2 y hy
theorem maxL_spec {ns : List Int} {m : Int} (h : maxL ns = some m) : m ∈ ns ∧ ∀ y ∈ ns, y ≤ m := by
  cases ns with
  | nil => cases h
  | cons n ns =>
    cases h
    refine ⟨maxF_mem ns n, fun y hy => ?_⟩
    rcases List.mem_cons.mp hy with rfl | hy
    · exact (maxF_le ns y).1
    · exact (maxF_le ns n).2 y hy
def oMin : List Dm → Option Dm := fun as => match as with
  | [(.lst ds, _)] => (intsOf ds).bind fun ns => (minL ns).map fun m => (.int m, .sh)
  | _ => none
def oMax : List Dm → Option Dm := fun as => match as with
  | [(.lst ds, _)] => (intsOf ds).bind fun ns => (maxL ns).map fun m => (.int m, .sh)
  | _ => none
theorem op_oMin : OpN K (rMin K) oMin := by
  intro B0 F B H g es vs as av res Q hl fr e q
  unfold oMin at e
  split at e
  · rename_i ds m
    cases hn : intsOf ds with
    | none => rw [hn] at e; cases e
    | some ns =>
      rw [hn] at e
      cases hm : minL ns with
      | none => rw [Option.bind_some, hm] at e; cases e
      | some k =>
        rw [Option.bind_some, hm] at e
        cases e
        obtain ⟨v, rfl, fr⟩ := arg1 hl fr
        obtain ⟨x, ex, r⟩ := fr.rd
        cases ex
        rw [intsOf_eq hn] at r
        simp only [Rp] at r
        obtain ⟨p, xs, e1, e2, e3⟩ := r
        subst e1
        rw [e3.ints] at e2
        obtain ⟨s1, s2⟩ := minL_spec hm
        refine ⟨p, ns, rfl, SqL.of e2, List.length_pos_of_mem s1, fun m' h1 h2 => ?_⟩
        have em : m' = k := Int.le_antisymm (h2 _ s1) (s2 _ h1)
        rw [em]
        exact q _ B H (Ex.refl _) (fr.popD.push0 (Rv.mksh rp_int))
  · cases e
theorem op_oMax : OpN K (rMax K) oMax := by
  intro B0 F B H g es vs as av res Q hl fr e q
  unfold oMax at e
  split at e
  · rename_i ds m
    cases hn : intsOf ds with
    | none => rw [hn] at e; cases e
    | some ns =>
      rw [hn] at e
      cases hm : maxL ns with
      | none => rw [Option.bind_some, hm] at e; cases e
      | some k =>
        rw [Option.bind_some, hm] at e
        cases e
        obtain ⟨v, rfl, fr⟩ := arg1 hl fr
        obtain ⟨x, ex, r⟩ := fr.rd
        cases ex
        rw [intsOf_eq hn] at r
        simp only [Rp] at r
        obtain ⟨p, xs, e1, e2, e3⟩ := r
        subst e1
        rw [e3.ints] at e2
        obtain ⟨s1, s2⟩ := maxL_spec hm
        refine ⟨p, ns, rfl, SqL.of e2, List.length_pos_of_mem s1, fun m' h1 h2 => ?_⟩
        have em : m' = k := Int.le_antisymm (s2 _ h1) (h2 _ s1)
        rw [em]
        exact q _ B H (Ex.refl _) (fr.popD.push0 (Rv.mksh rp_int))
  · cases e
def oAll : List Dm → Option Dm := fun as => match as with
  | [(.lst ds, _)] => (blsOf ds).map fun ns => (.bl (ns.all id), .sh)
  | _ => none
def oAny : List Dm → Option Dm := fun as => match as with
  | [(.lst ds, _)] => (blsOf ds).map fun ns => (.bl (ns.any id), .sh)
  | _ => none
theorem op_oAll : OpN K (rAll K) oAll := by
  intro B0 F B H g es vs as av res Q hl fr e q
  unfold oAll at e
  split at e
  · rename_i ds m
    cases hn : blsOf ds with
    | none => rw [hn] at e; cases e
    | some ns =>
      rw [hn] at e
      cases e
      obtain ⟨v, rfl, fr⟩ := arg1 hl fr
      obtain ⟨x, ex, r⟩ := fr.rd
      cases ex
      rw [blsOf_eq hn] at r
      simp only [Rp] at r
      obtain ⟨p, xs, e1, e2, e3⟩ := r
      subst e1
      rw [e3.bls] at e2
      exact ⟨p, ns, rfl, SqL.of e2, q _ B H (Ex.refl _) (fr.popD.push0 (Rv.mksh rp_bl))⟩
  · cases e
theorem op_oAny : OpN K (rAny K) oAny := by
  intro B0 F B H g es vs as av res Q hl fr e q
  unfold oAny at e
  split at e
  · rename_i ds m
    cases hn : blsOf ds with
    | none => rw [hn] at e; cases e
    | some ns =>
      rw [hn] at e
      cases e
      obtain ⟨v, rfl, fr⟩ := arg1 hl fr
      obtain ⟨x, ex, r⟩ := fr.rd
      cases ex
      rw [blsOf_eq hn] at r
      simp only [Rp] at r
      obtain ⟨p, xs, e1, e2, e3⟩ := r
      subst e1
      rw [e3.bls] at e2
      exact ⟨p, ns, rfl, SqL.of e2, q _ B H (Ex.refl _) (fr.popD.push0 (Rv.mksh rp_bl))⟩
  · cases e
def oAbs : List Dm → Option Dm := fun as => match as with
  | [(.int i, _)] => some (.int (if i < 0 then -i else i), .sh)
  | _ => none
theorem op_oAbs : OpN K (fun xs H Q => ∃ i, xs = [.int i] ∧ Q (.int (if i < 0 then -i else i)) H) oAbs := by
  intro B0 F B H g es vs as av res Q hl fr e q
  unfold oAbs at e
  split at e
  · rename_i i m
    cases e
    obtain ⟨v, rfl, fr⟩ := arg1 hl fr
    obtain ⟨x, ex, r⟩ := fr.rd
    cases ex
    simp only [Rp] at r
    subst r
    exact ⟨i, rfl, q _ B H (Ex.refl _) (fr.popD.push0 (Rv.mksh rp_int))⟩
  · cases e
def oInt : List Dm → Option Dm := fun as => match as with
  | [(.int i, _)] => some (.int i, .sh)
  | [(.bl k, _)] => some (.int (if k then 1 else 0), .sh)
  | _ => none
theorem op_oInt : OpN K (fun xs H Q => (∃ i, xs = [.int i] ∧ Q (.int i) H) ∨ ∃ k, xs = [.bl k] ∧ Q (.int (if k then 1 else 0)) H) oInt := by
  intro B0 F B H g es vs as av res Q hl fr e q
  unfold oInt at e
  split at e
  · rename_i i m
    cases e
    obtain ⟨v, rfl, fr⟩ := arg1 hl fr
    obtain ⟨x, ex, r⟩ := fr.rd
    cases ex
    simp only [Rp] at r
    subst r
    exact .inl ⟨i, rfl, q _ B H (Ex.refl _) (fr.popD.push0 (Rv.mksh rp_int))⟩
  · rename_i k m
    cases e
    obtain ⟨v, rfl, fr⟩ := arg1 hl fr
    obtain ⟨x, ex, r⟩ := fr.rd
    cases ex
    simp only [Rp] at r
    subst r
    exact .inr ⟨k, rfl, q _ B H (Ex.refl _) (fr.popD.push0 (Rv.mksh rp_int))⟩
  · cases e
def oMax2 : List Dm → Option Dm := fun as => match as with
  | [(.int i, _), (.int j, _)] => some (.int (if j > i then j else i), .sh)
  | _ => none
def oMin2 : List Dm → Option Dm := fun as => match as with
  | [(.int i, _), (.int j, _)] => some (.int (if j < i then j else i), .sh)
  | _ => none
theorem op_oMax2 : OpN K (fun xs H Q => ∃ i j, xs = [.int i, .int j] ∧ Q (.int (if j > i then j else i)) H) oMax2 := by
  intro B0 F B H g es vs as av res Q hl fr e q
  unfold oMax2 at e
  split at e
  · rename_i i m j m'
    cases e
    obtain ⟨v, w, rfl, fr⟩ := arg2 hl fr
    obtain ⟨x, ex, r⟩ := fr.rd
    cases ex
    have fr1 := fr.popD
    obtain ⟨y, ey, r2⟩ := fr1.rd
    cases ey
    simp only [Rp] at r r2
    subst r r2
    exact ⟨i, j, rfl, q _ B H (Ex.refl _) (fr1.popD.push0 (Rv.mksh rp_int))⟩
  · cases e
theorem op_oMin2 : OpN K (fun xs H Q => ∃ i j, xs = [.int i, .int j] ∧ Q (.int (if j < i then j else i)) H) oMin2 := by
  intro B0 F B H g es vs as av res Q hl fr e q
  unfold oMin2 at e
  split at e
  · rename_i i m j m'
    cases e
    obtain ⟨v, w, rfl, fr⟩ := arg2 hl fr
    obtain ⟨x, ex, r⟩ := fr.rd
    cases ex
    have fr1 := fr.popD
    obtain ⟨y, ey, r2⟩ := fr1.rd
    cases ey
    simp only [Rp] at r r2
    subst r r2
    exact ⟨i, j, rfl, q _ B H (Ex.refl _) (fr1.popD.push0 (Rv.mksh rp_int))⟩
  · cases e
/-- the type's name -/
def D.tyN : D → Option String
  | .non => some "NoneType"
  | .bl _ => some "bool"
  | .int _ => some "int"
  | .str _ => some "str"
  | .lst _ => some "list"
  | .tup _ => some "tuple"
  | .dT _ _ => some "dict"
  | .dK _ _ => some "dict"
  | _ => none
theorem tyN_ok {d : D} {v : V} {n : String} (e : d.tyN = some n) (h : Rp K H d v) : TyX K H v (.type n) := by
  cases d <;> simp only [D.tyN, Option.some.injEq, reduceCtorEq] at e <;> subst e <;> simp only [Rp] at h
  · subst h; exact .base .non
  · subst h; exact .base (.bl _)
  · subst h; exact .base (.int _)
  · subst h; exact .base (.str _)
  · obtain ⟨a, xs, e1, e2, _⟩ := h; subst e1; exact .base (.lst e2)
  · obtain ⟨a, xs, e1, e2, _⟩ := h; subst e1; exact .base (.tup e2)
  · obtain ⟨a, xs, e1, e2, _⟩ := h; subst e1; exact .base (.dT e2)
  · obtain ⟨a, xs, e1, e2, _⟩ := h; subst e1; exact .base (.dK e2)
def oIsi : List Dm → Option Dm := fun as => match as with
  | [(d, _), (.ty n, _)] => d.tyN.bind fun t => (kitB t n).map fun b => (.bl b, .sh)
  | _ => none
theorem op_oIsi : OpN K (rIsi K) oIsi := by
  intro B0 F B H g es vs as av res Q hl fr e q
  unfold oIsi at e
  split at e
  · rename_i d m n m'
    cases ht : d.tyN with
    | none => rw [ht] at e; cases e
    | some t =>
      rw [ht] at e
      cases hk : kitB t n with
      | none => rw [Option.bind_some, hk] at e; cases e
      | some b =>
        rw [Option.bind_some, hk] at e
        cases e
        obtain ⟨v, w, rfl, fr⟩ := arg2 hl fr
        obtain ⟨x, ex, r⟩ := fr.rd
        cases ex
        have fr1 := fr.popD
        obtain ⟨y, ey, r2⟩ := fr1.rd
        cases ey
        simp only [Rp] at r2
        subst r2
        exact ⟨v, .ty n, .type t, .type n, b, rfl, .ty n, tyN_ok ht r, kit_ty hk, q _ B H (Ex.refl _) (fr1.popD.push0 (Rv.mksh rp_bl))⟩
  · cases e
end
end Ve

set_option Elab.async false
set_option linter.all false
set_option maxRecDepth 100000
set_option maxHeartbeats 1000000
namespace Ve
open PySem PySem.Spec PyProof.Rows L2

section
variable {K : PySem.W.Frag} {T : Nat → Value} {W : WX} {X : Cx} {B0 F B H : Hp} {g : List Addr} {ss ts es : SS} {tv vs : List (Option V)} {σ : L2.St} {pos : Pos} {a b c e : Expr} {ma mb mc m : ME}
/-! ## displays -/
def mLst (em : Md) (ms : MA) : ME := bnd ms fun as => lft (if decide (as.length ≤ lim) && as.all (fun a => a.2.beq em) && em.nb then some (.lst (as.map (·.1)), .ow em) else none)
theorem je_lst {es : List Expr} {ms : MA} (em : Md) (h : JA T W X es ms) : JE T W X (.List es pos) (mLst em ms) :=
  pe_imp (pe_lst h) fun σ H Q ⟨B0, F, B, g, ss, ts, tv, r', ss', hl, fr, e, p⟩ => by
    rcases bnd_ok e with ⟨as, s1, e1, e2⟩ | ⟨x, e1, rfl⟩
    · obtain ⟨res, e5, rfl, rfl⟩ := lft_ok e2
      refine ⟨B0, F, B, g, ss, ts, tv, .ok as, ss', hl, fr, e1, fun vs B1 H1 hv x1 fr1 => ?_⟩
      split at e5
      · rename_i n
        cases e5
        simp only [Bool.and_eq_true, decide_eq_true_eq] at n
        refine ⟨by rw [hv]; exact Nat.le_trans n.1.1 lim_le, fun q hq => p _ B1 _ (x1.trans (Ex.new hq)) ?_⟩
        obtain ⟨f, r, fr2⟩ := Fr.popL hv fr1 n.1.2
        have fr3 := fr2.alloc (o := .lst vs) hq trivial
        refine Fr.push (f := q :: f) fr3 (Rv.ow_iff.mpr ⟨n.2, _, q, vs, f, rfl, rfl, upd_same, rfl, r.imp fun d v g _ => Rv.mono (Ex.refl _) (Ex.new hq) _ _ _ _⟩)
      · cases e5
    · exact ⟨B0, F, B, g, ss, ts, tv, .er x, ss', hl, fr, e1, p⟩
theorem nbs_of : ∀ {as : List Dm}, as.all (fun a => a.2.nb) = true → Md.nbs (as.map (·.2)) = true
  | [], _ => rfl
  | a :: as, h => by
    simp only [List.all_cons, Bool.and_eq_true] at h
    simp only [List.map_cons, Md.nbs, Bool.and_eq_true]
    exact ⟨h.1, nbs_of h.2⟩
def mTup (ms : MA) : ME := bnd ms fun as => lft (if decide (as.length ≤ lim) then (if as.all (fun a => isSh a.2) then some (.tup (as.map (·.1)), .sh) else if as.all (fun a => a.2.nb) then some (.tup (as.map (·.1)), .tp (as.map (·.2))) else none) else none)
theorem je_tup {es : List Expr} {k} {ms : MA} (h : JA T W X es ms) : JE T W X (.Tuple es k pos) (mTup ms) :=
  pe_imp (pe_tup h) fun σ H Q ⟨B0, F, B, g, ss, ts, tv, r', ss', hl, fr, e, p⟩ => by
    rcases bnd_ok e with ⟨as, s1, e1, e2⟩ | ⟨x, e1, rfl⟩
    · obtain ⟨res, e5, rfl, rfl⟩ := lft_ok e2
      refine ⟨B0, F, B, g, ss, ts, tv, .ok as, ss', hl, fr, e1, fun vs B1 H1 hv x1 fr1 => ?_⟩
      split at e5
      · rename_i n0
        have n0 := of_decide_eq_true n0
        refine ⟨by rw [hv]; exact Nat.le_trans n0 lim_le, fun q hq => ?_⟩
        split at e5
        · rename_i n
          cases e5
          obtain ⟨r, fr2⟩ := Fr.popSh hv fr1 n
          exact p _ _ _ (x1.trans (Ex.new hq)) (fr2.newT r hq)
        · split at e5
          · rename_i n
            cases e5
            obtain ⟨f, r, fr2⟩ := Fr.popM hv fr1
            have fr3 := fr2.allocS (o := .tup vs) hq
            have ex := Ex.new (o := .tup vs) (fr2.not_none hq).1
            refine p _ _ _ (x1.trans (Ex.new hq)) (Fr.push (f := f) fr3 ?_)
            simp only [Rv]
            refine ⟨?_, _, q, vs, rfl, rfl, upd_same, Rvs.mono ex (Ex.new hq) _ _ _ _ r⟩
            exact nbs_of n
          · cases e5
      · cases e5
    · exact ⟨B0, F, B, g, ss, ts, tv, .er x, ss', hl, fr, e1, p⟩

/-! ## slices -/
abbrev MO := SS → Option (Rr (Option Int) × SS)
def tO (K : PySem.W.Frag) (T : Nat → Value) (W : WX) (m : MO) : TO := fun σ H Q => ∃ (B0 F B : Hp) (g : List Addr) (ss ts : SS) (tv : List (Option V)) (r : Rr (Option Int)) (ss' : SS),
  ts.length = tv.length ∧ Fr K B0 F B H g (ts ++ ss) (tv ++ σ) ∧ m ss = some (r, ss') ∧ (match r with
    | .ok o => ∀ B' H', Ex H H' → Fr K B0 F B' H' g (ts ++ ss') (tv ++ σ) → Q o H'
    | .er x => PErr K T B0 F g σ ss' ts tv W x)
abbrev JO (T : Nat → Value) (W : WX) (X : Cx) (o : Option Expr) (m : MO) : Prop := PO X o (tO X.K T W m)
def mONo : MO := ret none
def mOSome (m : ME) : MO := bnd m fun a => lft (match a.1 with | .int i => some (some i) | _ => none)
theorem jo_no : JO T W X none mONo := ⟨fun pins s σ H Q I h => po_none.run pins s σ H Q I (by
  obtain ⟨B0, F, B, g, ss, ts, tv, r', ss', hl, fr, e, p⟩ := h
  cases e
  exact p B H (Ex.refl _) fr)⟩
theorem jo_some (h : JE T W X e m) : JO T W X (some e) (mOSome m) := ⟨fun pins s σ H Q I h' => (po_some h).run pins s σ H Q I (by
  obtain ⟨B0, F, B, g, ss, ts, tv, r', ss', hl, fr, e, p⟩ := h'
  rcases bnd_ok e with ⟨da, s1, e1, e2⟩ | ⟨x, e1, rfl⟩
  · obtain ⟨res, e5, rfl, rfl⟩ := lft_ok e2
    refine ⟨B0, F, B, g, ss, ts, tv, .ok da, ss', hl, fr, e1, fun va B1 H1 x1 fr1 => ?_⟩
    obtain ⟨d, md⟩ := da
    obtain ⟨x, ex, r⟩ := fr1.rd
    cases ex
    split at e5
    · rename_i i hd
      cases e5
      replace hd : d = .int i := hd
      subst hd
      simp only [Rp] at r
      exact ⟨i, r, p B1 H1 x1 fr1.popD⟩
    · cases e5
  · exact ⟨B0, F, B, g, ss, ts, tv, .er x, ss', hl, fr, e1, p⟩)⟩
def cutD (ds : List D) (lo hi : Option Int) : List D := (ds.drop (HT.sIx ds.length 0 lo)).take (HT.sIx ds.length ds.length hi - HT.sIx ds.length 0 lo)
def oSl (a : Dm) (lo hi : Option Int) : Option Dm := match a.1 with
  | .lst ds => if elSh a.2 ds then some (.lst (cutD ds lo hi), .ow .sh) else none
  | _ => none
def mSl (ma : ME) (ml mh : MO) : ME := bnd ma fun a => bnd ml fun l => bnd mh fun h => lft (oSl a l h)
theorem je_sl {lo hi : Option Expr} {ml mh : MO} {p2 : Pos} (ha : JE T W X a ma) (hl : JO T W X lo ml) (hh : JO T W X hi mh) : JE T W X (.Subscript a (.Slice lo hi none p2) pos) (mSl ma ml mh) :=
  pe_imp (pe_slice sl_list ha hl hh) fun σ H Q ⟨B0, F, B, g, ss, ts, tv, r', ss', hl, fr, e, p⟩ => by
    rcases bnd_ok e with ⟨da, s1, e1, e2⟩ | ⟨x, e1, rfl⟩
    · refine ⟨B0, F, B, g, ss, ts, tv, .ok da, s1, hl, fr, e1, fun va B1 H1 x1 fr1 => ?_⟩
      rcases bnd_ok e2 with ⟨l, s2, e3, e4⟩ | ⟨x, e3, rfl⟩
      · refine ⟨B0, F, B1, g, s1, some da :: ts, some va :: tv, .ok l, s2, by simp [hl], fr1, e3, fun B2 H2 x2 fr2 => ?_⟩
        rcases bnd_ok e4 with ⟨h, s3, e5, e6⟩ | ⟨x, e5, rfl⟩
        · refine ⟨B0, F, B2, g, s2, some da :: ts, some va :: tv, .ok h, s3, by simp [hl], fr2, e5, fun B3 H3 x3 fr3 => ?_⟩
          obtain ⟨res, e7, rfl, rfl⟩ := lft_ok e6
          obtain ⟨d, md⟩ := da
          unfold oSl at e7
          split at e7
          · rename_i ds hd
            dsimp only at hd
            subst hd
            split at e7
            · rename_i n
              cases e7
              obtain ⟨B', q, xs, x, e8, e9, r, fr4⟩ := Fr.elems fr3 n
              subst e8
              refine ⟨q, xs, rfl, SqL.of e9, fun z hz => p (.ref z) B' _ (x1.trans (x2.trans (x3.trans (Ex.new hz)))) ?_⟩
              have r2 : Rps X.K B' (cutD ds l h) (cutV xs l h) := by
                unfold cutD cutV
                rw [r.len]
                exact (r.drop _).take _
              exact fr4.newL r2 hz
            · cases e7
          · cases e7
        · exact ⟨B0, F, B2, g, s2, some da :: ts, some va :: tv, .er x, ss', by simp [hl], fr2, e5, PErr.drop p⟩
      · exact ⟨B0, F, B1, g, s1, some da :: ts, some va :: tv, .er x, ss', by simp [hl], fr1, e3, PErr.drop p⟩
    · exact ⟨B0, F, B, g, ss, ts, tv, .er x, ss', hl, fr, e1, p⟩

/-! ## chains of ints -/
def intOf : D → Option Int
  | .int i => some i
  | _ => none
def mChain (p q : Int → Int → Bool) (ma mb mc : ME) : MT := bnd ma fun a => bnd mb fun b => (intOf a.1).elim (lft none) fun i => (intOf b.1).elim (lft none) fun j =>
  if p i j then bnd mc fun c => lft ((intOf c.1).map fun k => q j k) else ret false
theorem intOf_eq {d : D} {i : Int} (h : intOf d = some i) : d = .int i := by cases d <;> cases h; rfl
theorem t_chain {K : PySem.W.Frag} {p q : Int → Int → Bool} (σ : L2.St) (H : Hp) (Q : Bool → Hp → Prop) (h : tT K T W (mChain p q ma mb mc) σ H Q) :
    tTest (tChain (rI0 fun i j => .bl (p i j)) (rI0 fun i j => .bl (q i j)) (tE K T W ma) (tE K T W mb) (tE K T W mc)) σ H Q := by
  obtain ⟨B0, F, B, g, ss, ts, tv, r', ss', hl, fr, e, pp⟩ := h
  rcases bnd_ok e with ⟨da, s1, e1, e2⟩ | ⟨x, e1, rfl⟩
  · refine ⟨B0, F, B, g, ss, ts, tv, .ok da, s1, hl, fr, e1, fun va B1 H1 x1 fr1 => ?_⟩
    rcases bnd_ok e2 with ⟨db, s2, e3, e4⟩ | ⟨x, e3, rfl⟩
    · refine ⟨B0, F, B1, g, s1, some da :: ts, some va :: tv, .ok db, s2, by simp [hl], fr1, e3, fun vb B2 H2 x2 fr2 => ?_⟩
      obtain ⟨vb', eb, rb⟩ := Fr.rd (d := db.1) (m := db.2) fr2
      cases eb
      have fr3 := fr2.popD
      obtain ⟨va', ea, ra⟩ := Fr.rd (d := da.1) (m := da.2) fr3
      cases ea
      cases hi : intOf da.1 with
      | none => rw [hi] at e4; cases e4
      | some i =>
        cases hj : intOf db.1 with
        | none => rw [hi, hj] at e4; cases e4
        | some j =>
          rw [hi, hj] at e4
          rw [intOf_eq hi] at ra
          rw [intOf_eq hj] at rb
          simp only [Rp] at ra rb
          refine ⟨i, j, ra, rb, p i j, rfl, ?_⟩
          replace e4 : (if p i j = true then bnd mc (fun c => lft ((intOf c.1).map fun k => q j k)) else ret false) s2 = some (r', ss') := e4
          cases hp : p i j with
          | true =>
            rw [if_pos hp] at e4
            refine iteT ?_
            rcases bnd_ok e4 with ⟨dc, s3, e5, e6⟩ | ⟨x, e5, rfl⟩
            · obtain ⟨res, e7, rfl, rfl⟩ := lft_ok e6
              refine ⟨B0, F, B2, g, s2, some da :: ts, some va :: tv, .ok dc, ss', by simp [hl], fr3, e5, fun vc B4 H4 x4 fr4 => ?_⟩
              obtain ⟨vc', ec, rc⟩ := Fr.rd (d := dc.1) (m := dc.2) fr4
              cases ec
              cases hk : intOf dc.1 with
              | none => rw [hk] at e7; cases e7
              | some k =>
                rw [hk] at e7
                cases e7
                rw [intOf_eq hk] at rc
                simp only [Rp] at rc
                exact ⟨j, k, rb, rc, q j k, rfl, pp B4 H4 (x1.trans (x2.trans x4)) fr4.popD.popD⟩
            · exact ⟨B0, F, B2, g, s2, some da :: ts, some va :: tv, .er x, ss', by simp [hl], fr3, e5, PErr.drop pp⟩
          | false =>
            rw [if_neg (by rw [hp]; exact Bool.false_ne_true)] at e4
            cases e4
            exact iteF ⟨false, rfl, pp B2 H2 (x1.trans x2) fr3.popD⟩
    · exact ⟨B0, F, B1, g, s1, some da :: ts, some va :: tv, .er x, ss', by simp [hl], fr1, e3, PErr.drop pp⟩
  · exact ⟨B0, F, B, g, ss, ts, tv, .er x, ss', hl, fr, e1, pp⟩
theorem jt_chain {op op' : CmpOp} {p q : Int → Int → Bool} (ho : OpR X (compareOp op) (rI0 fun i j => .bl (p i j))) (ho' : OpR X (compareOp op') (rI0 fun i j => .bl (q i j))) (ha : JE T W X a ma) (hb : JE T W X b mb) (hc : JE T W X c mc)
    (hm : lastMarks [op, op'] [b, c] = false := by with_unfolding_all rfl) : JT T W X (.Compare a [op, op'] [b, c] pos) (mChain p q ma mb mc) :=
  pt_imp (pt_chain ho ho' ha hb hc hm) t_chain

/-! ## calls of defs -/
/-- what a def promises: f tells what it hands back, or raises -/
def PostF (K : PySem.W.Frag) (T : Nat → Value) (B0 H : Hp) (Q : VK) (E : L2.XK) : Rr Dm → Prop
  | .ok dm => dm.2.nb = true → ∀ v B H', Fr K B0 H B H' [] [some dm] [some v] → Q v H'
  | .er x => ∀ cls dd (xv : List V) B H', xv.length = x.es.length → Fr K B0 H B H' [] (x.es.map some) (xv.map some) → XR T x cls dd xv B → E cls dd H'
def SpF (K : PySem.W.Frag) (T : Nat → Value) (n : Nat) (f : MF) : Sp := fun vs H Q E => ∃ (B0 : Hp) (ds : List D) (r : Rr Dm), Ex B0 H ∧ Rps K B0 ds vs ∧ ds.length = n ∧ f ds = some r ∧ PostF K T B0 H Q E r
theorem SpF.len {K : PySem.W.Frag} {T : Nat → Value} {n : Nat} {f : MF} {vs : List V} {H : Hp} {Q : VK} {E : L2.XK} (h : SpF K T n f vs H Q E) : vs.length = n := by
  obtain ⟨B0, ds, r, _, h2, h3, _⟩ := h
  rw [h2.len, h3]
/-- how a caller holds what it was handed -/
def backO (as : List Dm) (dm : Dm) : Option (Rr Dm) := if dm.2.nb then (if as.all (fun a => isSh a.2) then some (.ok dm) else if dm.2.okB dm.1 then some (.ok dm) else some (.ok (dm.1, .bw))) else none
def backE (as : List Dm) (x : Exn) : Option (Rr Dm) := if as.all (fun a => isSh a.2) then some (.er x) else if x.es.isEmpty && x.ks.isEmpty then some (.er x) else none
def back (as : List Dm) (r : Rr Dm) : Option (Rr Dm) := match r with
  | .ok dm => backO as dm
  | .er x => backE as x
def mCall (n : Nat) (f : MF) (ms : MA) : ME := bnd ms fun as ss => if as.length = n then (match f (as.map (·.1)) with
  | some r => (back as r).map fun r => (r, ss)
  | none => none) else none
theorem t_call {K : PySem.W.Frag} {n : Nat} {f : MF} {ms : MA} (σ : L2.St) (H : Hp) (Q : VK) (h : tE K T W (mCall n f ms) σ H Q) : tCallS (SpF K T n f) (WE W) (tA K T W ms) σ H Q := by
  obtain ⟨B0, F, B, g, ss, ts, tv, r', ss', hl, fr, e, p⟩ := h
  rcases bnd_ok e with ⟨as, s1, e1, e2⟩ | ⟨x, e1, rfl⟩
  · refine ⟨B0, F, B, g, ss, ts, tv, .ok as, s1, hl, fr, e1, fun vs B1 H1 hv x1 fr1 => ?_⟩
    split at e2
    · rename_i hn
      split at e2
      · rename_i r hf
        cases hb : back as r with
        | none => rw [hb] at e2; cases e2
        | some r2 =>
          rw [hb] at e2
          cases e2
          have rdn := Fr.rdN hv fr1
          cases r with
          | ok dm =>
            replace hb : backO as dm = some r' := hb
            unfold backO at hb
            split at hb
            · rename_i hnb
              split at hb
              · rename_i hs
                cases hb
                obtain ⟨rs, fr2⟩ := Fr.popSh hv fr1 hs
                refine ⟨B1, as.map (·.1), .ok dm, fr1.ex, rs, by simp [hn], hf, fun _ v Bc H' c => ?_⟩
                exact p v Bc H' (x1.trans c.fx) (fr2.call (rs := [some dm]) (rv := [some v]) c rfl)
              · have fr2 := Fr.dropN hv fr1
                split at hb
                · rename_i hok
                  cases hb
                  refine ⟨H1, as.map (·.1), .ok dm, Ex.refl _, rdn, by simp [hn], hf, fun _ v Bc H' c => ?_⟩
                  obtain ⟨B', fr3⟩ := Fr.callB (d := dm.1) (m := dm.2) fr2 c hok
                  exact p v B' H' (x1.trans c.fx) fr3
                · cases hb
                  refine ⟨H1, as.map (·.1), .ok dm, Ex.refl _, rdn, by simp [hn], hf, fun _ v Bc H' c => ?_⟩
                  exact p v B1 H' (x1.trans c.fx) (Fr.callR (d := dm.1) (m := dm.2) fr2 c)
            · cases hb
          | er x =>
            replace hb : backE as x = some r' := hb
            unfold backE at hb
            split at hb
            · rename_i hs
              cases hb
              obtain ⟨rs, fr2⟩ := Fr.popSh hv fr1 hs
              refine ⟨B1, as.map (·.1), .er x, fr1.ex, rs, by simp [hn], hf, fun cls dd xv Bc H' hx c xr => ?_⟩
              exact p cls dd xv Bc H' hx (fr2.call c (by simp [hx])) xr
            · split at hb
              · rename_i hs he
                cases hb
                have fr2 := Fr.dropN hv fr1
                simp only [Bool.and_eq_true, List.isEmpty_iff] at he
                refine ⟨H1, as.map (·.1), .er x, Ex.refl _, rdn, by simp [hn], hf, fun cls dd xv Bc H' hx c xr => ?_⟩
                rw [he.1] at hx
                have hxv : xv = [] := List.eq_nil_of_length_eq_zero hx
                subst hxv
                refine p cls dd [] B1 H' (by rw [he.1]; rfl) ?_ ⟨xr.1, xr.2.1, (fun z => absurd he.2 z), xr.2.2.2⟩
                rw [he.1]
                exact fr2.grow c.fx
              · cases hb
      · cases e2
    · cases e2
  · exact ⟨B0, F, B, g, ss, ts, tv, .er x, ss', hl, fr, e1, p⟩
theorem je_call {k n : Nat} {f : Addr} {fd : FuncData} {ps : List Str} {x : Str} {p : Pos} {es : List Expr} {fm : MF} {ms : MA} (G : FnOk X.prog X.w X.K X.mg X.base (L2N.CX X.prog X.w) k f fd ps (SpF X.K T n fm)) (hr : Room k X.A) (tk : L2N.Takes X W) (hg : Gl X x) (hm : X.mg x = some (.ref f)) (hk : PySem.W.keepIn X.K (.ref f) = true) (hb : Binds X.K fd ps [])
    (ha : JA T W X (e :: es) ms) (hdb : (x == ("__debug__" : Str)) = false := by decide) (he : starEach (e :: es) X.env = (false, eval e X.env) :: starEach es X.env := by rfl) (hpl : (backTo pos (starEach es X.env)).any (·.1) = false := by rfl) :
    JE T W X (.Call (.Name x p) (e :: es) [] pos) (mCall n fm ms) :=
  pe_imp (pe_callS G hr hg hm hk hb (fun σ => L2N.passAt tk σ) ha hdb he hpl) t_call

/-! ## statements -/
/-- what may be kept -/
def keepD (dm : Dm) : Option Dm := if dm.2.nb then some dm else if dm.1.atm then some (dm.1, .sh) else none
theorem keepD_nb {a b : Dm} (h : keepD a = some b) : b.2.nb = true := by
  unfold keepD at h
  split at h
  · cases h; assumption
  · split at h
    · cases h; rfl
    · cases h
theorem Fr.keepD {a b : Dm} {v : V} (h : Fr K B0 F B H g (some a :: es) (some v :: vs)) (e : keepD a = some b) : ∃ B', Fr K B0 F B' H g (some b :: es) (some v :: vs) := by
  unfold Ve.keepD at e
  split at e
  · cases e; exact ⟨B, h⟩
  · split at e
    · rename_i n
      cases e
      exact ⟨_, Fr.at (d := a.1) (m := a.2) h n⟩
    · cases e
def sE (m : ME) (k : Dm → SS → Option SO) : MS := fun ss => match m ss with
  | some (.ok a, s1) => k a s1
  | some (.er x, s1) => some (.er x s1)
  | none => none
theorem sE_ok {m : ME} {k : Dm → SS → Option SO} {ss : SS} {o : SO} (h : sE m k ss = some o) : (∃ a s1, m ss = some (.ok a, s1) ∧ k a s1 = some o) ∨ ∃ x s1, m ss = some (.er x, s1) ∧ o = .er x s1 := by
  unfold sE at h
  split at h
  · exact .inl ⟨_, _, by assumption, h⟩
  · rename_i x s1 e
    cases h
    exact .inr ⟨x, s1, e, rfl⟩
  · cases h
def putM (i : Nat) (a : Dm) (ss : SS) : Option SO := if i < ss.length then (keepD a).map fun b => .nx (ss.set i (some b)) else none
/-- name = value -/
def mSet (i : Nat) (m : ME) : MS := sE m (putM i)
theorem Fr.put {i : Nat} {dm : Dm} {v : V} (hl : ts.length = tv.length) (h : Fr K B0 F B H g (some dm :: (ts ++ ss)) (some v :: (tv ++ σ))) (hi : i < ss.length) : Fr K B0 F B H g (ts ++ ss.set i (some dm)) (tv ++ σ.set i (some v)) := by
  obtain ⟨x, f, e, r, h'⟩ := h.pop1
  cases e
  exact Fr.putS (d := dm.1) (m := dm.2) hl h' hi r
theorem t_set {K : PySem.W.Frag} {i : Nat} {m : ME} {t : TE} (ht : ∀ σ H Q, tE K T W m σ H Q → t σ H Q) (D : Ends) (σ : L2.St) (H : Hp) (h : tS K T W (mSet i m) D σ H) : tAsg t (gName i) D σ H := by
  obtain ⟨B0, F, B, g, ss, ts, tv, o, hl, nb, nbs', fr, e, p⟩ := h
  refine ht _ _ _ ?_
  rcases sE_ok e with ⟨a, s1, e1, e2⟩ | ⟨x, s1, e1, rfl⟩
  · refine ⟨B0, F, B, g, ss, ts, tv, .ok a, s1, hl, fr, e1, fun v B1 H1 x1 fr1 => ?_⟩
    unfold putM at e2
    split at e2
    · rename_i hi
      cases hk : keepD a with
      | none => rw [hk] at e2; cases e2
      | some b =>
        rw [hk] at e2
        cases e2
        obtain ⟨B2, fr2⟩ := fr1.keepD hk
        exact p _ B2 H1 (Fr.put hl fr2 hi)
    · cases e2
  · exact ⟨B0, F, B, g, ss, ts, tv, .er x, s1, hl, fr, e1, p σ⟩
theorem js_set {i : Nat} {x : Str} {pos' : Pos} (hN : X.N.Nodup) (hi : X.N[i]? = some x) (hx : Loc X.env.scope x) (he : JE T W X e m) (hs : swapsWith e (some (.Name x pos')) pos.line X.env = pure false := by rfl) (hf : X.fn x = true ∨ X.env.scope.names.lookup x = some .local := by first | exact .inl rfl | exact .inr rfl | assumption) :
    JS T W X (.Assign [.Name x pos'] e pos) (mSet i m) := ps_imp (ps_set hN hi hx he hs hf) (t_set fun _ _ _ h => h)
/-- return -/
def mRet (m : ME) : MS := sE m fun a ss => (keepD a).map fun b => .rt b ss
theorem js_ret (he : JE T W X e m) : JS T W X (.Return (some e) pos) (mRet m) :=
  ps_imp (ps_ret he) fun D σ H ⟨B0, F, B, g, ss, ts, tv, o, hl, nb, nbs', fr, e, p⟩ => by
    rcases sE_ok e with ⟨a, s1, e1, e2⟩ | ⟨x, s1, e1, rfl⟩
    · refine ⟨B0, F, B, g, ss, ts, tv, .ok a, s1, hl, fr, e1, fun v B1 H1 x1 fr1 => ?_⟩
      cases hk : keepD a with
      | none => rw [hk] at e2; cases e2
      | some b =>
        rw [hk] at e2
        cases e2
        obtain ⟨B2, fr2⟩ := fr1.keepD hk
        exact p v σ B2 H1 fr2
    · exact ⟨B0, F, B, g, ss, ts, tv, .er x, s1, hl, fr, e1, p σ⟩
/-- a value dropped -/
def mDrop (m : ME) : MS := sE m fun _ ss => some (.nx ss)
theorem js_expr (he : JE T W X e m) (hs : swapsWith e none pos.line X.env = pure false := by rfl) : JS T W X (.Expr e pos) (mDrop m) :=
  ps_imp (ps_expr he hs) fun D σ H ⟨B0, F, B, g, ss, ts, tv, o, hl, nb, nbs', fr, e, p⟩ => by
    rcases sE_ok e with ⟨a, s1, e1, e2⟩ | ⟨x, s1, e1, rfl⟩
    · cases e2
      exact ⟨B0, F, B, g, ss, ts, tv, .ok a, s1, hl, fr, e1, fun v B1 H1 x1 fr1 => p σ B1 H1 fr1.popD⟩
    · exact ⟨B0, F, B, g, ss, ts, tv, .er x, s1, hl, fr, e1, p σ⟩
/-- nothing that is borrowed in the slots -/
def nbB (ss : SS) : Bool := ss.all Ent.nb
theorem nbB_ok {ss : SS} (h : nbB ss = true) : nbs ss := fun e he => by
  unfold nbB at h
  rw [List.all_eq_true] at h
  exact h e he
def mNext : MS := fun ss => some (.nx ss)
def mSeq (m n : MS) : MS := fun ss => match m ss with
  | some (.nx s1) => if nbB s1 then n s1 else none
  | r => r
theorem jb_nil : JB T W X [] mNext := pss_imp pss_nil fun D σ H ⟨B0, F, B, g, ss, ts, tv, o, hl, nb, nbs', fr, e, p⟩ => by
  cases e
  exact p σ B H fr
variable {st : Stmt} {rest : List Stmt} {s1 s2 : MS}
theorem jb_cons (h1 : JS T W X st s1) (h2 : JB T W X rest s2) : JB T W X (st :: rest) (mSeq s1 s2) := pss_imp (pss_cons h1 h2) fun D σ H ⟨B0, F, B, g, ss, ts, tv, o, hl, nb, nbs', fr, e, p⟩ => by
  unfold mSeq at e
  split at e
  · rename_i s3 e1
    split at e
    · rename_i n
      exact ⟨B0, F, B, g, ss, ts, tv, .nx s3, hl, nb, nbs', fr, e1, fun σ' B1 H1 fr1 => ⟨B0, F, B1, g, s3, ts, tv, o, hl, nb, nbB_ok n, fr1, e, p⟩⟩
    · cases e
  · rename_i hne
    refine ⟨B0, F, B, g, ss, ts, tv, o, hl, nb, nbs', fr, e, ?_⟩
    cases o with
    | nx s3 => exact absurd e (hne s3)
    | rt v s3 => exact p
    | bk s3 => exact p
    | ct s3 => exact p
    | er x s3 => exact p
theorem jb_one (h1 : JS T W X st s1) : JB T W X [st] s1 := pss_one h1
/-- if -/
def sT (t : MT) (k : Bool → MS) : MS := fun ss => match t ss with
  | some (.ok b, s1) => if nbB s1 then k b s1 else none
  | some (.er x, s1) => some (.er x s1)
  | none => none
theorem sT_ok {t : MT} {k : Bool → MS} {ss : SS} {o : SO} (h : sT t k ss = some o) : (∃ b s1, t ss = some (.ok b, s1) ∧ nbs s1 ∧ k b s1 = some o) ∨ ∃ x s1, t ss = some (.er x, s1) ∧ o = .er x s1 := by
  unfold sT at h
  split at h
  · split at h
    · exact .inl ⟨_, _, by assumption, nbB_ok (by assumption), h⟩
    · cases h
  · rename_i x s1 e
    cases h
    exact .inr ⟨x, s1, e, rfl⟩
  · cases h
def mIf (t : MT) (m n : MS) : MS := sT t fun b => if b then m else n
theorem js_if {t : MT} {xs ys : List Stmt} (hc : JT T W X c t) (ha : JB T W X xs s1) (hb : JB T W X ys s2) : JS T W X (.If c xs ys pos) (mIf t s1 s2) :=
  ps_imp (ps_if hc ha hb) fun D σ H ⟨B0, F, B, g, ss, ts, tv, o, hl, nb, nbs', fr, e, p⟩ => by
    rcases sT_ok e with ⟨b, s3, e1, n, e2⟩ | ⟨x, s3, e1, rfl⟩
    · refine ⟨B0, F, B, g, ss, ts, tv, .ok b, s3, hl, fr, e1, fun B1 H1 x1 fr1 => ?_⟩
      cases b with
      | true => exact iteT ⟨B0, F, B1, g, s3, ts, tv, o, hl, nb, n, fr1, e2, p⟩
      | false => exact iteF ⟨B0, F, B1, g, s3, ts, tv, o, hl, nb, n, fr1, e2, p⟩
    · exact ⟨B0, F, B, g, ss, ts, tv, .er x, s3, hl, fr, e1, p σ⟩
def mPass : MS := mNext
theorem js_pass : JS T W X (.Pass pos) mPass := ps_imp ps_pass fun D σ H ⟨B0, F, B, g, ss, ts, tv, o, hl, nb, nbs', fr, e, p⟩ => by
  cases e
  exact p σ B H fr
/-- raise C('..'), a class without fields -/
def mRaise (c : Nat) : MS := fun ss => some (.er ⟨c, [], []⟩ ss)
theorem js_raise {c : Nat} {C : Addr} (hT : T c = .ref C) (hc : X.calm = true) (tk : L2N.Takes X W) (he : L2N.PMk X e (fun _ H Q => Q (.ref C) none H)) : JS T W X (.Raise (some e) none pos) (mRaise c) :=
  ps_imp (L2N.ps_raise hc tk he) fun D σ H ⟨B0, F, B, g, ss, ts, tv, o, hl, nb, nbs', fr, e, p⟩ => by
    cases e
    exact p σ (.ref C) none [] B H rfl fr ⟨hT.symm, (fun _ => rfl), (fun z => absurd rfl z), by rw [show T (Exn.mk c [] []).c = .ref C from hT]; exact fun z => nomatch z⟩
/-! ## stores -/
theorem Fr.nd (h : Fr K B0 F B H g es vs) : g.Nodup := by
  obtain ⟨f, s, n, k⟩ := h.it
  exact (List.nodup_append.mp n).1
theorem nbs_app {l1 l2 : SS} (h1 : nbs l1) (h2 : nbs l2) : nbs (l1 ++ l2) := fun e he => (List.mem_append.mp he).elim (h1 e) (h2 e)
theorem nbs_set {l : SS} {i : Nat} {e : Ent} (h : nbs l) (he : Ent.nb e = true) : nbs (l.set i e) := fun x hx => by
  rcases List.mem_or_eq_of_mem_set hx with h1 | h1
  · exact h x h1
  · rw [h1]; exact he
/-- the list at slot i is written -/
theorem Fr.listUpd {i : Nat} {q : Addr} {ys : List V} {gg : List Addr} {ds : List D} {em : Md} (hl : ts.length = tv.length) (fr : Fr K B0 F B H ((q :: gg) ++ g) (ts ++ ss.set i none) (tv ++ σ)) (nb : nbs ts) (ns : nbs ss) (hi : i < ss.length) (hv : σ[i]? = some (some (.ref q)))
    (n : em.nb = true) (r : All3 (Rv K B (upd H q (.lst ys)) em) ds ys gg) : Fr K B0 F B (upd H q (.lst ys)) g (ts ++ ss.set i (some (.lst ds, .ow em))) (tv ++ σ) := by
  have fr2 := fr.write (p := q) (o := .lst ys) (List.mem_append_left _ List.mem_cons_self) (nbs_app nb (nbs_set ns rfl)) trivial
  have fr3 := Fr.putS (f := q :: gg) (i := i) hl fr2 (by simpa using hi) (Rv.ow_iff.mpr ⟨n, ds, q, ys, gg, rfl, rfl, upd_same, rfl, r⟩)
  rw [List.set_set, set_same hv] at fr3
  exact fr3
/-! what keeps the names' values -/
def PostK (K : PySem.W.Frag) (T : Nat → Value) (B0 F : Hp) (g : List Addr) (σ : L2.St) (ts : SS) (tv : List (Option V)) (W : WX) (D : Ends) : SO → Prop
  | .nx ss => ∀ B' H', Fr K B0 F B' H' g (ts ++ ss) (tv ++ σ) → D.nx σ H'
  | .er x ss => PErr K T B0 F g σ ss ts tv W x
  | _ => True
def tK (K : PySem.W.Frag) (T : Nat → Value) (W : WX) (m : MS) : TS := fun D σ H => ∃ (B0 F B : Hp) (g : List Addr) (ss ts : SS) (tv : List (Option V)) (o : SO),
  ts.length = tv.length ∧ nbs ts ∧ nbs ss ∧ Fr K B0 F B H g (ts ++ ss) (tv ++ σ) ∧ m ss = some o ∧ PostK K T B0 F g σ ts tv W D o
theorem js_of {st : Stmt} {m : MS} (h : PS X st (tK X.K T W m)) : JS T W X st m := ps_imp h fun D σ H ⟨B0, F, B, g, ss, ts, tv, o, hl, nb, nbs', fr, e, p⟩ => by
  refine ⟨B0, F, B, g, ss, ts, tv, o, hl, nb, nbs', fr, e, ?_⟩
  cases o with
  | nx s => exact p σ
  | er x s => exact p σ
  | _ => trivial
/-- slot i's thing stands at a known address, and stays there -/
def mAh (i : Nat) (m : MS) : MS := fun ss => match ss[i]? with
  | some (some (d, .ah a md)) => (match m (ss.set i (some (d, md))) with
    | some (.nx s1) => (match s1[i]? with
      | some (some (d', md')) => if md'.nb then some (.nx (s1.set i (some (d', .ah a md')))) else none
      | _ => none)
    | _ => none)
  | _ => none
theorem Fr.unAh {K : PySem.W.Frag} {B0 F B H : Hp} {g : List Addr} {ss ts : SS} {tv : List (Option V)} {σ : L2.St} {i : Nat} {d : D} {a : Addr} {md : Md} (hl : ts.length = tv.length) (fr : Fr K B0 F B H g (ts ++ ss) (tv ++ σ)) (hs : ss[i]? = some (some (d, .ah a md))) :
    md.nb = true ∧ σ[i]? = some (some (.ref a)) ∧ Fr K B0 F B H g (ts ++ ss.set i (some (d, md))) (tv ++ σ) := by
  obtain ⟨v, f, hv, rv, fr2⟩ := fr.takeS hl hs
  have rv2 := rv
  simp only [Rv] at rv2
  obtain ⟨n, rfl, rv3⟩ := rv2
  have hi := (List.getElem?_eq_some_iff.mp hs).1
  have fr3 := Fr.putS (f := f) (i := i) hl fr2 (by simpa using hi) rv3
  rw [List.set_set, set_same hv] at fr3
  exact ⟨n, hv, fr3⟩
theorem Fr.reAh {K : PySem.W.Frag} {B0 F B H : Hp} {g : List Addr} {ss ts : SS} {tv : List (Option V)} {σ : L2.St} {i : Nat} {d : D} {a : Addr} {md : Md} (hl : ts.length = tv.length) (fr : Fr K B0 F B H g (ts ++ ss) (tv ++ σ)) (hs : ss[i]? = some (some (d, md))) (n : md.nb = true) (ha : σ[i]? = some (some (.ref a))) :
    Fr K B0 F B H g (ts ++ ss.set i (some (d, .ah a md))) (tv ++ σ) := by
  obtain ⟨v, f, hv, rv, fr2⟩ := fr.takeS hl hs
  rw [ha] at hv
  cases hv
  have hi := (List.getElem?_eq_some_iff.mp hs).1
  have fr3 := Fr.putS (f := f) (i := i) (m := .ah a md) hl fr2 (by simpa using hi) (by simp only [Rv]; exact ⟨n, rfl, rv⟩)
  rw [List.set_set, set_same ha] at fr3
  exact fr3
theorem js_ah {st : Stmt} {m : MS} {i : Nat} (h : PS X st (tK X.K T W m)) : PS X st (tK X.K T W (mAh i m)) := ps_imp h fun D σ H ⟨B0, F, B, g, ss, ts, tv, o, hl, nb, nbs', fr, e, p⟩ => by
  unfold mAh at e
  split at e
  · rename_i d a md hs
    obtain ⟨n, hv, fr2⟩ := fr.unAh hl hs
    split at e
    · rename_i s1 hm
      split at e
      · rename_i d' md' hs1
        split at e
        · rename_i n1
          cases e
          exact ⟨B0, F, B, g, _, ts, tv, .nx s1, hl, nb, nbs_set nbs' (show Ent.nb (some (d, md)) = true from n), fr2, hm, fun B' H' fr' => p B' H' (fr'.reAh hl hs1 n1 hv)⟩
        · cases e
      · cases e
    · cases e
  · cases e
/-- x.append(e) -/
def mApp (i : Nat) (m : ME) : MS := fun ss => match ss[i]? with
  | some (some (.lst _, .ow _)) => sE m (fun a s1 => match s1[i]? with
    | some (some (.lst ds, .ow em)) => if a.2.beq em && decide (ds.length < lim) && em.nb && nbB s1 then some (.nx (s1.set i (some (.lst (ds ++ [a.1]), .ow em)))) else none
    | _ => none) ss
  | _ => none
theorem All3.snoc {P : D → V → List Addr → Prop} {ds : List D} {xs : List V} {f g : List Addr} {d : D} {v : V} (h : All3 P ds xs f) (p : P d v g) : All3 P (ds ++ [d]) (xs ++ [v]) (f ++ g) :=
  h.app ⟨v, [], g, [], rfl, (List.append_nil g).symm, p, rfl, rfl⟩
theorem ks_app {i : Nat} {o : Expr} {nm : Str} {apos cpos : Pos} (hnm : Slot "list" nm "list.append") (ho : PE X o (tVar i)) (he : JE T W X e m)
    (hbase : attributeBase o nm X.env (eval o X.env) = eval o X.env := by rfl)
    (hfew : ((backTo cpos (starEach (e :: []) X.env)).all (fun x => !x.1) && (backToKw cpos (keywordEach [] X.env)).all (fun x => x.1.isSome)
      && decide ((e :: []).length + ([] : List Keyword).length + (if ([] : List Keyword).isEmpty then 0 else 1) < 30)) = true := by rfl)
    (hline : (apos.endLine == cpos.line) = true := by rfl) (hs : starEach (e :: []) X.env = (false, eval e X.env) :: starEach [] X.env := by rfl) (hplain : (backTo cpos (starEach [] X.env)).any (·.1) = false := by rfl)
    (hsw : swapsWith (.Call (.Attribute o nm apos) [e] [] cpos) none pos.line X.env = pure false := by rfl) :
    PS X (.Expr (.Call (.Attribute o nm apos) [e] [] cpos) pos) (tK X.K T W (mApp i m)) :=
  ps_imp (ps_expr (pe_bm PySem.F.plainAttrs_list hnm PySem.F.type_list_append mt_append ho (pa_cons he pa_nil hs) hbase hfew hline hs hplain) hsw) fun D σ H ⟨B0, F, B, g, ss, ts, tv, o, hl, nb, nbs', fr, e, p⟩ => by
    unfold mApp at e
    split at e
    · rename_i ds0 em0 hs0
      obtain ⟨v0, f0, hv0, rv0, _⟩ := fr.takeS hl hs0
      obtain ⟨_, ds', q, xs0, g', e0, e1, e2, _⟩ := Rv.ow_iff.mp rv0
      subst e1
      refine ⟨_, hv0, .inl ⟨rfl, xs0, SqL.of e2⟩, ?_⟩
      rcases sE_ok e with ⟨a, s1, e1, e2⟩ | ⟨x, s1, e1, rfl⟩
      · refine ⟨B0, F, B, g, ss, ts, tv, .ok a, s1, hl, fr, e1, fun y B1 H1 x1 fr1 => ?_⟩
        split at e2
        · rename_i ds em hs1
          split at e2
          · rename_i n
            cases e2
            simp only [Bool.and_eq_true, decide_eq_true_eq] at n
            obtain ⟨⟨⟨n1, n2⟩, n3⟩, n4⟩ := n
            have em1 := Md.eq_of _ _ n1
            obtain ⟨y', fy, ey, ry, fr2⟩ := fr1.pop1
            cases ey
            rw [em1] at ry
            obtain ⟨v1, f1, hv1, rv1, fr3⟩ := fr2.takeS hl hs1
            rw [hv0] at hv1
            cases hv1
            obtain ⟨_, ds', q', xs, gg, e0, e1, e2, e3, e4⟩ := Rv.ow_iff.mp rv1
            cases e0
            cases e1
            subst e3
            refine ⟨q, xs, y, rfl, rfl, e2, by rw [e4.len]; exact Nat.lt_trans n2 lim_lt, ?_⟩
            rw [← List.append_assoc] at fr3
            have nd := (List.nodup_append.mp fr3.nd).1
            rw [List.cons_append] at nd fr3
            have nq := (List.nodup_cons.mp nd).1
            have kp : ∀ b ∈ gg ++ fy, ∀ o, H1 b = some o → upd H1 q (.lst (xs ++ [y])) b = some o := fun b hb o ho => by
              rw [upd_ne (show b ≠ q from fun z => nq (by rw [← z]; exact hb))]
              exact ho
            refine p B1 _ (Fr.listUpd hl fr3 nb (nbB_ok n4) (List.getElem?_eq_some_iff.mp hs1).1 hv0 n3 (All3.snoc (e4.imp fun d v f hf => Rv.keep (Ex.refl _) _ _ _ _ n3 fun b hb => kp b (List.mem_append_left _ (hf b hb))) (Rv.keep (Ex.refl _) _ _ _ _ n3 (fun b hb => kp b (List.mem_append_right _ hb)) ry)))
          · cases e2
        · cases e2
      · exact ⟨B0, F, B, g, ss, ts, tv, .er x, s1, hl, fr, e1, p⟩
    · cases e
theorem All3.at {P : D → V → List Addr → Prop} : ∀ {ds : List D} {xs : List V} {f : List Addr} {j : Nat} {d : D}, All3 P ds xs f → ds[j]? = some d →
    ∃ v f1 f2 f3, xs[j]? = some v ∧ f = f1 ++ (f2 ++ f3) ∧ P d v f2 ∧ ∀ (P' : D → V → List Addr → Prop) (d' : D) (v' : V) (f' : List Addr), P' d' v' f' → (∀ d v g, (∀ a ∈ g, a ∈ f1 ++ f3) → P d v g → P' d v g) → All3 P' (ds.set j d') (xs.set j v') (f1 ++ (f' ++ f3))
  | [], _, _, _, _, _, e => by simp at e
  | d :: ds, xs, f, j, d0, h, e => by
    obtain ⟨v, r, f1, f2, e1, e2, h1, h2⟩ := h
    subst e1; subst e2
    cases j with
    | zero =>
      simp at e
      subst e
      refine ⟨v, [], f1, f2, rfl, rfl, h1, fun P' d' v' f' hp hk => ?_⟩
      exact ⟨v', r, f', f2, rfl, rfl, hp, h2.imp fun d v g hg => hk d v g (by simpa using hg)⟩
    | succ j =>
      obtain ⟨v0, g1, g2, g3, q1, q2, q3, q4⟩ := All3.at h2 (by simpa using e)
      subst q2
      refine ⟨v0, f1 ++ g1, g2, g3, by simpa using q1, by simp [List.append_assoc], q3, fun P' d' v' f' hp hk => ?_⟩
      refine ⟨v, r.set j v', f1, g1 ++ (f' ++ g3), rfl, by simp [List.append_assoc], ?_, q4 P' d' v' f' hp fun d v g hg => hk d v g fun a ha => ?_⟩
      · exact hk d v f1 (fun a ha => by simp [ha]) h1
      · have := hg a ha
        simp only [List.mem_append] at this ⊢
        rcases this with h | h
        · exact .inl (.inr h)
        · exact .inr h
/-- x[k] = e, the items shared -/
def mSetI (i : Nat) (me mi : ME) : MS := sE me fun a => sE (fun ss => match ss[i]? with
    | some (some (.lst _, .ow .sh)) => mi ss
    | _ => none) fun k s1 => match s1[i]? with
    | some (some (.lst ds, .ow .sh)) => (intOf k.1).bind fun k => (ixN ds.length k).bind fun j => if isSh a.2 && nbB s1 then some (.nx (s1.set i (some (.lst (ds.set j a.1), .ow .sh)))) else none
    | _ => none
theorem ks_setI {i : Nat} {o ix e : Expr} {me mi : ME} {pos' : Pos} (ho : PE X o (tVar i)) (hix : JE T W X ix mi) (he : JE T W X e me)
    (ha : ∀ v, assign (.Subscript o ix pos') X.env v = (do
      let ov ← holding [v] (eval o X.env)
      let iv ← holding [v, ov] (eval ix X.env)
      standAt pos'
      holding [v, ov, iv] (setItem ov iv v)
      release [v, ov, iv] []) := by intro _; rfl)
    (hs : swapsWithSole [.Subscript o ix pos'] e pos.line X.env = pure false := by rfl) (hw : swappedStores [.Subscript o ix pos'] e X.env = pure none := by rfl)
    (h1 : (assignEach [.Subscript o ix pos'] X.env).map (·.2) = [assign (.Subscript o ix pos') X.env] := by rfl) :
    PS X (.Assign [.Subscript o ix pos'] e pos) (tK X.K T W (mSetI i me mi)) :=
  ps_imp (ps_asg he (pg_sub ho hix set_list ha) hs hw h1) fun D σ H ⟨B0, F, B, g, ss, ts, tv, o, hl, nb, nbs', fr, e, p⟩ => by
    rcases sE_ok e with ⟨a, s1, e1, e2⟩ | ⟨x, s1, e1, rfl⟩
    · refine ⟨B0, F, B, g, ss, ts, tv, .ok a, s1, hl, fr, e1, fun y B1 H1 x1 fr1 => ?_⟩
      rcases sE_ok e2 with ⟨k, s2, e3, e4⟩ | ⟨x, s2, e3, rfl⟩
      · split at e3
        · rename_i ds0 hs0
          obtain ⟨v0, f0, hv0, rv0, _⟩ := Fr.takeS (ts := some a :: ts) (tv := some y :: tv) (by simp [hl]) fr1 hs0
          refine ⟨v0, hv0, B0, F, B1, g, s1, some a :: ts, some y :: tv, .ok k, s2, by simp [hl], fr1, e3, fun kv B2 H2 x2 fr2 => ?_⟩
          split at e4
          · rename_i ds hs1
            cases hk : intOf k.1 with
            | none => rw [hk] at e4; cases e4
            | some k' =>
              rw [hk] at e4
              replace e4 : ((ixN ds.length k').bind fun j => if isSh a.2 && nbB s2 then some (SO.nx (s2.set i (some (.lst (ds.set j a.1), .ow .sh)))) else none) = some o := e4
              cases hj : ixN ds.length k' with
              | none => rw [hj] at e4; cases e4
              | some j =>
                rw [hj] at e4
                replace e4 : (if isSh a.2 && nbB s2 then some (SO.nx (s2.set i (some (.lst (ds.set j a.1), .ow .sh)))) else none) = some o := e4
                split at e4
                · rename_i n
                  cases e4
                  simp only [Bool.and_eq_true] at n
                  obtain ⟨kv', ek, rk⟩ := Fr.rd (d := k.1) (m := k.2) fr2
                  cases ek
                  rw [intOf_eq hk] at rk
                  simp only [Rp] at rk
                  have fr3 := fr2.popD
                  obtain ⟨y', fy, ey, ry, fr4⟩ := Fr.pop1 (dm := a) fr3
                  cases ey
                  rw [isSh_eq n.1] at ry
                  have ry0 := ry
                  simp only [Rv] at ry0
                  obtain ⟨ry1, rfl⟩ := ry0
                  obtain ⟨v1, f1, hv1, rv1, fr5⟩ := fr4.takeS hl hs1
                  rw [hv0] at hv1
                  cases hv1
                  obtain ⟨_, ds', q, xs, gg, e0, e1, e2, e3, e4⟩ := Rv.ow_iff.mp rv1
                  cases e0
                  subst e1
                  subst e3
                  refine ⟨q, xs, k', j, rfl, rk, e2, by rw [e4.len]; exact hj, ?_⟩
                  have hjd : j < ds.length := (ixN_seq hj).2.1
                  obtain ⟨v3, g1, g2, g3, q1, q2, q3, q4⟩ := e4.at (j := j) (d := ds[j]) (by simp [hjd])
                  simp only [Rv] at q3
                  obtain ⟨_, rfl⟩ := q3
                  subst q2
                  refine p B2 _ (Fr.listUpd hl fr5 nb (nbB_ok n.2) (List.getElem?_eq_some_iff.mp hs1).1 hv0 rfl (q4 _ _ _ [] (Rv.mksh ry1) fun d v g _ h => ?_))
                  simp only [Rv] at h ⊢
                  exact h
                · cases e4
          · cases e4
        · cases e3
      · split at e3
        · rename_i ds0 hs0
          obtain ⟨v0, f0, hv0, rv0, _⟩ := Fr.takeS (ts := some a :: ts) (tv := some y :: tv) (by simp [hl]) fr1 hs0
          exact ⟨v0, hv0, B0, F, B1, g, s1, some a :: ts, some y :: tv, .er x, s2, by simp [hl], fr1, e3, PErr.drop p⟩
        · cases e3
    · exact ⟨B0, F, B, g, ss, ts, tv, .er x, s1, hl, fr, e1, p⟩
/-- x[r][c] = e, a grid of ours -/
def mSetG (i : Nat) (me mr mc : ME) : MS := sE me fun a => sE (fun ss => match ss[i]? with
    | some (some (.lst _, .ow (.ow .sh))) => mr ss
    | _ => none) fun r => sE (fun ss => match ss[i]? with
    | some (some (.lst rows, .ow (.ow .sh))) => if nbB ss then ((intOf r.1).bind fun r => (ixN rows.length r).bind fun _ => mc ss) else none
    | _ => none) fun c s1 => match s1[i]? with
    | some (some (.lst rows, .ow (.ow .sh))) => (intOf r.1).bind fun r => (ixN rows.length r).bind fun jr => (match rows[jr]? with
        | some (.lst ds) => (intOf c.1).bind fun c => (ixN ds.length c).bind fun jc => if isSh a.2 && nbB s1 then some (.nx (s1.set i (some (.lst (rows.set jr (.lst (ds.set jc a.1))), .ow (.ow .sh))))) else none
        | _ => none)
    | _ => none
end
end Ve

set_option Elab.async false
set_option linter.all false
set_option maxRecDepth 100000
set_option maxHeartbeats 1000000
namespace Ve
open PySem PySem.Spec PyProof.Rows L2

section
variable {K : PySem.W.Frag} {T : Nat → Value} {W : WX} {X : Cx} {B0 F B H : Hp} {g : List Addr} {ss ts es : SS} {tv vs : List (Option V)} {σ : L2.St} {pos : Pos} {a b c e : Expr} {ma mb mc m : ME}
theorem obind {α β : Type} {o : Option α} {f : α → Option β} {r : β} (h : o.bind f = some r) : ∃ x, o = some x ∧ f x = some r := by
  cases o with
  | none => cases h
  | some x => exact ⟨x, rfl, h⟩
theorem Rps.set {d : D} {v : V} : ∀ {ds : List D} {vs : List V} {j : Nat}, Rps K B ds vs → Rp K B d v → Rps K B (ds.set j d) (vs.set j v)
  | [], vs, j, h, _ => by simp only [Rps] at h; subst h; simp [Rps]
  | d0 :: ds, vs, j, h, hd => by
    simp only [Rps] at h
    obtain ⟨v0, r0, k1, k2, k3⟩ := h
    subst k1
    cases j with
    | zero => exact Rps.cons hd k3
    | succ j => exact Rps.cons k2 (Rps.set k3 hd)
/-- a grid's row, cell -/
theorem grid_row {rows : List D} {q : Addr} {xs : List V} {gg : List Addr} {jr : Nat} {ds : List D} (e4 : All3 (Rv K B H (.ow .sh)) rows xs gg) (hr : rows[jr]? = some (.lst ds)) :
    ∃ rq cells f1 f3, xs[jr]? = some (.ref rq) ∧ H rq = some (.lst cells) ∧ Rps K B ds cells ∧ gg = f1 ++ ([rq] ++ f3) ∧
      ∀ (H' : Hp) (ds' : List D) (cells' : List V), H' rq = some (.lst cells') → Rps K B ds' cells' → (∀ b ∈ f1 ++ f3, ∀ o, H b = some o → H' b = some o) → All3 (Rv K B H' (.ow .sh)) (rows.set jr (.lst ds')) xs gg := by
  obtain ⟨v, f1, f2, f3, q1, q2, q3, q4⟩ := e4.at hr
  obtain ⟨_, ds0, rq, cells, gr, e0, e1, e2, e3, e5⟩ := Rv.ow_iff.mp q3
  cases e0
  subst e1
  have hg : gr = [] := by
    have : ∀ {ds : List D} {xs : List V} {f : List Addr}, All3 (Rv K B H .sh) ds xs f → f = [] := fun {ds} => by
      induction ds with
      | nil => intro xs f h; exact h.2
      | cons d ds ih =>
        intro xs f h
        obtain ⟨v, r, g1, g2, _, k2, k3, k4⟩ := h
        simp only [Rv] at k3
        rw [k2, k3.2, ih k4]
        rfl
    exact this e5
  subst hg
  subst e3
  refine ⟨rq, cells, f1, f3, q1, e2, e5.toRps, q2, fun H' ds' cells' h1 h2 h3 => ?_⟩
  have := q4 (Rv K B H' (.ow .sh)) (.lst ds') (.ref rq) [rq] (Rv.ow_iff.mpr ⟨rfl, ds', rq, cells', [], rfl, rfl, h1, rfl, All3.ofRps h2⟩) fun d v g hg h => Rv.keep (Ex.refl _) _ _ _ _ rfl (fun b hb => h3 b (hg b hb)) h
  rw [set_same q1] at this
  rw [q2]
  exact this
theorem ks_setG {i : Nat} {o ixr ixc e : Expr} {me mr mc : ME} {pos' pos2 : Pos} (ho : PE X o (tVar i)) (hr : JE T W X ixr mr) (hpl : PlainIx ixr) (hc : JE T W X ixc mc) (he : JE T W X e me)
    (ha : ∀ v, assign (.Subscript (.Subscript o ixr pos2) ixc pos') X.env v = (do
      let ov ← holding [v] (eval (.Subscript o ixr pos2) X.env)
      let iv ← holding [v, ov] (eval ixc X.env)
      standAt pos'
      holding [v, ov, iv] (setItem ov iv v)
      release [v, ov, iv] []) := by intro _; rfl)
    (hs : swapsWithSole [.Subscript (.Subscript o ixr pos2) ixc pos'] e pos.line X.env = pure false := by rfl) (hw : swappedStores [.Subscript (.Subscript o ixr pos2) ixc pos'] e X.env = pure none := by rfl)
    (h1 : (assignEach [.Subscript (.Subscript o ixr pos2) ixc pos'] X.env).map (·.2) = [assign (.Subscript (.Subscript o ixr pos2) ixc pos') X.env] := by rfl) :
    PS X (.Assign [.Subscript (.Subscript o ixr pos2) ixc pos'] e pos) (tK X.K T W (mSetG i me mr mc)) :=
  ps_imp (ps_asg he (pg_sub (pe_ix ix_seq ho hr hpl) hc set_list ha) hs hw h1) fun D σ H ⟨B0, F, B, g, ss, ts, tv, o, hl, nb, nbs', fr, e, p⟩ => by
    rcases sE_ok e with ⟨a, s1, e1, e2⟩ | ⟨x, s1, e1, rfl⟩
    · refine ⟨B0, F, B, g, ss, ts, tv, .ok a, s1, hl, fr, e1, fun y B1 H1 x1 fr1 => ?_⟩
      have hl1 : (some a :: ts).length = (some y :: tv).length := by simp [hl]
      rcases sE_ok e2 with ⟨r, s2, e3, e4⟩ | ⟨x, s2, e3, rfl⟩
      · split at e3
        · rename_i ds0 hs0
          obtain ⟨v0, f0, hv0, rv0, _⟩ := Fr.takeS (ts := some a :: ts) (tv := some y :: tv) hl1 fr1 hs0
          refine ⟨v0, hv0, B0, F, B1, g, s1, some a :: ts, some y :: tv, .ok r, s2, hl1, fr1, e3, fun rv B2 H2 x2 fr2 => ?_⟩
          rcases sE_ok e4 with ⟨k, s3, e5, e6⟩ | ⟨x, s3, e5, rfl⟩
          · split at e5
            · rename_i rows2 hs2
              split at e5
              · rename_i n2
                obtain ⟨r', hr', e5⟩ := obind e5
                obtain ⟨jr, hjr, e5⟩ := obind e5
                split at e6
                · rename_i rows hs3
                  obtain ⟨r2, hr2, e6⟩ := obind e6
                  rw [hr'] at hr2
                  cases hr2
                  obtain ⟨jr3, hjr3, e6⟩ := obind e6
                  split at e6
                  · rename_i ds hrow
                    obtain ⟨c', hc', e6⟩ := obind e6
                    obtain ⟨jc, hjc, e6⟩ := obind e6
                    split at e6
                    · rename_i n
                      cases e6
                      simp only [Bool.and_eq_true] at n
                      -- the row's number
                      obtain ⟨rv', er, rr⟩ := Fr.rd (d := r.1) (m := r.2) fr2
                      cases er
                      rw [intOf_eq hr'] at rr
                      simp only [Rp] at rr
                      have fr2' := fr2.popD
                      -- the row that is read
                      obtain ⟨v2, f2, hv2, rv2, fr2n⟩ := Fr.takeS (ts := some a :: ts) (tv := some y :: tv) hl1 fr2' hs2
                      rw [hv0] at hv2
                      cases hv2
                      obtain ⟨_, dsx, q, xs, gg, e0, e1', e2', e3', e4'⟩ := Rv.ow_iff.mp rv2
                      cases e0
                      subst e1'
                      have hjl2 : jr < rows2.length := (ixN_seq hjr).2.1
                      have hxl : xs.length = rows2.length := e4'.len
                      obtain ⟨xr, hxr⟩ : ∃ xr, xs[jr]? = some xr := ⟨xs[jr], by simp [hxl, hjl2]⟩
                      refine .inl ⟨q, xs, r', xr, rfl, rr, SqL.of e2', ?_, ?_⟩
                      · show (ixN xs.length r').bind (fun j => xs[j]?) = some xr
                        rw [hxl, hjr]
                        exact hxr
                      · refine ⟨B0, F, B2, g, s2, some a :: ts, some y :: tv, .ok k, s3, hl1, fr2', e5, fun kv B3 H3 x3 fr3 => ?_⟩
                        obtain ⟨kv', ek, rk⟩ := Fr.rd (d := k.1) (m := k.2) fr3
                        cases ek
                        rw [intOf_eq hc'] at rk
                        simp only [Rp] at rk
                        have fr4 := fr3.popD
                        obtain ⟨y', fy, ey, ry, fr5⟩ := Fr.pop1 (dm := a) fr4
                        cases ey
                        rw [isSh_eq n.1] at ry
                        simp only [Rv] at ry
                        obtain ⟨ry1, rfl⟩ := ry
                        obtain ⟨v3, f3, hv3, rv3, fr6⟩ := fr5.takeS hl hs3
                        rw [hv0] at hv3
                        cases hv3
                        obtain ⟨_, dsx, q', xs3, gg3, e0, e1', e2'', e3'', e4''⟩ := Rv.ow_iff.mp rv3
                        cases e0
                        cases e1'
                        subst e3''
                        -- the list of rows has stayed
                        have hxs : xs3 = xs := by
                          have := x3 _ _ e2'
                          rw [e2''] at this
                          cases this
                          rfl
                        subst hxs
                        have hrl : rows.length = rows2.length := by rw [← e4''.len, hxl]
                        rw [hrl] at hjr3
                        rw [hjr] at hjr3
                        cases hjr3
                        obtain ⟨rq, cells, f1, f4, z1, z2, z3, z4, z5⟩ := grid_row (q := q) e4'' hrow
                        rw [hxr] at z1
                        cases z1
                        refine ⟨rq, cells, c', jc, rfl, rk, z2, by rw [z3.len]; exact hjc, ?_⟩
                        have nd := (List.nodup_append.mp fr6.nd).1
                        rw [z4] at nd fr6
                        have nd2 := (List.nodup_cons.mp nd)
                        have hqr : q ≠ rq := fun z => nd2.1 (by rw [z]; simp)
                        have hrq : ∀ b ∈ f1 ++ f4, b ≠ rq := fun b hb z => by
                          subst z
                          have n3 := nd2.2
                          rcases List.mem_append.mp hb with hb | hb
                          · exact (List.nodup_append.mp n3).2.2 b hb b (by simp) rfl
                          · have n4 := (List.nodup_append.mp n3).2.1
                            exact (List.nodup_append.mp n4).2.2 b (by simp) b hb rfl
                        have fr7 := fr6.write (p := rq) (o := .lst (cells.set jc y)) (by simp) (nbs_app nb (nbs_set (nbB_ok n.2) rfl)) trivial
                        have r7 := z5 (upd H3 rq (.lst (cells.set jc y))) (ds.set jc a.1) (cells.set jc y) upd_same (by
                          exact Rps.set z3 ry1) (fun b hb o ho => by rw [upd_ne (hrq b hb)]; exact ho)
                        have fr8 := Fr.putS (f := q :: (f1 ++ ([rq] ++ f4))) (i := i) hl fr7 (by simpa using (List.getElem?_eq_some_iff.mp hs3).1) (Rv.ow_iff.mpr ⟨rfl, _, q, xs3, f1 ++ ([rq] ++ f4), rfl, rfl, by rw [upd_ne hqr]; exact e2'', rfl, by rw [z4] at r7; exact r7⟩)
                        rw [List.set_set, set_same hv0] at fr8
                        exact p B3 _ fr8
                    · cases e6
                  · cases e6
                · cases e6
              · cases e5
            · cases e5
          · split at e5
            · rename_i rows2 hs2
              split at e5
              · rename_i n2
                obtain ⟨r', hr', e5⟩ := obind e5
                obtain ⟨jr, hjr, e5⟩ := obind e5
                obtain ⟨rv', er, rr⟩ := Fr.rd (d := r.1) (m := r.2) fr2
                cases er
                rw [intOf_eq hr'] at rr
                simp only [Rp] at rr
                have fr2' := fr2.popD
                obtain ⟨v2, f2, hv2, rv2, fr2n⟩ := Fr.takeS (ts := some a :: ts) (tv := some y :: tv) hl1 fr2' hs2
                rw [hv0] at hv2
                cases hv2
                obtain ⟨_, dsx, q, xs, gg, e0, e1', e2', e3', e4'⟩ := Rv.ow_iff.mp rv2
                cases e0
                subst e1'
                have hjl2 : jr < rows2.length := (ixN_seq hjr).2.1
                have hxl : xs.length = rows2.length := e4'.len
                obtain ⟨xr, hxr⟩ : ∃ xr, xs[jr]? = some xr := ⟨xs[jr], by simp [hxl, hjl2]⟩
                refine .inl ⟨q, xs, r', xr, rfl, rr, SqL.of e2', ?_, ?_⟩
                · show (ixN xs.length r').bind (fun j => xs[j]?) = some _
                  rw [hxl, hjr]
                  exact hxr
                · exact ⟨B0, F, B2, g, s2, some a :: ts, some y :: tv, .er x, s3, hl1, fr2', e5, PErr.drop p⟩
              · cases e5
            · cases e5
        · cases e3
      · split at e3
        · rename_i ds0 hs0
          obtain ⟨v0, f0, hv0, rv0, _⟩ := Fr.takeS (ts := some a :: ts) (tv := some y :: tv) hl1 fr1 hs0
          exact ⟨v0, hv0, B0, F, B1, g, s1, some a :: ts, some y :: tv, .er x, s2, hl1, fr1, e3, PErr.drop p⟩
        · cases e3
    · exact ⟨B0, F, B, g, ss, ts, tv, .er x, s1, hl, fr, e1, p⟩

/-! ## targets -/
abbrev MG := Dm → SS → Option SS
abbrev MGs := List Dm → SS → Option SS
def gM (K : PySem.W.Frag) (ix : List Nat) (mg : MG) : TG := fun v σ H Q => ∃ (B0 F B : Hp) (g : List Addr) (ss ts : SS) (tv : List (Option V)) (dm : Dm) (ss' : SS),
  ts.length = tv.length ∧ Fr K B0 F B H g (some dm :: (ts ++ ss)) (some v :: (tv ++ σ)) ∧ mg dm ss = some ss' ∧ ∀ σ' B' , L2.wipe σ' ix = L2.wipe σ ix → Fr K B0 F B' H g (ts ++ ss') (tv ++ σ') → Q σ' H
def gMs (K : PySem.W.Frag) (ix : List Nat) (mg : MGs) : TGs := fun vs σ H Q => ∃ (B0 F B : Hp) (g : List Addr) (ss ts : SS) (tv : List (Option V)) (dms : List Dm) (ss' : SS),
  ts.length = tv.length ∧ vs.length = dms.length ∧ Fr K B0 F B H g (dms.map some ++ (ts ++ ss)) (vs.map some ++ (tv ++ σ)) ∧ mg dms ss = some ss' ∧ ∀ σ' B', L2.wipe σ' ix = L2.wipe σ ix → Fr K B0 F B' H g (ts ++ ss') (tv ++ σ') → Q σ' H
abbrev JG (X : Cx) (ix : List Nat) (tg : Expr) (mg : MG) : Prop := PG X tg (gM X.K ix mg)
abbrev JGs (X : Cx) (ix : List Nat) (tgs : List Expr) (mg : MGs) : Prop := PGs X tgs (gMs X.K ix mg)
theorem wipe_set {i : Nat} {v : Option V} : ∀ {ix : List Nat} {σ : L2.St}, i ∈ ix → L2.wipe (σ.set i v) ix = L2.wipe σ ix
  | j :: ix, σ, h => by
    unfold L2.wipe
    by_cases hj : i ∈ ix
    · rw [wipe_set hj]
    · have e : i = j := by
        rcases List.mem_cons.mp h with h | h
        · exact h
        · exact absurd h hj
      subst e
      have gen : ∀ {ix : List Nat} {σ : L2.St}, i ∉ ix → L2.wipe (σ.set i v) ix = (L2.wipe σ ix).set i v := fun {ix} => by
        induction ix with
        | nil => intro σ _; rfl
        | cons k ix ih =>
          intro σ hk
          unfold L2.wipe
          rw [ih fun z => hk (List.mem_cons_of_mem _ z)]
          exact List.set_comm _ _ fun z => hk (by rw [z]; exact List.mem_cons_self)
      rw [gen hj, List.set_set]
theorem pg_imp {X : Cx} {tg : Expr} {t t' : TG} (h : PG X tg t) (k : ∀ v σ H Q, t' v σ H Q → t v σ H Q) : PG X tg t' := ⟨fun pins s σ H v u Q I r w => h.run pins s σ H v u Q I r (k v σ H Q w)⟩
theorem pgs_imp {X : Cx} {tg : List Expr} {t t' : TGs} (h : PGs X tg t) (k : ∀ v σ H Q, t' v σ H Q → t v σ H Q) : PGs X tg t' := ⟨fun pins s σ H v u Q I r w => h.run pins s σ H v u Q I r (k v σ H Q w)⟩
def mgN (i : Nat) : MG := fun dm ss => if i < ss.length then some (ss.set i (some dm)) else none
def mgNil : MGs := fun dms ss => if dms.isEmpty then some ss else none
def mgCons (mg : MG) (mgs : MGs) : MGs := fun dms ss => match dms with
  | dm :: r => (mg dm ss).bind fun s1 => mgs r s1
  | [] => none
/-- the parts of a tuple -/
def parts (dm : Dm) : Option (List Dm) := match dm with
  | (.tup ds, .sh) => some (ds.map fun d => (d, .sh))
  | (.tup ds, .tp ms) => if ms.length = ds.length then some (ds.zip ms) else none
  | _ => none
def mgT (n : Nat) (mgs : MGs) : MG := fun dm ss => (parts dm).bind fun dms => if dms.length = n then mgs dms ss else none
theorem jg_name {i : Nat} {x : Str} (ix : List Nat) (hN : X.N.Nodup) (hi : X.N[i]? = some x) (hx : Loc X.env.scope x) (hf : X.fn x = true ∨ X.env.scope.names.lookup x = some .local := by first | exact .inl rfl | exact .inr rfl | assumption) (hix : i ∈ ix := by decide) : JG X ix (.Name x pos) (mgN i) :=
  pg_imp (pg_name hN hi hx hf) fun v σ H Q ⟨B0, F, B, g, ss, ts, tv, dm, ss', hl, fr, e, q⟩ => by
    unfold mgN at e
    split at e
    · rename_i hi
      cases e
      exact q _ B (wipe_set hix) (Fr.put hl fr hi)
    · cases e
theorem jgs_nil (ix : List Nat) : JGs X ix [] mgNil := pgs_imp pgs_nil fun v σ H Q ⟨B0, F, B, g, ss, ts, tv, dms, ss', hl, hv, fr, e, q⟩ => by
  unfold mgNil at e
  cases dms with
  | nil =>
    cases e
    have : v = [] := List.eq_nil_of_length_eq_zero hv
    subst this
    exact ⟨rfl, q σ B rfl fr⟩
  | cons _ _ => cases e
theorem jgs_cons {x : Expr} {xs : List Expr} {mg : MG} {mgs : MGs} {ix : List Nat} (h1 : JG X ix x mg) (h2 : JGs X ix xs mgs) (hs : (assignEach (x :: xs) X.env).map (·.2) = assign x X.env :: (assignEach xs X.env).map (·.2) := by rfl) : JGs X ix (x :: xs) (mgCons mg mgs) :=
  pgs_imp (pgs_cons h1 h2 hs) fun v σ H Q ⟨B0, F, B, g, ss, ts, tv, dms, ss', hl, hv, fr, e, q⟩ => by
    cases dms with
    | nil => cases e
    | cons dm r =>
      cases v with
      | nil => cases hv
      | cons v vr =>
        obtain ⟨s1, e1, e2⟩ := obind (show (mg dm ss).bind (fun s1 => mgs r s1) = some ss' from e)
        refine ⟨v, vr, rfl, B0, F, B, g, ss, r.map some ++ ts, vr.map some ++ tv, dm, s1, by simpa [hl] using hv.symm, by simpa [List.append_assoc] using fr, e1, fun σ' B' w' fr' => ?_⟩
        exact ⟨B0, F, B', g, s1, ts, tv, r, ss', hl, by simpa using hv, by simpa [List.append_assoc] using fr', e2, fun σ2 B2 w2 => q σ2 B2 (w2.trans w')⟩
theorem Fr.unpack {dm : Dm} {dms : List Dm} {v : V} (h : Fr K B0 F B H g (some dm :: es) (some v :: vs)) (e : parts dm = some dms) :
    ∃ a xs, v = .ref a ∧ H a = some (.tup xs) ∧ xs.length = dms.length ∧ Fr K B0 F B H g (dms.map some ++ es) (xs.map some ++ vs) := by
  obtain ⟨x, f, ex, r, h'⟩ := h.pop1
  cases ex
  unfold parts at e
  split at e
  · rename_i ds
    cases e
    simp only [Rv, Rp] at r
    obtain ⟨⟨a, xs, e1, e2, e3⟩, rfl⟩ := r
    refine ⟨a, xs, e1, h'.ex _ _ e2, by simpa using e3.len, ?_⟩
    have : ∀ {ds : List D} {xs : List V}, Rps K B ds xs → Fr K B0 F B H g ((ds.map fun d => ((d, .sh) : Dm)).map some ++ es) (xs.map some ++ vs) := fun {ds} => by
      induction ds with
      | nil => intro xs h; simp only [Rps] at h; subst h; exact h'
      | cons d ds ih =>
        intro xs h
        simp only [Rps] at h
        obtain ⟨v, r, k1, k2, k3⟩ := h
        subst k1
        exact (ih k3).push0 (Rv.mksh k2)
    exact this e3
  · rename_i ds ms
    split at e
    · rename_i hms
      cases e
      simp only [Rv] at r
      obtain ⟨_, ds', a, xs, e0, e1, e2, e3⟩ := r
      cases e0
      refine ⟨a, xs, e1, h'.ex _ _ e2, ?_, ?_⟩
      · have := (Rvs.rp h'.ex _ _ _ _ e3).len
        simp [this, hms]
      · have : ∀ {ms : List Md} {ds : List D} {xs : List V} {f : List Addr} {g : List Addr}, Rvs K B H ms ds xs f → Fr K B0 F B H (f ++ g) es vs → Fr K B0 F B H g ((ds.zip ms).map some ++ es) (xs.map some ++ vs) := fun {ms} => by
          induction ms with
          | nil =>
            intro ds xs f g h fr
            simp only [Rvs] at h
            obtain ⟨rfl, rfl, rfl⟩ := h
            exact fr
          | cons m ms ih =>
            intro ds xs f g h fr
            simp only [Rvs] at h
            obtain ⟨d, dr, v, r, f1, f2, rfl, rfl, rfl, k1, k2⟩ := h
            have fr2 : Fr K B0 F B H (f2 ++ (f1 ++ g)) es vs := Fr.perm (by
              rw [← List.append_assoc]
              exact List.Perm.append_right g List.perm_append_comm) fr
            exact Fr.push (f := f1) (ih k2 fr2) k1
        exact this e3 h'
    · cases e
  · cases e
theorem jg_tup {xs : List Expr} {k n : Nat} {mgs : MGs} {ix : List Nat} (hc : X.calm = true) (h : JGs X ix xs mgs) (hn : (assignEach xs X.env).length = n := by rfl) (hst : (assignEach xs X.env).findIdx? (·.1) = none := by rfl) : JG X ix (.Tuple xs k pos) (mgT n mgs) :=
  pg_imp (pg_tup hc h hn hst) fun v σ H Q ⟨B0, F, B, g, ss, ts, tv, dm, ss', hl, fr, e, q⟩ => by
    obtain ⟨dms, e1, e2⟩ := obind (show (parts dm).bind (fun dms => if dms.length = n then mgs dms ss else none) = some ss' from e)
    split at e2
    · rename_i hn
      obtain ⟨a, xs, rfl, h2, h3, fr2⟩ := fr.unpack e1
      exact ⟨a, xs, rfl, SqT.of h2, by rw [h3, hn], B0, F, B, g, ss, ts, tv, dms, ss', hl, h3, fr2, e2, q⟩
    · cases e2
/-- target = value -/
def mAsg (mg : MG) (m : ME) : MS := sE m fun a ss => (keepD a).bind fun b => (mg b ss).map .nx
theorem js_asg {tg : Expr} {mg : MG} {ix : List Nat} (he : JE T W X e m) (hg : JG X ix tg mg) (hs : swapsWithSole [tg] e pos.line X.env = pure false := by rfl) (hw : swappedStores [tg] e X.env = pure none := by rfl)
    (h1 : (assignEach [tg] X.env).map (·.2) = [assign tg X.env] := by rfl) : JS T W X (.Assign [tg] e pos) (mAsg mg m) :=
  ps_imp (ps_asg he hg hs hw h1) fun D σ H ⟨B0, F, B, g, ss, ts, tv, o, hl, nb, nbs', fr, e, p⟩ => by
    rcases sE_ok e with ⟨a, s1, e1, e2⟩ | ⟨x, s1, e1, rfl⟩
    · refine ⟨B0, F, B, g, ss, ts, tv, .ok a, s1, hl, fr, e1, fun v B1 H1 x1 fr1 => ?_⟩
      obtain ⟨b, hb, e3⟩ := obind e2
      cases hm : mg b s1 with
      | none => rw [hm] at e3; cases e3
      | some s2 =>
        rw [hm] at e3
        cases e3
        obtain ⟨B2, fr2⟩ := fr1.keepD hb
        exact ⟨B0, F, B2, g, s1, ts, tv, b, s2, hl, fr2, hm, fun σ' B' _ fr' => p σ' B' H1 fr'⟩
    · exact ⟨B0, F, B, g, ss, ts, tv, .er x, s1, hl, fr, e1, p σ⟩
end
end Ve

set_option Elab.async false
set_option linter.all false
set_option maxRecDepth 100000
set_option maxHeartbeats 1000000
namespace Ve
open PySem PySem.Spec PyProof.Rows L2

section
variable {K : PySem.W.Frag} {T : Nat → Value} {W : WX} {X : Cx} {B0 F B H H' B' : Hp} {g g' : List Addr} {ss ts es es' l : SS} {tv vs vs' w : List (Option V)} {σ : L2.St} {pos : Pos} {a b c e : Expr} {ma mb mc m : ME}
/-! ## entries -/
theorem nodup_left {f h : List Addr} (n : (f ++ h).Nodup) : f.Nodup := (List.nodup_append.mp n).1
theorem Fr.pre (hl : l.length = w.length) (h : Fr K B0 F B H g (l ++ es) (w ++ vs)) : Fr K B0 F B H g l w := by
  obtain ⟨f, s, n, k⟩ := h.it
  obtain ⟨f1, f2, e1, s1, s2⟩ := (Ss.app hl).mp s
  subst e1
  refine ⟨h.ex, h.fx, h.b0, h.sub, f1, s1, ?_, fun a ha => k a ?_⟩
  · rw [← List.append_assoc] at n
    exact nodup_left n
  · rcases List.mem_append.mp ha with ha | ha
    · exact List.mem_append_left _ ha
    · exact List.mem_append_right _ (List.mem_append_left _ ha)
/-- entries in the middle go -/
theorem Fr.mid {tt : SS} {tw : List (Option V)} (hl : l.length = w.length) (ht : tt.length = tw.length) (h : Fr K B0 F B H g (l ++ (tt ++ es)) (w ++ (tw ++ vs))) : Fr K B0 F B H g (l ++ es) (w ++ vs) := by
  obtain ⟨f, s, n, k⟩ := h.it
  obtain ⟨f1, f2, e1, s1, s2⟩ := (Ss.app hl).mp s
  obtain ⟨f3, f4, e2, s3, s4⟩ := (Ss.app ht).mp s2
  subst e1; subst e2
  refine ⟨h.ex, h.fx, h.b0, h.sub, f1 ++ f4, (Ss.app hl).mpr ⟨f1, f4, rfl, s1, s4⟩, ?_, fun a ha => k a ?_⟩
  · obtain ⟨n1, n2, n3⟩ := List.nodup_append.mp n
    obtain ⟨n4, n5, n6⟩ := List.nodup_append.mp n2
    refine List.nodup_append.mpr ⟨n1, List.nodup_append.mpr ⟨n4, nodup_sub n5, fun a ha b hb => n6 a ha b (List.mem_append_right _ hb)⟩, fun a ha b hb => n3 a ha b ?_⟩
    rcases List.mem_append.mp hb with hb | hb
    · exact List.mem_append_left _ hb
    · exact List.mem_append_right _ (List.mem_append_right _ hb)
  · rcases List.mem_append.mp ha with ha | ha
    · exact List.mem_append_left _ ha
    · rcases List.mem_append.mp ha with ha | ha
      · exact List.mem_append_right _ (List.mem_append_left _ ha)
      · exact List.mem_append_right _ (List.mem_append_right _ (List.mem_append_right _ ha))
theorem Fr.skip {tt : SS} {tw : List (Option V)} (ht : tt.length = tw.length) (h : Fr K B0 F B H g (tt ++ es) (tw ++ vs)) : Fr K B0 F B H g es vs := Fr.mid (l := []) (w := []) rfl ht h
/-- without what is borrowed -/
def strip (ts : SS) : SS := ts.map fun e => if Ent.nb e then e else none
theorem strip_len : (strip ts).length = ts.length := by simp [strip]
theorem strip_nb : nbs (strip ts) := fun e he => by
  unfold strip at he
  obtain ⟨x, _, hx⟩ := List.mem_map.mp he
  subst hx
  split
  · assumption
  · rfl
theorem Rv.weird {d : D} {m : Md} {v : V} {f : List Addr} (n : ¬ m.nb = true) (h : Rv K B H m d v f) : f = [] ∧ m = .bw ∧ Rp K H d v := by
  cases m with
  | bw => simp only [Rv] at h; exact ⟨h.2, rfl, h.1⟩
  | sh => exact absurd rfl n
  | od => exact absurd rfl n
  | ow m => simp only [Rv] at h; exact absurd (by simpa [Md.nb] using h.1) n
  | tp ms => simp only [Rv] at h; exact absurd (by simpa [Md.nb] using h.1) n
  | ah p m => simp only [Rv] at h; exact absurd (by simpa [Md.nb] using h.1) n
theorem Ss.strip : ∀ {ts : SS} {tv : List (Option V)} {f : List Addr}, Ss K B H ts tv f → Ss K B H (strip ts) tv f
  | [], _, _, h => h
  | e :: ts, tv, f, h => by
    obtain ⟨v, r, f1, f2, e1, e2, h1, h2⟩ := h
    refine ⟨v, r, f1, f2, e1, e2, ?_, Ss.strip h2⟩
    by_cases hn : Ent.nb e = true
    · have q : (fun e => if Ent.nb e = true then e else none) e = e := if_pos hn
      rw [q]; exact h1
    · have q : (fun e => if Ent.nb e = true then e else none) e = none := if_neg hn
      rw [q]
      cases e with
      | none => exact h1
      | some dm =>
        obtain ⟨d, m⟩ := dm
        obtain ⟨x, hx, r⟩ := h1
        exact (Rv.weird hn r).1
/-- what is borrowed comes back -/
theorem Ss.unstrip (eH : Ex H H') : ∀ {ts : SS} {tv : List (Option V)} {f f' : List Addr}, Ss K B H ts tv f → Ss K B' H' (Ve.strip ts) tv f' → Ss K B' H' ts tv f'
  | [], _, _, _, _, h => h
  | e :: ts, tv, f, f', h, h' => by
    obtain ⟨v, r, f1, f2, e1, e2, h1, h2⟩ := h
    obtain ⟨v', r', f3, f4, e3, e4, h3, h4⟩ := h'
    rw [e1] at e3
    cases e3
    refine ⟨v, r, f3, f4, e1, e4, ?_, Ss.unstrip eH h2 h4⟩
    by_cases hn : Ent.nb e = true
    · have q : (fun e => if Ent.nb e = true then e else none) e = e := if_pos hn
      rw [← q]; exact h3
    · have q : (fun e => if Ent.nb e = true then e else none) e = none := if_neg hn
      rw [q] at h3
      cases (show f3 = [] from h3)
      cases e with
      | none => exact rfl
      | some dm =>
        obtain ⟨x, hx, r⟩ := h1
        obtain ⟨_, hm, rp⟩ := Rv.weird hn r
        obtain ⟨d, m⟩ := dm
        cases hm
        exact ⟨x, hx, Rv.mkbw (Rp.mono eH _ _ rp)⟩
theorem Fr.strip {l : SS} {w : List (Option V)} (hl : l.length = w.length) (ht : ts.length = tv.length) (h : Fr K B0 F B H g (l ++ (ts ++ es)) (w ++ (tv ++ vs))) : Fr K B0 F B H g (l ++ (Ve.strip ts ++ es)) (w ++ (tv ++ vs)) := by
  obtain ⟨f, s, n, k⟩ := h.it
  obtain ⟨f1, f2, e1, s1, s2⟩ := (Ss.app hl).mp s
  obtain ⟨f3, f4, e2, s3, s4⟩ := (Ss.app ht).mp s2
  exact ⟨h.ex, h.fx, h.b0, h.sub, f, (Ss.app hl).mpr ⟨f1, f2, e1, s1, (Ss.app (by rw [strip_len, ht])).mpr ⟨f3, f4, e2, s3.strip, s4⟩⟩, n, k⟩
theorem Fr.unstrip {l : SS} {w : List (Option V)} (eH : Ex H H') (hl : l.length = w.length) (ht : ts.length = tv.length) (h : Fr K B0 F B H g (ts ++ es) (tv ++ vs)) (h' : Fr K B0 F B' H' g' (l ++ (Ve.strip ts ++ es')) (w ++ (tv ++ vs'))) :
    Fr K B0 F B' H' g' (l ++ (ts ++ es')) (w ++ (tv ++ vs')) := by
  obtain ⟨f, s, n, k⟩ := h'.it
  obtain ⟨f1, f2, e1, s1, s2⟩ := (Ss.app hl).mp s
  obtain ⟨f3, f4, e2, s3, s4⟩ := (Ss.app (by rw [strip_len, ht])).mp s2
  obtain ⟨f0, s0, _, _⟩ := h.it
  obtain ⟨f5, f6, _, s5, _⟩ := (Ss.app ht).mp s0
  exact ⟨h'.ex, h'.fx, h'.b0, h'.sub, f, (Ss.app hl).mpr ⟨f1, f2, e1, s1, (Ss.app ht).mpr ⟨f3, f4, e2, Ss.unstrip eH s5 s3, s4⟩⟩, n, k⟩

/-! ## what is walked -/
structure Feed (K : PySem.W.Frag) (J : It) (items : List D) (tt : SS) (tw : List (Option V)) : Prop where
  go : ∀ {B0 F B H : Hp} {g : List Addr} {es : SS} {vs : List (Option V)} (i : Nat), Fr K B0 F B H g (tt ++ es) (tw ++ vs) → i < items.length → J.go i H
  stop : ∀ {B0 F B H : Hp} {g : List Addr} {es : SS} {vs : List (Option V)} (i : Nat), Fr K B0 F B H g (tt ++ es) (tw ++ vs) → items.length ≤ i → J.stop i H
  yld : ∀ {B0 F B H : Hp} {g : List Addr} {es : SS} {vs : List (Option V)} (i : Nat) (d : D) (x : V) (H' : Hp), Fr K B0 F B H g (tt ++ es) (tw ++ vs) → items[i]? = some d → J.yld i H x H' →
    ∃ B', Ex H H' ∧ Fr K B0 F B' H' g (some (d, .sh) :: (tt ++ es)) (some x :: (tw ++ vs))
abbrev MI := SS → Option (Rr (List D) × SS)
def tI (K : PySem.W.Frag) (T : Nat → Value) (W : WX) (mi : MI) : TI := fun σ H R => ∃ (B0 F B : Hp) (g : List Addr) (ss ts : SS) (tv : List (Option V)) (r : Rr (List D)) (ss' : SS),
  ts.length = tv.length ∧ Fr K B0 F B H g (ts ++ ss) (tv ++ σ) ∧ mi ss = some (r, ss') ∧ (match r with
    | .ok items => ∀ J tt tw B' H', tt.length = tw.length → nbs tt → Feed K J items tt tw → Ex H H' → Fr K B0 F B' H' g (tt ++ (ts ++ ss')) (tw ++ (tv ++ σ)) → R J H'
    | .er x => PErr K T B0 F g σ ss' ts tv W x)
abbrev JI (T : Nat → Value) (W : WX) (X : Cx) (tg it : Expr) (mi : MI) : Prop := PI X tg it (tI X.K T W mi)
theorem pi_imp {X : Cx} {tg it : Expr} {t t' : TI} (h : PI X tg it t) (k : ∀ σ H R, t' σ H R → t σ H R) : PI X tg it t' := ⟨fun pins s σ H R I w => h.run pins s σ H R I (k σ H R w)⟩
def mItL (m : ME) : MI := bnd (mSh m) fun a => lft (match a.1 with | .lst ds => some ds | _ => none)
theorem tE_sh {K : PySem.W.Frag} {m : ME} (σ : L2.St) (H : Hp) (Q : VK) (h : tE K T W (mSh m) σ H Q) : tE K T W m σ H Q := by
  obtain ⟨B0, F, B, g, ss, ts, tv, r', ss', hl, fr, e, p⟩ := h
  rcases bnd_ok e with ⟨a, s1, e1, e2⟩ | ⟨x, e1, rfl⟩
  · obtain ⟨b, e3, rfl, rfl⟩ := lft_ok e2
    refine ⟨B0, F, B, g, ss, ts, tv, .ok a, ss', hl, fr, e1, fun v B' H' x1 fr' => ?_⟩
    split at e3
    · rename_i n
      cases e3
      obtain ⟨B2, _, h2⟩ := Fr.sh (d := a.1) (m := a.2) fr' n
      exact p v B2 H' x1 h2
    · split at e3
      · rename_i n
        cases e3
        exact p v _ H' x1 (Fr.at (d := a.1) (m := a.2) fr' n)
      · cases e3
  · exact ⟨B0, F, B, g, ss, ts, tv, _, ss', hl, fr, e1, p⟩
/-- a shared list at the head -/
theorem Fr.lstAt {ds : List D} {v : V} {es : SS} {vs : List (Option V)} (h : Fr K B0 F B H g (some (.lst ds, .sh) :: es) (some v :: vs)) : ∃ a xs, v = .ref a ∧ H a = some (.lst xs) ∧ Rps K B ds xs := by
  obtain ⟨x, f, e, r, h'⟩ := h.pop1
  cases e
  simp only [Rv, Rp] at r
  obtain ⟨⟨a, xs, e1, e2, e3⟩, _⟩ := r
  exact ⟨a, xs, e1, h'.ex _ _ e2, e3⟩
theorem sql_lst {K : PySem.W.Frag} {X : Cx} {H : Hp} {a : Addr} {xs : List V} (h : H a = some (.lst xs)) : SqL K H a xs := SqL.of h
theorem feed_list {ds : List D} {a : Addr} : Feed K (Itl K a) ds [some (.lst ds, .sh)] [some (.ref a)] where
  go := fun i fr hi => by
    obtain ⟨a', xs, e1, e2, e3⟩ := fr.lstAt
    cases e1
    exact ⟨xs, xs[i]'(by rw [e3.len]; exact hi), SqL.of e2, by simp [e3.len, hi]⟩
  stop := fun i fr hi => by
    obtain ⟨a', xs, e1, e2, e3⟩ := fr.lstAt
    cases e1
    exact ⟨xs, SqL.of e2, by rw [e3.len]; exact hi⟩
  yld := fun i d x H' fr hd y => by
    obtain ⟨rfl, y⟩ := y
    obtain ⟨a', xs, e1, e2, e3⟩ := fr.lstAt
    cases e1
    obtain ⟨v, hv, rv⟩ := e3.get hd
    have := y xs (SqL.of e2)
    rw [hv] at this
    cases this
    exact ⟨_, Ex.refl _, fr.push0 (Rv.mksh rv)⟩
theorem ji_list {tg : Expr} (h : JE T W X e m) : JI T W X tg e (mItL m) :=
  pi_imp (pi_list (je_sh h)) fun σ H R ⟨B0, F, B, g, ss, ts, tv, r', ss', hl, fr, e, p⟩ => by
    rcases bnd_ok e with ⟨da, s1, e1, e2⟩ | ⟨x, e1, rfl⟩
    · obtain ⟨res, e5, rfl, rfl⟩ := lft_ok e2
      refine ⟨B0, F, B, g, ss, ts, tv, .ok da, ss', hl, fr, e1, fun va B1 H1 x1 fr1 => ?_⟩
      obtain ⟨d, md⟩ := da
      split at e5
      · rename_i ds hd
        cases e5
        replace hd : d = .lst _ := hd
        subst hd
        have hm : md = .sh := by
          rcases bnd_ok e1 with ⟨b, s2, e6, e7⟩ | ⟨x, _, e6⟩
          · obtain ⟨c, e8, e9, _⟩ := lft_ok e7
            have h1 := Rr.ok.inj e9
            have h2 : c.2 = .sh := by
              split at e8
              · rw [← Option.some.inj e8]
              · split at e8
                · rw [← Option.some.inj e8]
                · cases e8
            rw [← h1] at h2
            exact h2
          · cases e6
        subst hm
        obtain ⟨a, xs, rfl, h2, h3⟩ := fr1.lstAt
        exact ⟨a, rfl, ⟨xs, SqL.of h2⟩, p _ [some (.lst _, .sh)] [some (.ref a)] B1 H1 rfl (fun e he => by simp at he; subst he; rfl) feed_list x1 fr1⟩
      · cases e5
    · exact ⟨B0, F, B, g, ss, ts, tv, .er x, ss', hl, fr, e1, p⟩
def mItT (m : ME) : MI := bnd (mSh m) fun a => lft (match a.1 with | .tup ds => some ds | _ => none)
/-- a shared tuple at the head -/
theorem Fr.tupAt {ds : List D} {v : V} {es : SS} {vs : List (Option V)} (h : Fr K B0 F B H g (some (.tup ds, .sh) :: es) (some v :: vs)) : ∃ a xs, v = .ref a ∧ H a = some (.tup xs) ∧ Rps K B ds xs := by
  obtain ⟨x, f, e, r, h'⟩ := h.pop1
  cases e
  simp only [Rv, Rp] at r
  obtain ⟨⟨a, xs, e1, e2, e3⟩, _⟩ := r
  exact ⟨a, xs, e1, h'.ex _ _ e2, e3⟩
theorem sqt_tup {K : PySem.W.Frag} {X : Cx} {H : Hp} {a : Addr} {xs : List V} (h : H a = some (.tup xs)) : SqT K H a xs := SqT.of h
theorem feed_tup {ds : List D} {a : Addr} : Feed K (Itt K a) ds [some (.tup ds, .sh)] [some (.ref a)] where
  go := fun i fr hi => by
    obtain ⟨a', xs, e1, e2, e3⟩ := fr.tupAt
    cases e1
    exact ⟨xs, xs[i]'(by rw [e3.len]; exact hi), SqT.of e2, by simp [e3.len, hi]⟩
  stop := fun i fr hi => by
    obtain ⟨a', xs, e1, e2, e3⟩ := fr.tupAt
    cases e1
    exact ⟨xs, SqT.of e2, by rw [e3.len]; exact hi⟩
  yld := fun i d x H' fr hd y => by
    obtain ⟨rfl, y⟩ := y
    obtain ⟨a', xs, e1, e2, e3⟩ := fr.tupAt
    cases e1
    obtain ⟨v, hv, rv⟩ := e3.get hd
    have := y xs (SqT.of e2)
    rw [hv] at this
    cases this
    exact ⟨_, Ex.refl _, fr.push0 (Rv.mksh rv)⟩
theorem ji_tupI {tg : Expr} (h : JE T W X e m) : JI T W X tg e (mItT m) :=
  pi_imp (pi_tup (je_sh h)) fun σ H R ⟨B0, F, B, g, ss, ts, tv, r', ss', hl, fr, e, p⟩ => by
    rcases bnd_ok e with ⟨da, s1, e1, e2⟩ | ⟨x, e1, rfl⟩
    · obtain ⟨res, e5, rfl, rfl⟩ := lft_ok e2
      refine ⟨B0, F, B, g, ss, ts, tv, .ok da, ss', hl, fr, e1, fun va B1 H1 x1 fr1 => ?_⟩
      obtain ⟨d, md⟩ := da
      split at e5
      · rename_i ds hd
        cases e5
        replace hd : d = .tup _ := hd
        subst hd
        have hm : md = .sh := by
          rcases bnd_ok e1 with ⟨b, s2, e6, e7⟩ | ⟨x, _, e6⟩
          · obtain ⟨c, e8, e9, _⟩ := lft_ok e7
            have h1 := Rr.ok.inj e9
            have h2 : c.2 = .sh := by
              split at e8
              · rw [← Option.some.inj e8]
              · split at e8
                · rw [← Option.some.inj e8]
                · cases e8
            rw [← h1] at h2
            exact h2
          · cases e6
        subst hm
        obtain ⟨a, xs, rfl, h2, h3⟩ := fr1.tupAt
        exact ⟨a, rfl, ⟨xs, SqT.of h2⟩, p _ [some (.tup _, .sh)] [some (.ref a)] B1 H1 rfl (fun e he => by simp at he; subst he; rfl) feed_tup x1 fr1⟩
      · cases e5
    · exact ⟨B0, F, B, g, ss, ts, tv, .er x, ss', hl, fr, e1, p⟩
/-- range(n) -/
def rng (n : Nat) : List D := (List.range n).map fun i => D.int ((i : Nat) : Int)
theorem rngOk_ex : ∃ f : Int → Bool, ∀ j : Int, f j = true ↔ (-1000000 ≤ j ∧ j ≤ 1000000) := ⟨fun j => decide (-1000000 ≤ j ∧ j ≤ 1000000), fun _ => decide_eq_true_iff⟩
noncomputable def rngOk : Int → Bool := Classical.choose rngOk_ex
theorem rngOk_iff {j : Int} : rngOk j = true ↔ -1000000 ≤ j ∧ j ≤ 1000000 := Classical.choose_spec rngOk_ex j
noncomputable def iR : List Dm → Option (List D)
  | [(.int j, _)] => if rngOk j = true then some (rng j.toNat) else none
  | _ => none
theorem rngOk_small {j : Int} (h : -1000000 ≤ j ∧ j ≤ 1000000) : rngOk j = true := rngOk_iff.mpr h
theorem iR_int {j : Int} {m : Md} (h : -1000000 ≤ j ∧ j ≤ 1000000) : iR [(.int j, m)] = some (rng j.toNat) := if_pos (rngOk_small h)
noncomputable def mItR (ms : MA) : MI := bnd ms fun as => lft (iR as)
theorem feed_range {n : Nat} : Feed K (Itr 0 n) (rng n) [] [] where
  go := fun i fr hi => by
    show i < n
    simpa [rng] using hi
  stop := fun i fr hi => by
    have hi : ((List.range n).map fun i => D.int ((i : Nat) : Int)).length ≤ i := hi
    rw [List.length_map, List.length_range] at hi
    exact hi
  yld := fun i d x H' fr hd y => by
    obtain ⟨rfl, rfl⟩ := y
    unfold rng at hd
    rw [List.getElem?_map] at hd
    cases hr : (List.range n)[i]? with
    | none => rw [hr] at hd; cases hd
    | some j =>
      rw [hr] at hd
      cases hd
      have hj : j = i := by
        rw [List.getElem?_range] at hr
        · cases hr; rfl
        · rcases Nat.lt_or_ge i n with h | h
          · exact h
          · rw [List.getElem?_eq_none (by simpa using h)] at hr
            cases hr
      subst hj
      refine ⟨_, Ex.refl _, fr.push0 (Rv.mksh ?_)⟩
      rw [Int.zero_add]
      exact rp_int
theorem ji_range {tg a : Expr} {ms : MA} {p : Pos} (hg : Gl X "range") (hm : X.mg "range" = none) (ha : JA T W X [a] ms) (hs : starEach [a] X.env = [(false, eval a X.env)] := by rfl) : JI T W X tg (.Call (.Name "range" p) [a] [] pos) (mItR ms) :=
  pi_imp (pi_range1 hg hm ha hs) fun σ H R ⟨B0, F, B, g, ss, ts, tv, r', ss', hl, fr, e, p⟩ => by
    rcases bnd_ok e with ⟨as, s1, e1, e2⟩ | ⟨x, e1, rfl⟩
    · obtain ⟨res, e5, rfl, rfl⟩ := lft_ok e2
      refine ⟨B0, F, B, g, ss, ts, tv, .ok as, ss', hl, fr, e1, fun vs B1 H1 hv x1 fr1 => ?_⟩
      unfold iR at e5
      split at e5
      · rename_i j md
        split at e5
        · rename_i hj
          have hj := rngOk_iff.mp hj
          have hj : j < 2 ^ 62 ∧ -(2 ^ 62) ≤ j := ⟨by omega, by omega⟩
          cases e5
          obtain ⟨v, rfl, fr2⟩ := arg1 hv fr1
          obtain ⟨x, ex, r⟩ := fr2.rd
          cases ex
          simp only [Rp] at r
          subst r
          exact ⟨j, rfl, hj.2, hj.1, p _ [] [] B1 H1 rfl (fun e he => by cases he) feed_range x1 fr2.popD⟩
        · cases e5
      · cases e5
    · exact ⟨B0, F, B, g, ss, ts, tv, .er x, ss', hl, fr, e1, p⟩
/-- enumerate(xs) -/
def enm (ds : List D) : List D := (List.range ds.length).zipWith (fun i d => D.tup [.int ((i : Nat) : Int), d]) ds
def iE : List Dm → Option (List D)
  | [(.lst ds, .sh)] => some (enm ds)
  | _ => none
def mItE (ms : MA) : MI := bnd ms fun as => lft (iE as)
theorem feed_enum {ds : List D} {a : Addr} : Feed K (Ite K a) (enm ds) [some (.lst ds, .sh)] [some (.ref a)] where
  go := fun i fr hi => by
    obtain ⟨a', xs, e1, e2, e3⟩ := fr.lstAt
    cases e1
    have hi : i < ds.length := by simpa [enm] using hi
    exact ⟨xs, xs[i]'(by rw [e3.len]; exact hi), SqL.of e2, by simp [e3.len, hi]⟩
  stop := fun i fr hi => by
    obtain ⟨a', xs, e1, e2, e3⟩ := fr.lstAt
    cases e1
    have hi : ds.length ≤ i := by simpa [enm] using hi
    exact ⟨xs, SqL.of e2, by rw [e3.len]; exact hi⟩
  yld := fun i d x H' fr hd y => by
    obtain ⟨t, y1, rfl, ht, rfl, y⟩ := y
    obtain ⟨a', xs, e1, e2, e3⟩ := fr.lstAt
    cases e1
    unfold enm at hd
    rw [List.getElem?_zipWith] at hd
    cases hr : (List.range ds.length)[i]? with
    | none => rw [hr] at hd; simp at hd
    | some j =>
      cases hdi : ds[i]? with
      | none => rw [hr, hdi] at hd; simp at hd
      | some d0 =>
        rw [hr, hdi] at hd
        simp only [Option.some.injEq] at hd
        subst hd
        have hj : j = i := by
          rw [List.getElem?_range (List.getElem?_eq_some_iff.mp hdi).1] at hr
          cases hr; rfl
        subst hj
        obtain ⟨v, hv, rv⟩ := e3.get hdi
        have := y xs (SqL.of e2)
        rw [hv] at this
        cases this
        exact ⟨_, Ex.new ht, fr.newT (ds := [.int ((j : Nat) : Int), d0]) (xs := [.int ((j : Nat) : Int), y1]) (Rps.cons rp_int (Rps.one rv)) ht⟩
theorem ji_enum {a : Expr} {ms : MA} {p tpos : Pos} {elts : List Expr} {kk : Nat} (hg : Gl X "enumerate") (hm : X.mg "enumerate" = none) (ha : JA T W X [a] ms) (hs : starEach [a] X.env = [(false, eval a X.env)] := by rfl) : JI T W X (.Tuple elts kk tpos) (.Call (.Name "enumerate" p) [a] [] pos) (mItE ms) :=
  pi_imp (pi_enum hg hm ha hs) fun σ H R ⟨B0, F, B, g, ss, ts, tv, r', ss', hl, fr, e, p⟩ => by
    rcases bnd_ok e with ⟨as, s1, e1, e2⟩ | ⟨x, e1, rfl⟩
    · obtain ⟨res, e5, rfl, rfl⟩ := lft_ok e2
      refine ⟨B0, F, B, g, ss, ts, tv, .ok as, ss', hl, fr, e1, fun vs B1 H1 hv x1 fr1 => ?_⟩
      unfold iE at e5
      split at e5
      · rename_i ds
        cases e5
        obtain ⟨v, rfl, fr2⟩ := arg1 hv fr1
        obtain ⟨a, xs, rfl, h2, h3⟩ := fr2.lstAt
        exact ⟨a, xs, rfl, SqL.of h2, p _ [some (.lst _, .sh)] [some (.ref a)] B1 H1 rfl (fun e he => by simp at he; subst he; rfl) feed_enum x1 fr2⟩
      · cases e5
    · exact ⟨B0, F, B, g, ss, ts, tv, .er x, ss', hl, fr, e1, p⟩
/-- zip(xs, ys) -/
def iZ : List Dm → Option (List D)
  | [(.lst ds, .sh), (.lst fs, .sh)] => some (ds.zipWith (fun d f => D.tup [d, f]) fs)
  | _ => none
def mItZ (ms : MA) : MI := bnd ms fun as => lft (iZ as)
theorem feed_zip {ds fs : List D} {a b : Addr} : Feed K (Itz K a b) (ds.zipWith (fun d f => D.tup [d, f]) fs) [some (.lst ds, .sh), some (.lst fs, .sh)] [some (.ref a), some (.ref b)] where
  go := fun i fr hi => by
    obtain ⟨a', xs, e1, e2, e3⟩ := fr.lstAt
    cases e1
    obtain ⟨b', ys, e1, e4, e5⟩ := fr.popD.lstAt
    cases e1
    have hi : i < ds.length ∧ i < fs.length := by simpa [Nat.lt_min] using hi
    exact ⟨xs, ys, xs[i]'(by rw [e3.len]; exact hi.1), ys[i]'(by rw [e5.len]; exact hi.2), SqL.of e2, SqL.of e4, by simp [e3.len, hi.1], by simp [e5.len, hi.2]⟩
  stop := fun i fr hi => by
    obtain ⟨a', xs, e1, e2, e3⟩ := fr.lstAt
    cases e1
    obtain ⟨b', ys, e1, e4, e5⟩ := fr.popD.lstAt
    cases e1
    have hi : ds.length ≤ i ∨ fs.length ≤ i := by
      have : min ds.length fs.length ≤ i := by simpa using hi
      omega
    exact ⟨xs, ys, SqL.of e2, SqL.of e4, by rw [e3.len, e5.len]; exact hi⟩
  yld := fun i d x H' fr hd y => by
    obtain ⟨t, y1, y2, rfl, ht, rfl, q1, q2⟩ := y
    obtain ⟨a', xs, e1, e2, e3⟩ := fr.lstAt
    cases e1
    obtain ⟨b', ys, e1, e4, e5⟩ := fr.popD.lstAt
    cases e1
    rw [List.getElem?_zipWith] at hd
    cases hr : ds[i]? with
    | none => rw [hr] at hd; simp at hd
    | some d1 =>
      cases hdi : fs[i]? with
      | none => rw [hr, hdi] at hd; simp at hd
      | some d2 =>
        rw [hr, hdi] at hd
        simp only [Option.some.injEq] at hd
        subst hd
        obtain ⟨v, hv, rv⟩ := e3.get hr
        obtain ⟨u, hu, ru⟩ := e5.get hdi
        have h1 := q1 xs (SqL.of e2)
        have h2 := q2 ys (SqL.of e4)
        rw [hv] at h1
        rw [hu] at h2
        cases h1
        cases h2
        exact ⟨_, Ex.new ht, fr.newT (ds := [d1, d2]) (xs := [y1, y2]) (Rps.cons rv (Rps.one ru)) ht⟩
theorem ji_zip {a b : Expr} {ms : MA} {p tpos : Pos} {elts : List Expr} {kk : Nat} (hg : Gl X "zip") (hm : X.mg "zip" = none) (ha : JA T W X [a, b] ms)
    (hs : starEach [a, b] X.env = (false, eval a X.env) :: starEach [b] X.env := by rfl) (hpl : (backTo pos (starEach [b] X.env)).any (·.1) = false := by rfl) : JI T W X (.Tuple elts kk tpos) (.Call (.Name "zip" p) [a, b] [] pos) (mItZ ms) :=
  pi_imp (pi_zip hg hm ha hs hpl) fun σ H R ⟨B0, F, B, g, ss, ts, tv, r', ss', hl, fr, e, p⟩ => by
    rcases bnd_ok e with ⟨as, s1, e1, e2⟩ | ⟨x, e1, rfl⟩
    · obtain ⟨res, e5, rfl, rfl⟩ := lft_ok e2
      refine ⟨B0, F, B, g, ss, ts, tv, .ok as, ss', hl, fr, e1, fun vs B1 H1 hv x1 fr1 => ?_⟩
      unfold iZ at e5
      split at e5
      · rename_i ds fs
        cases e5
        obtain ⟨v, w, rfl, fr2⟩ := arg2 hv fr1
        obtain ⟨a, xs, rfl, h2, h3⟩ := fr2.lstAt
        obtain ⟨b, ys, rfl, h4, h5⟩ := fr2.popD.lstAt
        exact ⟨a, b, xs, ys, rfl, SqL.of h2, SqL.of h4, p _ [some (.lst _, .sh), some (.lst _, .sh)] [some (.ref a), some (.ref b)] B1 H1 rfl (fun e he => by simp at he; rcases he with rfl | rfl <;> rfl) feed_zip x1 fr2⟩
      · cases e5
    · exact ⟨B0, F, B, g, ss, ts, tv, .er x, ss', hl, fr, e1, p⟩
end
end Ve

set_option Elab.async false
set_option linter.all false
set_option maxRecDepth 100000
set_option maxHeartbeats 1000000
namespace Ve
open PySem PySem.Spec PyProof.Rows L2

section
variable {K : PySem.W.Frag} {T : Nat → Value} {W : WX} {X : Cx} {B0 F B H H' B' : Hp} {g g' : List Addr} {ss ts es es' l : SS} {tv vs vs' w : List (Option V)} {σ : L2.St} {pos : Pos} {a b c e : Expr} {ma mb mc m : ME}
/-! ## for -/
def lpR (o : Option SO) (k : SS → Option SO) : Option SO := match o with
  | some (.nx s) => if nbB s then k s else none
  | some (.ct s) => if nbB s then k s else none
  | some (.bk s) => some (.nx s)
  | some (.rt v s) => some (.rt v s)
  | some (.er x s) => some (.er x s)
  | none => none
def forL (mg : MG) (body : MS) : List D → SS → Option SO
  | [], ss => some (.nx ss)
  | d :: ds, ss => (mg (d, .sh) ss).bind fun s1 => if nbB s1 then lpR (body s1) (forL mg body ds) else none
def mFor (mi : MI) (mg : MG) (body : MS) : MS := fun ss => match mi ss with
  | some (.ok items, s1) => if nbB s1 then forL mg body items s1 else none
  | some (.er x, s1) => some (.er x s1)
  | none => none
theorem drop_at {α : Type} {l : List α} {i : Nat} (h : i < l.length) : l.drop i = l[i] :: l.drop (i + 1) := List.drop_eq_getElem_cons h
theorem js_for {iter tg : Expr} {body : List Stmt} {mi : MI} {mg : MG} {mb : MS} {ix : List Nat} (hp : PassesOwn (model X.prog X.w) X.A X.env X.xe) (hc : X.calm = true) (hi : JI T W X tg iter mi) (hg : JG X ix tg mg) (hb : JB T W X body mb)
    (hs : ∀ x, foldedSetIterable iter X.env x = pure x := by intro _; rfl) : JS T W X (.For tg iter body [] pos) (mFor mi mg mb) :=
  ps_imp (ps_for hp hc hi hg hb hs) fun D σ H ⟨B0, F, B, g, ss, ts, tv, o, hl, nb, nbs', fr, e, p⟩ => by
    unfold mFor at e
    split at e
    · rename_i items s1 e1
      split at e
      · rename_i n1
        refine ⟨B0, F, B, g, ss, ts, tv, .ok items, s1, hl, fr, e1, fun J tt tw B1 H1 ht nt fd x1 fr1 => ?_⟩
        have hl2 : (tt ++ ts).length = (tw ++ tv).length := by simp [ht, hl]
        refine ⟨fun i m σ H => m = items.length - i ∧ i ≤ items.length ∧ ∃ B s, nbs s ∧ Fr X.K B0 F B H g (tt ++ (ts ++ s)) (tw ++ (tv ++ σ)) ∧ forL mg mb (items.drop i) s = some o, ⟨items.length, by simp, Nat.zero_le _, B1, s1, nbB_ok n1, fr1, e⟩, ?_⟩
        rintro i m σ2 H2 ⟨rfl, hi, B2, s2, ns2, fr2, e2⟩
        by_cases hlt : i < items.length
        · rw [drop_at hlt] at e2
          obtain ⟨s3, e3, e4⟩ := obind (show (mg (items[i], .sh) s2).bind (fun s1 => if nbB s1 then lpR (mb s1) (forL mg mb (items.drop (i + 1))) else none) = some o from e2)
          split at e4
          · rename_i n3
            refine .inr ⟨fd.go i fr2 hlt, fun σ' H' => ∃ B s, nbs s ∧ Fr X.K B0 F B H' g (tt ++ (ts ++ s)) (tw ++ (tv ++ σ')) ∧ forL mg mb (items.drop (i + 1)) s = some o, ?_, fun x H3 y => ?_⟩
            · rintro σ' H' ⟨B', s, z⟩
              exact ⟨items.length - (i + 1), by omega, rfl, hlt, B', s, z⟩
            · obtain ⟨B3, x3, fr3⟩ := fd.yld i items[i] x H3 fr2 (by simp [hlt]) y
              refine ⟨B0, F, B3, g, s2, tt ++ ts, tw ++ tv, (items[i], .sh), s3, hl2, by rw [List.append_assoc, List.append_assoc]; exact fr3, e3, fun σ' B4 _ fr4 => ?_⟩
              cases hb2 : mb s3 with
              | none => rw [hb2] at e4; cases e4
              | some o2 =>
                rw [hb2] at e4
                refine ⟨B0, F, B4, g, s3, tt ++ ts, tw ++ tv, o2, hl2, nbs_app nt nb, nbB_ok n3, fr4, hb2, ?_⟩
                cases o2 with
                | nx s =>
                  replace e4 : (if nbB s then forL mg mb (items.drop (i + 1)) s else none) = some o := e4
                  split at e4
                  · rename_i n5
                    intro σ5 B5 H5 fr5
                    exact ⟨B5, s, nbB_ok n5, by rw [← List.append_assoc, ← List.append_assoc]; exact fr5, e4⟩
                  · cases e4
                | ct s =>
                  replace e4 : (if nbB s then forL mg mb (items.drop (i + 1)) s else none) = some o := e4
                  split at e4
                  · rename_i n5
                    intro σ5 B5 H5 fr5
                    exact ⟨B5, s, nbB_ok n5, by rw [← List.append_assoc, ← List.append_assoc]; exact fr5, e4⟩
                  · cases e4
                | bk s =>
                  cases e4
                  intro σ5 B5 H5 fr5
                  rw [List.append_assoc, List.append_assoc] at fr5
                  exact p σ5 B5 H5 (fr5.skip ht)
                | rt v s =>
                  cases e4
                  intro v5 σ5 B5 H5 fr5
                  rw [List.append_assoc, List.append_assoc] at fr5
                  exact p v5 σ5 B5 H5 (Fr.mid (l := [some v]) (w := [some v5]) rfl ht fr5)
                | er x s =>
                  cases e4
                  intro σ'
                  exact PErr.drops (p σ') ht
          · cases e4
        · have hi2 : i = items.length := by omega
          subst hi2
          rw [List.drop_length] at e2
          cases e2
          exact .inl ⟨fd.stop _ fr2 (Nat.le_refl _), p σ2 B2 H2 (fr2.skip ht)⟩
      · cases e
    · rename_i x s1 e1
      cases e
      exact ⟨B0, F, B, g, ss, ts, tv, .er x, s1, hl, fr, e1, p σ⟩
    · cases e
/-! ## while -/
def whL (t : MT) (body : MS) : Nat → SS → Option SO
  | 0, _ => none
  | n + 1, ss => sT t (fun b s1 => if b then lpR (body s1) (whL t body n) else some (.nx s1)) ss
def mWhile (fuel : SS → Nat) (t : MT) (body : MS) : MS := fun ss => whL t body (fuel ss) ss
theorem js_while {c : Expr} {body : List Stmt} {t : MT} {mb : MS} (fuel : SS → Nat) (hp : PassesOwn (model X.prog X.w) X.A X.env X.xe) (hc : JT T W X c t) (hb : JB T W X body mb) : JS T W X (.While c body [] pos) (mWhile fuel t mb) :=
  ps_imp (ps_while hp hc hb) fun D σ H ⟨B0, F, B, g, ss, ts, tv, o, hl, nb, nbs', fr, e, p⟩ => by
    refine ⟨fun n σ H => ∃ B s, nbs s ∧ Fr X.K B0 F B H g (ts ++ s) (tv ++ σ) ∧ whL t mb n s = some o, ⟨fuel ss, B, ss, nbs', fr, e⟩, ?_⟩
    rintro n σ1 H1 ⟨B1, s1, ns1, fr1, e1⟩
    cases n with
    | zero => cases e1
    | succ n =>
      rcases sT_ok e1 with ⟨b, s2, e2, n2, e3⟩ | ⟨x, s2, e2, rfl⟩
      · refine ⟨B0, F, B1, g, s1, ts, tv, .ok b, s2, hl, fr1, e2, fun B2 H2 x2 fr2 => ?_⟩
        cases b with
        | true =>
          refine iteT ⟨fun σ' H' => ∃ B s, nbs s ∧ Fr X.K B0 F B H' g (ts ++ s) (tv ++ σ') ∧ whL t mb n s = some o, fun σ' H' ⟨B', s, z⟩ => ⟨n, Nat.lt_succ_self n, B', s, z⟩, ?_⟩
          replace e3 : lpR (mb s2) (whL t mb n) = some o := e3
          cases hb2 : mb s2 with
          | none => rw [hb2] at e3; cases e3
          | some o2 =>
            rw [hb2] at e3
            refine ⟨B0, F, B2, g, s2, ts, tv, o2, hl, nb, n2, fr2, hb2, ?_⟩
            cases o2 with
            | nx s =>
              replace e3 : (if nbB s then whL t mb n s else none) = some o := e3
              split at e3
              · rename_i n5
                intro σ5 B5 H5 fr5
                exact ⟨B5, s, nbB_ok n5, fr5, e3⟩
              · cases e3
            | ct s =>
              replace e3 : (if nbB s then whL t mb n s else none) = some o := e3
              split at e3
              · rename_i n5
                intro σ5 B5 H5 fr5
                exact ⟨B5, s, nbB_ok n5, fr5, e3⟩
              · cases e3
            | bk s =>
              cases e3
              exact p
            | rt v s =>
              cases e3
              exact p
            | er x s =>
              cases e3
              exact p
        | false =>
          cases e3
          exact iteF (p σ1 B2 H2 fr2)
      · exact ⟨B0, F, B1, g, s1, ts, tv, .er x, s2, hl, fr1, e2, p σ1⟩

/-! ## comprehensions -/
def wipeS : SS → List Nat → SS
  | ss, [] => ss
  | ss, v :: vs => (wipeS ss vs).set v none
theorem wipeS_len : ∀ (vs : List Nat) (ss : SS), (wipeS ss vs).length = ss.length
  | [], ss => rfl
  | v :: vs, ss => by unfold wipeS; rw [List.length_set, wipeS_len vs ss]
theorem wipeS_at : ∀ (vs : List Nat) (ss : SS) (v : Nat), v ∈ vs → v < ss.length → (wipeS ss vs)[v]? = some none
  | u :: vs, ss, v, h, hv => by
    unfold wipeS
    by_cases e : u = v
    · subst e
      rw [List.getElem?_set_self (by rw [wipeS_len]; exact hv)]
    · rw [List.getElem?_set_ne e]
      exact wipeS_at vs ss v (by rcases List.mem_cons.mp h with h | h; exact absurd h.symm e; exact h) hv
theorem Fr.wipe (hl : ts.length = tv.length) : ∀ {vs : List Nat}, Fr K B0 F B H g (ts ++ ss) (tv ++ σ) → Fr K B0 F B H g (ts ++ wipeS ss vs) (tv ++ L2.wipe σ vs)
  | [], h => h
  | v :: vs, h => by
    have ih := Fr.wipe hl (vs := vs) h
    unfold wipeS L2.wipe
    by_cases hv : v < (wipeS ss vs).length
    · exact ih.noneS hl hv none
    · have e1 : (wipeS ss vs).set v none = wipeS ss vs := List.set_eq_of_length_le (by omega)
      have e2 : (L2.wipe σ vs).set v none = L2.wipe σ vs := List.set_eq_of_length_le (by
        have := ih.len
        simp only [List.length_append] at this
        omega)
      rw [e1, e2]
      exact ih
theorem Fr.unwipe (hl : ts.length = tv.length) : ∀ {vs : List Nat} {σ : L2.St}, (∀ v ∈ vs, v < ss.length → ss[v]? = some none) → Fr K B0 F B H g (ts ++ ss) (tv ++ L2.wipe σ vs) → Fr K B0 F B H g (ts ++ ss) (tv ++ σ)
  | [], σ, _, h => h
  | v :: vs, σ, k, h => by
    refine Fr.unwipe hl (vs := vs) (fun u hu => k u (List.mem_cons_of_mem _ hu)) ?_
    unfold L2.wipe at h
    by_cases hv : v < ss.length
    · have q := k v List.mem_cons_self hv
      have hlen := h.len
      simp only [List.length_append, List.length_set] at hlen
      have hv2 : v < (L2.wipe σ vs).length := by omega
      have h2 := h.noneS hl hv ((L2.wipe σ vs)[v])
      rw [set_same q, List.set_set] at h2
      rw [set_same (by simp [hv2])] at h2
      exact h2
    · have hlen := h.len
      simp only [List.length_append, List.length_set] at hlen
      rw [List.set_eq_of_length_le (by omega)] at h
      exact h
/-- one turn of a comprehension: what it makes, the slots behind it -/
def compT (em : Md) (own : List Nat) (mg : MG) (cond : MT) (elt : ME) (d : D) (ss : SS) : Option (Option D × SS) := (mg (d, .sh) ss).bind fun s1 => match cond s1 with
    | some (.ok true, s2) => (match elt s2 with
      | some (.ok a, s3) => (keepD a).bind fun b => if b.2.beq em && nbB (wipeS s3 own) then some (some b.1, wipeS s3 own) else none
      | _ => none)
    | some (.ok false, s2) => if nbB (wipeS s2 own) then some (none, wipeS s2 own) else none
    | _ => none
/-- the turns: what is made so far, the slots -/
def compL (em : Md) (own : List Nat) (mg : MG) (cond : MT) (elt : ME) : List D → List D → SS → Option (List D × SS)
  | [], acc, ss => some (acc, ss)
  | d :: ds, acc, ss => (compT em own mg cond elt d ss).bind fun r => compL em own mg cond elt ds (acc ++ r.1.toList) r.2
def mComp (em : Md) (own : List Nat) (mi : MI) (mg : MG) (cond : MT) (elt : ME) : ME := fun ss => match mi ss with
  | some (.ok items, s1) => if nbB (wipeS s1 own) && em.nb && decide (items.length ≤ lim) then (compL em own mg cond elt items [] (wipeS s1 own)).map fun r => (.ok (.lst r.1, .ow em), r.2) else none
  | some (.er x, s1) => some (.er x, s1)
  | none => none
abbrev W0 : WX := fun _ _ _ _ => False
def mYes : MT := ret true
theorem compL_own {em : Md} {own : List Nat} {mg : MG} {cond : MT} {elt : ME} : ∀ {items acc acc' : List D} {s s' : SS}, (∀ v ∈ own, v < s.length → s[v]? = some none) → compL em own mg cond elt items acc s = some (acc', s') → ∀ v ∈ own, v < s'.length → s'[v]? = some none
  | [], acc, acc', s, s', k, h => by
    cases h
    exact k
  | d :: ds, acc, acc', s, s', k, h => by
    obtain ⟨⟨o1, s0⟩, e0, e9⟩ := obind (show (compT em own mg cond elt d s).bind _ = some (acc', s') from h)
    refine compL_own ?_ e9
    obtain ⟨s1, e1, e2⟩ := obind (show (mg (d, .sh) s).bind _ = some (o1, s0) from e0)
    split at e2
    · split at e2
      · obtain ⟨b, e3, e4⟩ := obind e2
        split at e4
        · cases e4
          exact fun v hv hl => wipeS_at own _ v hv (by rw [wipeS_len] at hl; exact hl)
        · cases e4
      · cases e2
    · split at e2
      · cases e2
        exact fun v hv hl => wipeS_at own _ v hv (by rw [wipeS_len] at hl; exact hl)
      · cases e2
    · cases e2
theorem wipe_idem (σ : L2.St) : ∀ vs : List Nat, L2.wipe (L2.wipe σ vs) vs = L2.wipe σ vs
  | [] => rfl
  | v :: vs => by
    show (L2.wipe ((L2.wipe σ vs).set v none) vs).set v none = (L2.wipe σ vs).set v none
    by_cases h : v ∈ vs
    · rw [wipe_set h, wipe_idem σ vs]
    · have gen : ∀ {ix : List Nat} {σ : L2.St}, v ∉ ix → L2.wipe (σ.set v none) ix = (L2.wipe σ ix).set v none := fun {ix} => by
        induction ix with
        | nil => intro σ _; rfl
        | cons k ix ih =>
          intro σ hk
          unfold L2.wipe
          rw [ih fun z => hk (List.mem_cons_of_mem _ z)]
          exact List.set_comm _ _ fun z => hk (by rw [z]; exact List.mem_cons_self)
      rw [gen h, List.set_set, wipe_idem σ vs]
theorem t_lc {K : PySem.W.Frag} {em : Md} {own : List Nat} {mi : MI} {mg : MG} {cond : MT} {elt : ME} (σ : L2.St) (H : Hp) (Q : VK) (h : tE K T W (mComp em own mi mg cond elt) σ H Q) :
    tLc (tI K T W mi) (gM K own mg) (tT K T W0 cond) (tE K T W0 elt) own σ H Q := by
  obtain ⟨B0, F, B, g, ss, ts, tv, r', ss', hl, fr, e, p⟩ := h
  unfold mComp at e
  split at e
  · rename_i items s1 e1
    split at e
    · rename_i n1
      simp only [Bool.and_eq_true, decide_eq_true_eq] at n1
      obtain ⟨n1, n0⟩ := n1
      cases hc : compL em own mg cond elt items [] (wipeS s1 own) with
      | none => rw [hc] at e; cases e
      | some r =>
        obtain ⟨accF, sF⟩ := r
        rw [hc] at e
        cases e
        refine ⟨B0, F, B, g, ss, ts, tv, .ok items, s1, hl, fr, e1, fun J tt tw B1 H1 ht nt fd x1 fr1 p0 hp0 => ?_⟩
        have hl2 : (tt ++ ts).length = (tw ++ tv).length := by simp [ht, hl]
        have hl3 : (tt ++ strip ts).length = (tw ++ tv).length := by simp [ht, hl, strip_len]
        -- the loop's own state
        have own0 : ∀ v ∈ own, v < (wipeS s1 own).length → (wipeS s1 own)[v]? = some none := fun v hv hl => wipeS_at own s1 v hv (by rw [wipeS_len] at hl; exact hl)
        have fr1w := Fr.wipe (vs := own) hl2 (ss := s1) (σ := σ) (by rw [List.append_assoc, List.append_assoc]; exact fr1)
        have fr1s := Fr.strip (l := tt) (w := tw) ht hl (by rw [List.append_assoc, List.append_assoc] at fr1w; exact fr1w)
        have fr1a := fr1s.alloc (o := .lst []) hp0 trivial
        have fr1p := Fr.push (f := [p0]) (m := .ow em) (d := .lst []) (v := .ref p0) fr1a (Rv.ow_iff.mpr ⟨n1.2, [], p0, [], [], rfl, rfl, upd_same, rfl, rfl, rfl⟩)
        refine ⟨fun i m Hh => m = items.length - i ∧ i ≤ items.length ∧ Ex H1 Hh ∧ ∃ B s acc, nbs s ∧ acc.length ≤ i ∧ (∀ v ∈ own, v < s.length → s[v]? = some none) ∧
            Fr K B0 F B Hh g (some (.lst acc, .ow em) :: (tt ++ (strip ts ++ s))) (some (.ref p0) :: (tw ++ (tv ++ L2.wipe σ own))) ∧ compL em own mg cond elt (items.drop i) acc s = some (accF, sF),
          ⟨items.length, by simp, Nat.zero_le _, Ex.new hp0, B1, wipeS s1 own, [], nbB_ok n1.1, Nat.zero_le _, own0, fr1p, hc⟩, ?_⟩
        rintro i m H2 ⟨rfl, hi, x2, B2, s2, acc, ns2, la, own2, fr2, e2⟩
        have fr2' : Fr K B0 F B2 H2 g (tt ++ (some (.lst acc, .ow em) :: (strip ts ++ s2))) (tw ++ (some (.ref p0) :: (tv ++ L2.wipe σ own))) := Fr.back (l1 := tt) (w1 := tw) ht fr2
        by_cases hlt : i < items.length
        · rw [drop_at hlt] at e2
          obtain ⟨⟨o9, s9⟩, e0, e9⟩ := obind (show (compT em own mg cond elt items[i] s2).bind _ = some (accF, sF) from e2)
          obtain ⟨s3, e3, e4⟩ := obind (show (mg (items[i], .sh) s2).bind _ = some (o9, s9) from e0)
          refine .inr ⟨fd.go i fr2' hlt, fun H' => Ex H1 H' ∧ ∃ B s acc, nbs s ∧ acc.length ≤ i + 1 ∧ (∀ v ∈ own, v < s.length → s[v]? = some none) ∧
            Fr K B0 F B H' g (some (.lst acc, .ow em) :: (tt ++ (strip ts ++ s))) (some (.ref p0) :: (tw ++ (tv ++ L2.wipe σ own))) ∧ compL em own mg cond elt (items.drop (i + 1)) acc s = some (accF, sF), ?_, fun x H3 y => ?_⟩
          · rintro H' ⟨x', B', s, acc', z⟩
            exact ⟨items.length - (i + 1), by omega, rfl, hlt, x', B', s, acc', z⟩
          · obtain ⟨B3, x3, fr3⟩ := fd.yld i items[i] x H3 fr2' (by simp [hlt]) y
            have fr3' : Fr K B0 F B3 H3 g (some (items[i], .sh) :: ((some (.lst acc, .ow em) :: (tt ++ strip ts)) ++ s2)) (some x :: ((some (.ref p0) :: (tw ++ tv)) ++ L2.wipe σ own)) := by
              have q := Fr.front (l1 := some (items[i], .sh) :: tt) (w1 := some x :: tw) (by simp [ht]) fr3
              have q2 := Fr.back (l1 := [some (items[i], .sh)]) (w1 := [some x]) rfl q
              simpa [List.append_assoc] using q2
            have hl4 : (some (D.lst acc, Md.ow em) :: (tt ++ strip ts)).length = (some (V.ref p0) :: (tw ++ tv)).length := by simp [ht, hl, strip_len]
            refine ⟨B0, F, B3, g, s2, some (.lst acc, .ow em) :: (tt ++ strip ts), some (.ref p0) :: (tw ++ tv), (items[i], .sh), s3, hl4, fr3', e3, fun σ' B4 w4 fr4 => ⟨w4.trans (wipe_idem σ own), ?_⟩⟩
            have wσ : L2.wipe σ' own = L2.wipe σ own := w4.trans (wipe_idem σ own)
            -- behind a turn
            have fin : ∀ {B5 H5 : Hp} {s5 : SS} {acc' : List D}, Ex H1 H5 → acc'.length ≤ i + 1 → nbB (wipeS s5 own) = true → Fr K B0 F B5 H5 g ((some (.lst acc', .ow em) :: (tt ++ strip ts)) ++ s5) ((some (.ref p0) :: (tw ++ tv)) ++ σ') →
                compL em own mg cond elt (items.drop (i + 1)) acc' (wipeS s5 own) = some (accF, sF) → Ex H1 H5 ∧ ∃ B s acc, nbs s ∧ acc.length ≤ i + 1 ∧ (∀ v ∈ own, v < s.length → s[v]? = some none) ∧
                  Fr K B0 F B H5 g (some (.lst acc, .ow em) :: (tt ++ (strip ts ++ s))) (some (.ref p0) :: (tw ++ (tv ++ L2.wipe σ own))) ∧ compL em own mg cond elt (items.drop (i + 1)) acc s = some (accF, sF) := fun {B5 H5 s5 acc'} x5 l5 n5 fr5 e5 => by
              refine ⟨x5, B5, wipeS s5 own, acc', nbB_ok n5, l5, fun v hv hl => wipeS_at own s5 v hv (by rw [wipeS_len] at hl; exact hl), ?_, e5⟩
              have q := Fr.wipe (vs := own) (by simp [ht, hl, strip_len]) fr5
              rw [wσ] at q
              simpa [List.append_assoc] using q
            split at e4
            · rename_i s4 ec
              refine ⟨B0, F, B4, g, s3, some (.lst acc, .ow em) :: (tt ++ strip ts), some (.ref p0) :: (tw ++ tv), .ok true, s4, hl4, fr4, ec, fun B5 H5 x5 fr5 => iteT ?_⟩
              split at e4
              · rename_i a s5 ee
                obtain ⟨b, hk, e5⟩ := obind e4
                split at e5
                · rename_i n5
                  cases e5
                  simp only [Bool.and_eq_true] at n5
                  refine ⟨B0, F, B5, g, s4, some (.lst acc, .ow em) :: (tt ++ strip ts), some (.ref p0) :: (tw ++ tv), .ok a, s5, hl4, fr5, ee, fun y B6 H6 x6 fr6 => ?_⟩
                  obtain ⟨B7, fr7⟩ := fr6.keepD hk
                  have em1 := Md.eq_of _ _ n5.1
                  obtain ⟨y', fy, ey, ry, fr8⟩ := fr7.pop1
                  cases ey
                  rw [em1] at ry
                  obtain ⟨v1, f1, ev, rv1, fr9⟩ := Fr.pop1 (dm := (.lst acc, .ow em)) fr8
                  cases ev
                  obtain ⟨_, ds', q', xs, gg, z0, z1, z2, z3, z4⟩ := Rv.ow_iff.mp rv1
                  cases z0
                  cases z1
                  subst z3
                  refine ⟨xs, z2, by rw [z4.len]; exact Nat.lt_of_lt_of_le (Nat.lt_of_le_of_lt la hlt) (Nat.le_trans n0 lim_le), ?_⟩
                  rw [← List.append_assoc] at fr9
                  have nd := nodup_left fr9.nd
                  rw [List.cons_append] at nd fr9
                  have nq := (List.nodup_cons.mp nd).1
                  have kp : ∀ b ∈ gg ++ fy, ∀ o, H6 b = some o → upd H6 p0 (.lst (xs ++ [y])) b = some o := fun b hb o ho => by
                    rw [upd_ne (show b ≠ p0 from fun z => nq (by rw [← z]; exact hb))]
                    exact ho
                  have x7 : Ex H1 (upd H6 p0 (.lst (xs ++ [y]))) := fun b o ho => by
                    rw [upd_ne (ne_of_none ho hp0)]
                    exact x6 _ _ (x5 _ _ (x3 _ _ (x2 _ _ ho)))
                  have hl5 : (tt ++ strip ts).length = (tw ++ tv).length := by simp [ht, hl, strip_len]
                  have frw := Fr.wipe (vs := own) (ts := tt ++ strip ts) (tv := tw ++ tv) hl5 (ss := s5) (σ := σ') fr9
                  rw [wσ] at frw
                  have frx := frw.write (p := p0) (o := .lst (xs ++ [y])) (by simp) (nbs_app (nbs_app nt strip_nb) (nbB_ok n5.2)) trivial
                  have fry := Fr.push (f := p0 :: (gg ++ fy)) (d := .lst (acc ++ [b.1])) (m := .ow em) (v := .ref p0) frx (Rv.ow_iff.mpr ⟨n1.2, _, p0, xs ++ [y], gg ++ fy, rfl, rfl, upd_same, rfl,
                    All3.snoc (z4.imp fun d v f hf => Rv.keep (Ex.refl _) _ _ _ _ n1.2 fun b hb => kp b (List.mem_append_left _ (hf b hb))) (Rv.keep (Ex.refl _) _ _ _ _ n1.2 (fun b hb => kp b (List.mem_append_right _ hb)) ry)⟩)
                  refine ⟨x7, B7, wipeS s5 own, acc ++ [b.1], nbB_ok n5.2, by simp; exact la, fun v hv hl => wipeS_at own s5 v hv (by rw [wipeS_len] at hl; exact hl), ?_, e9⟩
                  simpa [List.append_assoc] using fry
                · cases e5
              · cases e4
            · rename_i s4 ec
              split at e4
              · rename_i n5
                refine ⟨B0, F, B4, g, s3, some (.lst acc, .ow em) :: (tt ++ strip ts), some (.ref p0) :: (tw ++ tv), .ok false, s4, hl4, fr4, ec, fun B5 H5 x5 fr5 => iteF ?_⟩
                cases e4
                exact fin (x2.trans (x3.trans x5)) (Nat.le_succ_of_le la) n5 fr5 (by simpa using e9)
              · cases e4
            · cases e4
        · have hi2 : i = items.length := by omega
          subst hi2
          rw [List.drop_length] at e2
          cases e2
          refine .inl ⟨fd.stop _ fr2' (Nat.le_refl _), ?_⟩
          have q := Fr.mid (l := [some (.lst accF, .ow em)]) (w := [some (.ref p0)]) rfl ht fr2
          have q2 := Fr.unstrip (l := [some (.lst accF, .ow em)]) (w := [some (.ref p0)]) x2 rfl hl (fr1.skip ht) q
          have q3 := Fr.unwipe (ts := some (.lst accF, .ow em) :: ts) (tv := some (.ref p0) :: tv) (by simp [hl]) own2 q2
          exact p (.ref p0) B2 H2 (x1.trans x2) q3
    · cases e
  · rename_i x s1 e1
    cases e
    exact ⟨B0, F, B, g, ss, ts, tv, .er x, ss', hl, fr, e1, p⟩
  · cases e
theorem je_lc {em : Md} {own : List Nat} {mi : MI} {mg : MG} {cond : MT} {elt : ME} {el tg iter : Expr} {ifs : List Expr} {scope : Scope} {ow : List (Str × Nat)} (hc : X.calm = true) (hN : X.N.Nodup) (hi : JI T W X tg iter mi) (ok : BlkOk X.N X.env.scope scope ow) (ho : ow.map (·.2) = own)
    (hg : ∀ (s : Shared) (H : Hp) (C : Addr) (cl : List (Str × Addr)) (fp : List Addr), JG (X.blk s H scope (compEnvC scope cl C X.env) fp) own tg mg) (ht : ∀ (s : Shared) (H : Hp) (C : Addr) (cl : List (Str × Addr)) (fp : List Addr), PTs (X.blk s H scope (compEnvC scope cl C X.env) fp) ifs (tT X.K T W0 cond))
    (he : ∀ (s : Shared) (H : Hp) (C : Addr) (cl : List (Str × Addr)) (fp : List Addr), JE T W0 (X.blk s H scope (compEnvC scope cl C X.env) fp) el elt) (hs : ∀ x, foldedSetIterable iter X.env x = pure x := by intro _; rfl) :
    JE T W X (.ListComp el [⟨tg, iter, ifs, 0⟩] scope pos) (mComp em own mi mg cond elt) := by
  subst ho
  exact pe_imp (pe_lc hc hN hi ok hg ht he hs) t_lc
theorem js_setLc {em : Md} {own : List Nat} {i : Nat} {y : Str} {py : Pos} {mi : MI} {mg : MG} {cond : MT} {elt : ME} {el tg iter : Expr} {ifs : List Expr} {scope : Scope} {ow : List (Str × Nat)} {spos : Pos} (hc : X.calm = true) (hN : X.N.Nodup) (hy : X.N[i]? = some y) (hyl : X.env.scope.names.lookup y = some .local)
    (hsw : swapsWith (.ListComp el [⟨tg, iter, ifs, 0⟩] scope pos) (some (.Name y py)) spos.line X.env = pure true) (hi : JI T W X tg iter mi) (ok : BlkOk X.N X.env.scope scope ow) (ho : ow.map (·.2) = own)
    (hg : ∀ (s : Shared) (H : Hp) (C : Addr) (cl : List (Str × Addr)) (fp : List Addr), JG (X.blk s H scope (compEnvC scope cl C X.env) fp) own tg mg) (ht : ∀ (s : Shared) (H : Hp) (C : Addr) (cl : List (Str × Addr)) (fp : List Addr), PTs (X.blk s H scope (compEnvC scope cl C X.env) fp) ifs (tT X.K T W0 cond))
    (he : ∀ (s : Shared) (H : Hp) (C : Addr) (cl : List (Str × Addr)) (fp : List Addr), JE T W0 (X.blk s H scope (compEnvC scope cl C X.env) fp) el elt) (hs : ∀ x, foldedSetIterable iter X.env x = pure x := by intro _; rfl) :
    JS T W X (.Assign [.Name y py] (.ListComp el [⟨tg, iter, ifs, 0⟩] scope pos) spos) (mSet i (mComp em own mi mg cond elt)) := by
  subst ho
  exact ps_imp (ps_setLc hc hN hy hyl hsw hi ok hg ht he hs) (t_set t_lc)
theorem pts_no {X : Cx} : PTs X [] (tT X.K T W0 mYes) := ⟨fun pins s σ H Q I h => pts_nil.run pins s σ H Q I (by
  obtain ⟨B0, F, B, g, ss, ts, tv, r', ss', hl, fr, e, p⟩ := h
  cases e
  exact p B H (Ex.refl _) fr)⟩
theorem pts_if {X : Cx} {c : Expr} {t : MT} (h : JT T W0 X c t) : PTs X [c] (tT X.K T W0 t) := pts_one h

/-! ## a def -/
def mFn (n z : Nat) (body : MS) : MF := fun ds => if ds.length = n then (match body (ds.map (fun d => some (d, .sh)) ++ List.replicate z none) with
  | some (.nx _) => some (.ok (.non, .sh))
  | some (.rt dm _) => if dm.2.nb then some (.ok dm) else none
  | some (.er x _) => some (.er x)
  | _ => none) else none
theorem Ss.init {z : Nat} : ∀ {ds : List D} {vs : List V}, Rps K B ds vs → Ss K B H (ds.map (fun d => some (d, .sh)) ++ List.replicate z none) (vs.map some ++ List.replicate z none) []
  | [], vs, h => by
    simp only [Rps] at h
    subst h
    have : ∀ z : Nat, Ss K B H (List.replicate z none) (List.replicate z none) [] := fun z => by
      induction z with
      | zero => exact ⟨rfl, rfl⟩
      | succ z ih => exact ⟨none, _, [], [], rfl, rfl, rfl, ih⟩
    exact this z
  | d :: ds, vs, h => by
    simp only [Rps] at h
    obtain ⟨v, r, k1, k2, k3⟩ := h
    subst k1
    exact ⟨some v, _, [], [], rfl, rfl, ⟨v, rfl, Rv.mksh k2⟩, Ss.init k3⟩
theorem nbs_init {z : Nat} {ds : List D} : nbs (ds.map (fun d => some (d, .sh)) ++ List.replicate z none) := fun e he => by
  rcases List.mem_append.mp he with h | h
  · obtain ⟨d, _, rfl⟩ := List.mem_map.mp h
    rfl
  · rw [(List.mem_replicate.mp h).2]
    rfl
theorem t_body {K : PySem.W.Frag} {T : Nat → Value} {N : List Str} {n z : Nat} {body : MS} {vs : List V} {H : Hp} {Q : VK} {E : L2.XK} (hz : N.length = n + z) (h : SpF K T n (mFn n z body) vs H Q E) :
    tS K T (fun cls d _ H => E cls d H) body { nx := fun _ H' => Q .non H', rt := Q } (L2.start N vs) H := by
  obtain ⟨B0, ds, r, ex, rp, hn, hf, p⟩ := h
  unfold mFn at hf
  rw [if_pos hn] at hf
  have hst : L2.start N vs = vs.map some ++ List.replicate z none := by
    unfold L2.start
    rw [rp.len, hn, hz, Nat.add_sub_cancel_left]
  have fr : Fr K B0 H B0 H [] ([] ++ (ds.map (fun d => some (d, .sh)) ++ List.replicate z none)) ([] ++ L2.start N vs) := by
    rw [hst]
    exact ⟨ex, Ex.refl _, Ex.refl _, fun a o q _ => .inl (by rw [q]; simp), [], Ss.init rp, List.nodup_nil, fun a ha => (nomatch ha)⟩
  cases hb : body (ds.map (fun d => some (d, .sh)) ++ List.replicate z none) with
  | none => rw [hb] at hf; cases hf
  | some o =>
    rw [hb] at hf
    refine ⟨B0, H, B0, [], _, [], [], o, rfl, fun e he => (nomatch he), nbs_init, fr, hb, ?_⟩
    cases o with
    | nx s =>
      cases hf
      intro σ' B' H' fr'
      exact p rfl .non B' H' (Fr.pre (l := [some (.non, .sh)]) (w := [some .non]) (es := s) (vs := σ') rfl (fr'.push0 (Rv.mksh rp_non)))
    | rt dm s =>
      replace hf : (if dm.2.nb then some (Rr.ok dm) else none) = some r := hf
      split at hf
      · rename_i n1
        cases hf
        intro v σ' B' H' fr'
        exact p n1 v B' H' (Fr.pre (l := [some dm]) (w := [some v]) (es := s) (vs := σ') rfl fr')
      · cases hf
    | er x s =>
      cases hf
      intro σ' cls dd xv B' H' hx fr' xr
      exact p cls dd xv B' H' hx (Fr.pre (l := x.es.map some) (w := xv.map some) (es := s) (vs := σ') (by simp [hx]) fr') xr
    | bk s => cases hf
    | ct s => cases hf
end
section
variable {P : Program} {w : World} {K : PySem.W.Frag} {mg : Str → Option Value} {base : Heap} {T : Nat → Value}
theorem okN {CX : CXT} {x qual : Str} {st : Stmt} {f : Addr} {fd : FuncData} {N ps : List Str} {k : Nat} {sp : Sp} (F : Fun K x qual st f fd) (S : FnScope N ps (defScope st)) (hl : ∀ vs H Q E, sp vs H Q E → vs.length = ps.length)
    (hb : ∀ (cdv : Value) (A : Around) (outer : List Env) (s : Shared) (H : Hp) (vs : List V) (Q : VK) (E : L2.XK), Room k (A.deeper (envOfC qual (defScope st) s.heap.objs.size f cdv)) → sp vs H Q E →
      ∃ t, PSs (cxOf CX P w K mg base N qual (defScope st) f cdv A outer s H E) (defBody st) t ∧ t { nx := fun _ H' => Q .non H', rt := Q } (L2.start N vs) H) :
    FnOk P w K mg base CX (k + 1) f fd ps sp := by
  have hx := F.ex
  rcases hx with ⟨c0, d0, v1, v2, v3, v4, v5, v6, sl, e1, e2, e3⟩
  subst e1
  exact fn_of e2 e3 S hl fun A outer s H vs Q E => hb v5 A outer s H vs Q E
theorem fn_ok {x qual : Str} {st : Stmt} {f : Addr} {fd : FuncData} {N ps : List Str} {k n z : Nat} {body : MS} (F : Fun K x qual st f fd) (S : FnScope N ps (defScope st)) (hp : ps.length = n) (hz : N.length = n + z)
    (hb : ∀ (cdv : Value) (A : Around) (outer : List Env) (s : Shared) (H : Hp) (E : L2.XK), Room k (A.deeper (envOfC qual (defScope st) s.heap.objs.size f cdv)) →
      JB T (fun cls d _ H => E cls d H) (cxOf (L2N.CX P w) P w K mg base N qual (defScope st) f cdv A outer s H E) (defBody st) body) : FnOk P w K mg base (L2N.CX P w) (k + 1) f fd ps (SpF K T n (mFn n z body)) :=
  okN F S (fun vs H Q E h => by rw [h.len, hp]) fun cdv A outer s H vs Q E hr h => ⟨_, hb cdv A outer s H E hr, t_body hz h⟩
/-- the wish of a def's body -/
theorem tkF {st : Stmt} {qual : Str} {N : List Str} {f : Addr} {cdv : Value} {A : Around} {outer : List Env} {s : Shared} {H : Hp} {E : L2.XK} : L2N.Takes (cxOf (L2N.CX P w) P w K mg base N qual (defScope st) f cdv A outer s H E) (fun cls d _ H => E cls d H) := L2N.takes_of rfl rfl rfl rfl
theorem takN {X : Cx} : L2N.Takes X (fun _ _ _ _ => False) := fun _ _ x => by
  obtain ⟨_, _, _, _, _, _, _, _, _, _, _, _, _, _, _, _, z⟩ := x
  exact z.elim
theorem poF {st : Stmt} {qual : Str} {N : List Str} {f : Addr} {cdv : Value} {A : Around} {outer : List Env} {s : Shared} {H : Hp} {E : L2.XK} : PassesOwn (model P w) (cxOf (L2N.CX P w) P w K mg base N qual (defScope st) f cdv A outer s H E).A (cxOf (L2N.CX P w) P w K mg base N qual (defScope st) f cdv A outer s H E).env (cxOf (L2N.CX P w) P w K mg base N qual (defScope st) f cdv A outer s H E).xe := passes_of (X := cxOf (L2N.CX P w) P w K mg base N qual (defScope st) f cdv A outer s H E) rfl
end
end Ve

set_option Elab.async false
set_option linter.all false
set_option maxRecDepth 100000
set_option maxHeartbeats 1000000
namespace Ve
open PySem PySem.Spec PyProof.Rows L2
theorem u64 {k : Nat} {A : Around} (r : Room k A) : A.units + 64 < cLine := r.units
theorem u65 {k : Nat} {A : Around} (r : Room k A) : A.units + 65 < cLine := by have := r.un; omega
end Ve
namespace Ve
open PySem PySem.Spec PyProof.Rows L2
/-- what is asked of the law -/
def spL (K : PySem.W.Frag) : Sp := fun vs H Q _ => ∃ (a : Addr) (ns : List Int), vs = [.ref a] ∧ FzL K H a (ns.map V.int) ∧ ns.length ≤ 63 ∧ ∀ H', Q (.bl true) H'
theorem spL_of {K : PySem.W.Frag} {T : Nat → Value} {m : MF} (lt : ∀ ns : List Int, ns.length ≤ 63 → m [.fz ns] = some (.ok (.bl true, .sh))) {vs : List V} {H : Hp} {Q : VK} {E : L2.XK} (h : spL K vs H Q E) : SpF K T 1 m vs H Q E := by
  obtain ⟨a, ns, rfl, hf, hl, q⟩ := h
  refine ⟨H, [.fz ns], .ok (.bl true, .sh), Ex.refl _, Rps.one (by simp only [Rp]; exact ⟨a, rfl, hf⟩), rfl, lt ns hl, fun _ v B H' fr => ?_⟩
  obtain ⟨x, e, r⟩ := fr.rd
  cases e
  simp only [Rp] at r
  subst r
  exact q H'
theorem spL_end {K : PySem.W.Frag} {H : Hp} {a : Addr} {ns : List Int} (hl : ns.length ≤ 63) (ho : Only H) (hs : SqL K H a (ns.map V.int)) : spL K [.ref a] H (fun v _ => v = .bl true) fun _ _ _ => False := by
  refine ⟨a, ns, rfl, ?_, hl, fun _ => rfl⟩
  rcases hs with (h | h) | h
  · rcases ho a with z | ⟨o, xs, z⟩
    · rw [h] at z; cases z
    · rw [h] at z; cases z
  · exact .inl h
  · exact .inr h
theorem cx_no {P : Program} {w : World} {outer : List Env} {H : Hp} {s : Shared} {e : Value} {s' : Shared} (h : L2N.CX P w outer H s (fun _ _ _ => False) e s') : False := by
  obtain ⟨_, _, _, _, _, _, _, _, _, _, _, _, z⟩ := h
  exact z
end Ve

set_option Elab.async false
set_option linter.all false
set_option maxRecDepth 100000
set_option maxHeartbeats 1000000
namespace Ve
open PySem PySem.Spec PyProof.Rows L2
/-! ## try .. except -/
/-- the class c stands under the class k (0 stands above all) -/
def subC (c k : Nat) : Bool := decide (c = k) || decide (k = 0)
/-- a clause: its class, its name's slot, its suite (of the exception's address and class) -/
structure Hd where
  c : Nat
  i : Option Nat
  ok : Exn → Bool
  b : Addr → Nat → MS
def namS : Option Nat → Addr → SS → SS
  | none, _, ss => ss
  | some i, a, ss => ss.set i (some (.ex a, .sh))
def clrS : Option Nat → SS → SS
  | none, ss => ss
  | some i, ss => ss.set i none
def SO.mapS (f : SS → SS) : SO → SO
  | .nx s => .nx (f s)
  | .rt d s => .rt d (f s)
  | .bk s => .bk (f s)
  | .ct s => .ct (f s)
  | .er x s => .er x (f s)
def SO.st : SO → SS
  | .nx s => s
  | .rt _ s => s
  | .bk s => s
  | .ct s => s
  | .er _ s => s
def Hd.run (h : Hd) (x : Exn) (ss : SS) (a : Addr) : Option SO := (h.b a x.c (namS h.i a ss)).bind fun o => if o.st.length = ss.length then some (SO.mapS (clrS h.i) o) else none
open Classical in
noncomputable def Hd.out (h : Hd) (x : Exn) (ss : SS) : Option SO := if ∀ a, h.run x ss a = h.run x ss 0 then h.run x ss 0 else none
noncomputable def mHds : List Hd → Exn → SS → Option SO
  | [], x, ss => some (.er x ss)
  | h :: hs, x, ss => if subC x.c h.c then (if h.ok x && nbB ss && decide (∀ i, h.i = some i → i < ss.length) then h.out x ss else none) else mHds hs x ss
noncomputable def mTry (mb : MS) (hs : List Hd) : MS := fun ss => match mb ss with
  | some (.er x s1) => if x.c ≤ 6 then mHds hs x s1 else none
  | r => r
theorem set_getD_self {α : Type} {d : α} : ∀ {l : List α} {i : Nat}, l.set i (l.getD i d) = l
  | [], _ => rfl
  | x :: l, 0 => rfl
  | x :: l, i + 1 => by simp only [List.set_cons_succ, List.getD_cons_succ, set_getD_self]
section
variable {T : Nat → Value} {W : WX} {X : Cx} {pos : Pos} {K : PySem.W.Frag} {B0 F B H : Hp} {g : List Addr} {ss ts : SS} {tv : List (Option V)} {σ : L2.St}
theorem Fr.clr {i : Nat} (hl : ts.length = tv.length) (h : Fr K B0 F B H g (ts ++ ss) (tv ++ σ)) (hi : i < ss.length) : Fr K B0 F B H g (ts ++ ss.set i none) (tv ++ σ) := by
  have := Fr.noneS hl h hi (σ.getD i none)
  rwa [set_getD_self] at this
/-- what a suite leaves, the name's slot cleared -/
theorem PostS.clr {D : Ends} {i : Nat} {o : SO} (hl : ts.length = tv.length) (hi : i < o.st.length)
    (p : PostS K T B0 F g ts tv W D (SO.mapS (clrS (some i)) o)) :
    PostS K T B0 F g ts tv W { nx := fun σ' H' => D.nx (σ'.set i none) H', rt := D.rt, bk := fun σ' H' => D.bk (σ'.set i none) H', ct := fun σ' H' => D.ct (σ'.set i none) H' } o := by
  cases o with
  | nx s => exact fun σ' B' H' fr => p _ B' H' (Fr.noneS hl fr hi none)
  | bk s => exact fun σ' B' H' fr => p _ B' H' (Fr.noneS hl fr hi none)
  | ct s => exact fun σ' B' H' fr => p _ B' H' (Fr.noneS hl fr hi none)
  | rt d s => exact fun v σ' B' H' fr => p v σ' B' H' (Fr.clr (ts := some d :: ts) (tv := some v :: tv) (by simp [hl]) fr hi)
  | er x s => exact fun σ' cls dd xv B' H' hx fr xr => p σ' cls dd xv B' H' hx (by
      have := Fr.clr (ss := s) (ts := x.es.map some ++ ts) (tv := xv.map some ++ tv) (i := i) (by simp [hl, hx]) (by simpa using fr) hi
      simpa [clrS] using this) xr
end
section
variable {T : Nat → Value} {W : WX} {X : Cx} {pos : Pos} {K : PySem.W.Frag} {B0 F B H : Hp} {g : List Addr} {ss ts : SS} {tv : List (Option V)} {σ : L2.St}
theorem Hd.out_ok {h : Hd} {x : Exn} {o : SO} (e : h.out x ss = some o) (a : Addr) : ∃ o', h.b a x.c (namS h.i a ss) = some o' ∧ o'.st.length = ss.length ∧ o = SO.mapS (clrS h.i) o' := by
  unfold Hd.out at e
  split at e
  · rename_i k
    rw [← k a] at e
    obtain ⟨o', e1, e2⟩ := obind e
    split at e2
    · rename_i hl
      cases e2
      exact ⟨o', e1, hl, rfl⟩
    · cases e2
  · cases e
/-- what a suite's derivation tells -/
def tsH (K : PySem.W.Frag) (T : Nat → Value) (W : WX) (h : Hd) : Addr → Value → Option Addr → TS := fun a cls d D σ H => ∃ x : Exn, x.c ≤ 6 ∧ T x.c ≠ .none ∧ h.ok x = true ∧ cls = T x.c ∧ (x.ks = [] → d = none) ∧ tS K T W (h.b a x.c) D σ H
theorem try_mb {D : Ends} {mb : MS} {hs : List Hd} {W' : WX} (h : tS K T W (mTry mb hs) D σ H)
    (k : ∀ (B0 F : Hp) (g : List Addr) (ts : SS) (tv : List (Option V)) (x : Exn) (s1 : SS) (o : SO), ts.length = tv.length → nbs ts → x.c ≤ 6 → mHds hs x s1 = some o → PostS K T B0 F g ts tv W D o → ∀ (σ' : L2.St) (cls : Value) (dd : Option Addr) (B' H' : Hp), cls = T x.c → T x.c ≠ .none → (x.ks = [] → dd = none) →
      (o = .er x s1 → W cls dd σ' H') → Fr K B0 F B' H' g (ts ++ s1) (tv ++ σ') → W' cls dd σ' H') : tS K T W' mb D σ H := by
  obtain ⟨B0, F, B, g, ss, ts, tv, o, hl, nb, nbs', fr, e, p⟩ := h
  unfold mTry at e
  cases hb : mb ss with
  | none => rw [hb] at e; cases e
  | some ob =>
    rw [hb] at e
    refine ⟨B0, F, B, g, ss, ts, tv, ob, hl, nb, nbs', fr, hb, ?_⟩
    cases ob with
    | nx s => cases e; exact p
    | rt d s => cases e; exact p
    | bk s => cases e; exact p
    | ct s => cases e; exact p
    | er x s1 =>
      have e : (if x.c ≤ 6 then mHds hs x s1 else none) = some o := e
      split at e
      · rename_i hc
        intro σ' cls dd xv B' H' hx fr' xr
        refine k B0 F g ts tv x s1 o hl nb hc e p σ' cls dd B' H' xr.1 xr.2.2.2 xr.2.1 (fun eo => ?_) (Fr.dropN hx fr')
        subst eo
        exact p σ' cls dd xv B' H' hx fr' xr
      · cases e
/-- the suite is run -/
theorem hd_suite {D : Ends} {h : Hd} {x : Exn} {o : SO} {i : Nat} (hi : h.i = some i) (hl : ts.length = tv.length) (nb : nbs ts) (hn : nbB ss = true) (hs : i < ss.length) (e : h.out x ss = some o) (p : PostS K T B0 F g ts tv W D o) (fr : Fr K B0 F B H g (ts ++ ss) (tv ++ σ)) (a : Addr) :
    tS K T W (h.b a x.c) { nx := fun σ' H' => D.nx (σ'.set i none) H', rt := D.rt, bk := fun σ' H' => D.bk (σ'.set i none) H', ct := fun σ' H' => D.ct (σ'.set i none) H' } (σ.set i (some (.ref a))) H := by
  obtain ⟨o', e1, e2, e3⟩ := Hd.out_ok e a
  rw [hi] at e1 e3
  have n1 : nbs (ss.set i (some (.ex a, .sh))) := nbs_set (nbB_ok hn) rfl
  have f1 : Fr K B0 F B H ([] ++ g) (ts ++ ss) (tv ++ σ) := by simpa using fr
  refine ⟨B0, F, B, g, namS (some i) a ss, ts, tv, o', hl, nb, n1, ?_, e1, ?_⟩
  · exact Fr.putS (f := []) hl f1 hs (Rv.mksh (by simp only [Rp]))
  · rw [e3] at p
    exact PostS.clr hl (by rw [e2]; exact hs) p
theorem hd_suite0 {D : Ends} {h : Hd} {x : Exn} {o : SO} (hi : h.i = none) (hl : ts.length = tv.length) (nb : nbs ts) (hn : nbB ss = true) (e : h.out x ss = some o) (p : PostS K T B0 F g ts tv W D o) (fr : Fr K B0 F B H g (ts ++ ss) (tv ++ σ)) (a : Addr) :
    tS K T W (h.b a x.c) D σ H := by
  obtain ⟨o', e1, e2, e3⟩ := Hd.out_ok e a
  rw [hi] at e1 e3
  have : SO.mapS (clrS none) o' = o' := by cases o' <;> rfl
  rw [this] at e3
  subst e3
  exact ⟨B0, F, B, g, ss, ts, tv, o, hl, nb, nbB_ok hn, fr, e1, p⟩
end
section
variable {T : Nat → Value} {W : WX} {X : Cx} {pos np pos' : Pos} {x n : Str} {i c : Nat} {body suite : List Stmt} {b₀ : Stmt} {mb : MS} {sb : Addr → Nat → MS} {okx : Exn → Bool}
theorem js_try_as (hs : X.stack = X.env :: X.outer) (hf : X.env.frame = some X.env.locals) (hN : X.N.Nodup) (hi : X.N[i]? = some n) (hln : X.env.kindOf n = some .local) (hc : Names X x (T c)) (tk : L2N.Takes X W)
    (hx : ∀ k, k ≤ 6 → T k ≠ .none → PySem.W.exmOne X.K (T k) (T c) = some (subC k c))
    (hb : ∀ (W' : WX) (pn : List (Addr × Obj)) (xe : Value → Shared → Prop), L2N.Takes (X.tr pn xe) W' → PassesOwn (model X.prog X.w) X.A X.env xe → JB T W' (X.tr pn xe) body mb)
    (hsu : ∀ (a : Addr) (oe : Obj) (x : Exn) (d : Option Addr) (pn : List (Addr × Obj)), x.c ≤ 6 → T x.c ≠ .none → okx x = true → (x.ks = [] → d = none) → L2N.Zn (T x.c) d oe → (∃ vs, oe.data = .fields vs) → JB T W (X.suite a ((a, oe) :: pn)) (b₀ :: suite) (sb a x.c)) :
    JS T W X (.Try body [.ExceptHandler (some (.Name x np)) (some n) (b₀ :: suite) pos'] [] [] pos) (mTry mb [⟨c, some i, okx, sb⟩]) :=
  ps_imp (L2N.ps_try_as (i := i) (ts := tsH X.K T W ⟨c, some i, okx, sb⟩) (tb := fun W' => tS X.K T W' mb) hs hf hN hi hln hc tk hb (fun a oe cls d pn hz hd => ⟨fun pins s σ H D I ⟨x, hk, hT, ho, e, hk2, w⟩ => by
      subst e
      exact (hsu a oe x d pn hk hT ho hk2 hz hd).run pins s σ H D I w⟩)) fun D σ H h =>
    try_mb h fun B0 F g ts tv x s1 o hl nb hc6 e p σ' cls dd B' H' hcls hT hks out fr => by
      subst hcls
      refine ⟨subC x.c c, hx _ hc6 hT, fun hyes a ha => ?_, fun hno => ?_⟩
      · have e : (if subC x.c c = true then (if okx x && nbB s1 && decide (∀ j, some i = some j → j < s1.length) then Hd.out ⟨c, some i, okx, sb⟩ x s1 else none) else mHds [] x s1) = some o := e
        rw [if_pos hyes] at e
        split at e
        · rename_i q
          rw [Bool.and_eq_true, Bool.and_eq_true, decide_eq_true_eq] at q
          exact ⟨x, hc6, hT, q.1.1, rfl, hks, hd_suite (h := ⟨c, some i, okx, sb⟩) rfl hl nb q.1.2 (q.2 i rfl) e p fr a⟩
        · cases e
      · have e : (if subC x.c c = true then (if okx x && nbB s1 && decide (∀ j, some i = some j → j < s1.length) then Hd.out ⟨c, some i, okx, sb⟩ x s1 else none) else mHds [] x s1) = some o := e
        rw [if_neg (by rw [hno]; decide)] at e
        cases e
        exact out rfl
/-- without a name, some clauses -/
inductive HdsJ (T : Nat → Value) (W : WX) (X : Cx) : List ExceptHandler → List Hd → Prop
  | nil : HdsJ T W X [] []
  | cons {x : Str} {c : Nat} {b₀ : Stmt} {suite : List Stmt} {np pos' : Pos} {hds : List ExceptHandler} {l : List Hd} {sb : Addr → Nat → MS} {okx : Exn → Bool} (hc : Names X x (T c)) (hx : ∀ k, k ≤ 6 → T k ≠ .none → PySem.W.exmOne X.K (T k) (T c) = some (subC k c))
      (hsu : ∀ (a : Addr) (oe : Obj) (x : Exn) (d : Option Addr) (pn : List (Addr × Obj)), x.c ≤ 6 → T x.c ≠ .none → okx x = true → (x.ks = [] → d = none) → L2N.Zn (T x.c) d oe → (∃ vs, oe.data = .fields vs) → JB T W (X.suite a ((a, oe) :: pn)) (b₀ :: suite) (sb a x.c)) (r : HdsJ T W X hds l) :
      HdsJ T W X (.ExceptHandler (some (.Name x np)) none (b₀ :: suite) pos' :: hds) (⟨c, none, okx, sb⟩ :: l)
theorem HdsJ.ok {hds : List ExceptHandler} {l : List Hd} (h : HdsJ T W X hds l) : L2N.HdsOk X hds (l.map fun h => (T h.c, tsH X.K T W h)) := by
  induction h with
  | nil => exact .nil
  | cons hc hx hsu _ ih =>
    exact .cons hc (fun a oe cls d pn hz hd => ⟨fun pins s σ H D I ⟨x, hk, hT, ho, e, hk2, w⟩ => by
      subst e
      exact (hsu a oe x d pn hk hT ho hk2 hz hd).run pins s σ H D I w⟩) ih
theorem HdsJ.wish {hds : List ExceptHandler} {l : List Hd} (h : HdsJ T W X hds l) {B0 F B' H' : Hp} {g : List Addr} {ts s1 : SS} {tv : List (Option V)} {σ' : L2.St} {x : Exn} {o : SO} {D : Ends} {dd : Option Addr} (hl : ts.length = tv.length) (nb : nbs ts) (hc6 : x.c ≤ 6) (hT : T x.c ≠ .none) (hks : x.ks = [] → dd = none) (e : mHds l x s1 = some o)
    (p : PostS X.K T B0 F g ts tv W D o) (out : o = .er x s1 → W (T x.c) dd σ' H') (fr : Fr X.K B0 F B' H' g (ts ++ s1) (tv ++ σ')) : wMany X.K W D (l.map fun h => (T h.c, tsH X.K T W h)) (T x.c) dd σ' H' := by
  induction h with
  | nil => cases e; exact out rfl
  | @cons nx c b₀ suite np pos' hds l sb okx hc hx hsu r ih =>
    have e : (if subC x.c c = true then (if okx x && nbB s1 && decide (∀ j, (none : Option Nat) = some j → j < s1.length) then Hd.out ⟨c, none, okx, sb⟩ x s1 else none) else mHds l x s1) = some o := e
    refine ⟨subC x.c c, hx _ hc6 hT, fun hyes a ha => ?_, fun hno => ?_⟩
    · rw [if_pos hyes] at e
      split at e
      · rename_i q
        rw [Bool.and_eq_true, Bool.and_eq_true] at q
        exact ⟨x, hc6, hT, q.1.1, rfl, hks, hd_suite0 (h := ⟨c, none, okx, sb⟩) rfl hl nb q.1.2 e p fr a⟩
      · cases e
    · rw [if_neg (by rw [hno]; decide)] at e
      exact ih e
theorem js_try {h₀ : ExceptHandler} {hds : List ExceptHandler} {l : List Hd} (hs : X.stack = X.env :: X.outer) (hf : X.env.frame = some X.env.locals) (tk : L2N.Takes X W)
    (hb : ∀ (W' : WX) (pn : List (Addr × Obj)) (xe : Value → Shared → Prop), L2N.Takes (X.tr pn xe) W' → PassesOwn (model X.prog X.w) X.A X.env xe → JB T W' (X.tr pn xe) body mb)
    (hh : HdsJ T W X (h₀ :: hds) l) : JS T W X (.Try body (h₀ :: hds) [] [] pos) (mTry mb l) :=
  ps_imp (L2N.ps_try_many (tb := fun W' => tS X.K T W' mb) hs hf tk hb hh.ok) fun D σ H h =>
    try_mb h fun B0 F g ts tv x s1 o hl nb hc6 e p σ' cls dd B' H' hcls hT hks out fr => by
      subst hcls
      exact hh.wish hl nb hc6 hT hks e p out fr
end
end Ve

set_option Elab.async false
set_option linter.all false
set_option maxRecDepth 100000
set_option maxHeartbeats 1000000
namespace Ve
open PySem PySem.Spec PyProof.Rows L2 L2H
/-! ## the classes of exceptions -/
structure ExT (L : List Nat) (K : PySem.W.Frag) (cl : Nat → Addr) : Prop where
  sub : ∀ j k, j ∈ L → k ∈ L → PySem.W.subIn K (.ref (cl j)) (.ref (cl k)) = some (subC j k)
  bs : ∀ k, k ∈ L → PySem.W.subIn K (.ref (cl k)) (.type "BaseException") = some true
  hd : ∀ k, k ∈ L → PySem.W.hasDictIn K (cl k) = true
  ty : ∀ k, k ∈ L → PySem.W.typeIn K (.ref (cl k)) = some (.type "type")
  ve : ∀ k, k ∈ L → PySem.W.subIn K (.ref (cl k)) (.type "ValueError") = some true
  ec : ∀ k, k ∈ L → k ≤ 4 → ExcC K (cl k)
/-- the classes that there are -/
def tcl (L : List Nat) (cl : Nat → Addr) : Nat → Value := fun c => if L.contains c = true then .ref (cl c) else .none
theorem tcl_mem {L : List Nat} {cl : Nat → Addr} {c : Nat} (h : tcl L cl c ≠ .none) : c ∈ L := by
  unfold tcl at h
  split at h
  · simpa using (by assumption : L.contains c = true)
  · exact absurd rfl h
theorem tcl_eq {L : List Nat} {cl : Nat → Addr} {c : Nat} (h : c ∈ L) : tcl L cl c = .ref (cl c) := by
  unfold tcl
  rw [if_pos (by simpa using h)]
section
variable {K : PySem.W.Frag} {cl : Nat → Addr} {L : List Nat}
theorem ExT.exm (t : ExT L K cl) {k : Nat} (hk : k ∈ L) : ∀ j, j ≤ 6 → tcl L cl j ≠ .none → PySem.W.exmOne K (tcl L cl j) (tcl L cl k) = some (subC j k) := fun j _ hj => by
  have hj := tcl_mem hj
  rw [tcl_eq hj, tcl_eq hk]
  exact PySem.W.exm_ref (t.bs k hk) (t.hd k hk) (t.ty k hk) (t.sub j k hj hk)
/-- a class in isinstance: an own one, or ValueError -/
def clD (cl : Nat → Addr) : Option Nat → D
  | some k => .ex (cl k)
  | none => .ty "ValueError"
def clV (cl : Nat → Addr) : Option Nat → V
  | some k => .ref (cl k)
  | none => .ty "ValueError"
def clU (cl : Nat → Addr) : Option Nat → Value
  | some k => .ref (cl k)
  | none => .type "ValueError"
def subO (c : Nat) : Option Nat → Bool
  | some k => subC c k
  | none => true
theorem hasDict_cls {C : Addr} (h : PySem.W.hasDictIn K C = true) : (PySem.W.clsIn K C).isSome = true := by
  unfold PySem.W.hasDictIn at h
  cases e : PySem.W.clsIn K C with
  | none => rw [e] at h; cases h
  | some _ => rfl
theorem ExT.kit (t : ExT L K cl) {c : Nat} (hc : c ∈ L) : ∀ {k : Option Nat}, (∀ j, k = some j → j ∈ L) → PySem.W.kitOne K (.ref (cl c)) (clU cl k) = some (subO c k)
  | some k, hk => by
    have hk := hk k rfl
    have hs := t.sub c k hc hk
    show (if (Value.ref (cl c) == Value.ref (cl k)) = true then some true else PySem.W.kitCls K (.ref (cl c)) (.ref (cl k))) = some (subC c k)
    by_cases h : (Value.ref (cl c) == Value.ref (cl k)) = true
    · rw [if_pos h]
      have e : Value.ref (cl c) = Value.ref (cl k) := beq_iff_eq.mp h
      have h0 := t.sub k k hk hk
      rw [e] at hs
      rw [← hs, h0]
      simp [subC]
    · rw [if_neg h]
      show (if ((PySem.W.clsIn K (cl k)).isSome && PySem.W.typeIn K (.ref (cl k)) == some (.type "type")) = true then PySem.W.subIn K (.ref (cl c)) (.ref (cl k)) else none) = _
      rw [hasDict_cls (t.hd k hk), t.ty k hk, if_pos (by rfl), hs]
  | none, _ => by
    have hs := t.ve c hc
    show (if (Value.ref (cl c) == Value.type "ValueError") = true then some true else PySem.W.kitCls K (.ref (cl c)) (.type "ValueError")) = some true
    rw [if_neg (by intro h; cases beq_iff_eq.mp h)]
    show (if PySem.W.kitMeta "ValueError" = true then PySem.W.subIn K (.ref (cl c)) (.type "ValueError") else none) = _
    rw [if_pos (by decide +kernel), hs]
theorem ExT.kits (t : ExT L K cl) {c : Nat} (hc : c ∈ L) : ∀ {ks : List (Option Nat)}, (∀ k ∈ ks, ∀ j, k = some j → j ∈ L) → PySem.W.kitAny K (.ref (cl c)) (ks.map (clU cl)) = some (ks.any (subO c))
  | [], _ => rfl
  | k :: ks, h => kitAny_cons (b := subO c k) (t.kit hc (h k List.mem_cons_self)) (fun e => by
      rw [List.any_cons, e, Bool.false_or]
      exact t.kits hc fun k hk => h k (List.mem_cons_of_mem _ hk)) (fun e => by rw [List.any_cons, e]; rfl)
theorem clsV {k : Option Nat} : ClsV (clV cl k) (clU cl k) := by
  cases k with
  | none => exact .ty _
  | some k => exact .own _
theorem clsVs : ∀ {ks : List (Option Nat)}, Paired ClsV (ks.map (clV cl)) (ks.map (clU cl))
  | [] => .nil
  | _ :: _ => .cons clsV clsVs
end
/-! ## isinstance of the exception that is handled -/
section
variable {X : Cx} {a D : Addr} {oe : Obj}
theorem inst_pin {pins : List (Addr × Obj)} {σ : L2.St} {H : Hp} {s : Shared} (I : Inv X pins σ H s) (hp : (a, oe) ∈ X.pn) (hz : Zc (.ref D) none oe) (hf : ∃ vs, oe.data = .fields vs) : PySem.W.InstAt s.heap a oe D none := by
  have h1 := (I.pin (a, oe) (List.mem_append_left _ hp)).1
  obtain ⟨vs, hv⟩ := hf
  cases oe with
  | mk oc od oda osl =>
    cases hz with
    | intro z1 z2 =>
      dsimp only at z1 z2 hv
      subst z1; subst z2; subst hv
      exact ⟨h1, rfl, rfl, trivial⟩
theorem cr_isE (C : ExcC X.K D) (hp : (a, oe) ∈ X.pn) (hz : Zc (.ref D) none oe) (hf : ∃ vs, oe.data = .fields vs) : CallR X (.builtin "isinstance") (rIsE X.K D a) := by
  intro pins s σ H xs us Q I r ⟨c, cv, b, ex, hcv, e, q⟩
  subst ex
  obtain ⟨u1, u2, rfl, r1, r2⟩ := vals2 r
  have r1 : u1 = .ref a := r1
  subst r1
  have e2 := hcv _ r2
  subst e2
  exact PySem.W.kia_one (PySem.W.handS_kitx_exc C.hg C.hk C.hs C.hd C.ha C.hn C.ht C.hm) I.kIn (inst_pin I hp hz hf) e (fun z => by cases z) fun tk => ⟨.bl b, H, I.tok tk, rfl, q⟩
/-- with a tuple of classes -/
def rIsET (K : PySem.W.Frag) (D a : Addr) : List V → Hp → VK → Prop := fun xs H Q => ∃ (tp : Addr) (cs : List V) (us : List Value) (b : Bool), xs = [.ref a, .ref tp] ∧ H tp = some (.tup cs) ∧ Paired ClsV cs us ∧ PySem.W.kitAny K (.ref D) us = some b ∧ Q (.bl b) H
theorem cr_isET (C : ExcC X.K D) (hp : (a, oe) ∈ X.pn) (hz : Zc (.ref D) none oe) (hf : ∃ vs, oe.data = .fields vs) : CallR X (.builtin "isinstance") (rIsET X.K D a) := by
  intro pins s σ H xs us Q I r ⟨tp, cs, ws, b, ex, hT, kp, e, q⟩
  subst ex
  obtain ⟨u1, u2, rfl, r1, r2⟩ := vals2 r
  have r1 : u1 = .ref a := r1
  have r2 : u2 = .ref tp := r2
  subst r1; subst r2
  obtain ⟨_, its, rv, o, h1, h2, n, h3⟩ := (show ObjOk X.prog X.w H s.heap tp (.tup cs) from I.hok tp _ hT)
  have e3 := ClsV.all kp rv
  subst e3
  cases o with
  | mk oc od dt sl =>
    simp only at h2 h3
    subst h2; subst h3
    exact PySem.W.kia_tup (PySem.W.handS_kitx_exc C.hg C.hk C.hs C.hd C.ha C.hn C.ht C.hm) I.kIn (inst_pin I hp hz hf) h1 e (fun z => by cases z) fun tk => ⟨.bl b, H, I.tok tk, rfl, q⟩
end
open Classical in
noncomputable def oIsE (a : Addr) (q : D) (b : Bool) : List Dm → Option Dm := fun as => match as with
  | [(.ex a', _), (d, _)] => if a' = a ∧ d = q then some (.bl b, .sh) else none
  | _ => none
section
variable {K : PySem.W.Frag} {cl : Nat → Addr} {a : Addr} {c : Nat}
theorem op_isE {k : Option Nat} {b : Bool} (h : PySem.W.kitOne K (.ref (cl c)) (clU cl k) = some b) : OpN K (rIsE K (cl c) a) (oIsE a (clD cl k) b) := by
  intro B0 F B H g es vs as av res Q hl fr e q
  unfold oIsE at e
  split at e
  · split at e
    · rename_i hh
      cases e
      obtain ⟨ha, hq⟩ := hh
      rw [ha, hq] at fr
      replace hl : av.length = 2 := hl
      obtain ⟨v, w, rfl, fr⟩ := arg2 hl fr
      obtain ⟨x, ex, r⟩ := fr.rd
      cases ex
      have fr1 := fr.popD
      obtain ⟨y, ey, r2⟩ := fr1.rd
      cases ey
      have r : v = .ref a := by simpa only [Rp] using r
      subst r
      have r2 : w = clV cl k := by
        cases k with
        | none => simpa only [Rp, clD, clV] using r2
        | some k => simpa only [Rp, clD, clV] using r2
      subst r2
      exact ⟨_, clU cl k, b, rfl, fun u hu => (clsV).eq hu, h, q _ B H (Ex.refl _) (fr1.popD.push0 (Rv.mksh rp_bl))⟩
    · cases e
  · cases e
theorem rps_cls {H : Hp} : ∀ {ks : List (Option Nat)} {xs : List V}, Rps K H (ks.map (clD cl)) xs → xs = ks.map (clV cl)
  | [], xs, h => by simpa only [Rps, List.map_nil] using h
  | k :: ks, xs, h => by
    simp only [List.map_cons, Rps] at h
    obtain ⟨v, r, e, h1, h2⟩ := h
    have h3 := rps_cls h2
    have h4 : v = clV cl k := by
      cases k with
      | none => simpa only [Rp, clD, clV] using h1
      | some k => simpa only [Rp, clD, clV] using h1
    rw [e, h3, h4, List.map_cons]
theorem op_isET {ks : List (Option Nat)} {b : Bool} (h : PySem.W.kitAny K (.ref (cl c)) (ks.map (clU cl)) = some b) : OpN K (rIsET K (cl c) a) (oIsE a (.tup (ks.map (clD cl))) b) := by
  intro B0 F B H g es vs as av res Q hl fr e q
  unfold oIsE at e
  split at e
  · split at e
    · rename_i hh
      cases e
      obtain ⟨ha, hq⟩ := hh
      rw [ha, hq] at fr
      replace hl : av.length = 2 := hl
      obtain ⟨v, w, rfl, fr⟩ := arg2 hl fr
      obtain ⟨x, ex, r⟩ := fr.rd
      cases ex
      have fr1 := fr.popD
      obtain ⟨y, ey, r2⟩ := fr1.rd
      cases ey
      have r : v = .ref a := by simpa only [Rp] using r
      subst r
      simp only [Rp] at r2
      obtain ⟨tp, xs, e1, e2, e3⟩ := r2
      have e4 := rps_cls e3
      subst e4; subst e1
      exact ⟨tp, _, _, b, rfl, e2, clsVs, h, q _ B H (Ex.refl _) (fr1.popD.push0 (Rv.mksh rp_bl))⟩
    · cases e
  · cases e
end
/-- isinstance of the exception at a: the answer is known -/
def mIsE (a : Addr) (b : Bool) (m : ME) : ME := bnd m fun dm => lft (match dm.1 with
  | .ex a' => if a' = a then some (.bl b, .sh) else none
  | _ => none)
theorem mIsE_eq {a : Addr} {b : Bool} {m : ME} {q : D} {mq : ME} (hq : ∀ ss, mq ss = some (.ok (q, .sh), ss)) : mOpN (oIsE a q b) (mCons m (mCons mq mNil)) = mIsE a b m := by
  funext ss
  unfold mOpN mCons mIsE mNil bnd
  cases h : m ss with
  | none => rfl
  | some r =>
    obtain ⟨r, s1⟩ := r
    cases r with
    | er x => rfl
    | ok dm =>
      simp only [hq, ret, lft, oIsE]
      obtain ⟨d, md⟩ := dm
      cases d with
      | ex a' =>
        by_cases h : a' = a
        · simp [h]
        · simp [h]
      | _ => rfl
/-- names of classes -/
def mCls : List D → MA
  | [] => mNil
  | d :: ds => mCons (mC d) (mCls ds)
theorem mCls_eq : ∀ {ds : List D} {ss : SS}, mCls ds ss = some (.ok (ds.map fun d => (d, Md.sh)), ss)
  | [], _ => rfl
  | d :: ds, ss => by
    unfold mCls mCons bnd mC ret
    simp only
    rw [mCls_eq (ds := ds)]
    rfl
theorem mTup_cls {ds : List D} (h : ds.length ≤ lim) {ss : SS} : mTup (mCls ds) ss = some (.ok (.tup ds, .sh), ss) := by
  unfold mTup bnd
  rw [mCls_eq]
  simp [lft, h, isSh, Function.comp_def]
section
variable {T : Nat → Value} {W : WX} {X : Cx} {pos p0 p1 : Pos} {cl : Nat → Addr} {a : Addr} {oe : Obj} {c : Nat} {e : Expr} {m : ME}
theorem je_cls {x : Str} {k : Nat} (hg : Gl X x) (hm : X.mg x = some (.ref (cl k))) (hd : (x == ("__debug__" : Str)) = false := by decide) : JE T W X (.Name x pos) (mC (clD cl (some k))) := je_c (pe_glob hg hm (v := .ref (cl k)) rfl hd) fun B => by simp only [Rp, clD]
theorem je_clsV (hg : Gl X "ValueError") (hm : X.mg "ValueError" = none) (hv : bootBuiltins "ValueError" = some (.type "ValueError")) : JE T W X (.Name "ValueError" pos) (mC (clD cl none)) := je_c (pe_bltn hg hm hv (v := .ty "ValueError") rfl (by decide)) fun B => by simp only [Rp, clD]
theorem je_isE {L : List Nat} {k : Option Nat} {ec : Expr} (t : ExT L X.K cl) (hc : c ≤ 4 ∧ c ∈ L) (hk : ∀ j, k = some j → j ∈ L) (hp : (a, oe) ∈ X.pn) (hz : Zc (.ref (cl c)) none oe) (hf : ∃ vs, oe.data = .fields vs) (hg : Gl X "isinstance") (hm : X.mg "isinstance" = none) (hv : bootBuiltins "isinstance" = some (.builtin "isinstance"))
    (ha : JA T W X [e, ec] (mCons m (mCons (mC (clD cl k)) mNil))) (h1 : starEach [e, ec] X.env = (false, eval e X.env) :: starEach [ec] X.env := by rfl) (h2 : (backTo pos (starEach [ec] X.env)).any (·.1) = false := by rfl) :
    JE T W X (.Call (.Name "isinstance" p0) [e, ec] [] pos) (mIsE a (subO c k) m) := by
  rw [← mIsE_eq (q := clD cl k) (mq := mC (clD cl k)) fun ss => rfl]
  exact je_blt (cr_isE (t.ec c hc.2 hc.1) hp hz hf) (op_isE (t.kit hc.2 hk)) hg hm hv ha (by decide) (by decide) h1 h2
theorem je_isET {L : List Nat} {ks : List (Option Nat)} {kk : Nat} {ec : List Expr} (t : ExT L X.K cl) (hc : c ≤ 4 ∧ c ∈ L) (hk : ∀ k ∈ ks, ∀ j, k = some j → j ∈ L) (hl : ks.length ≤ 10) (hp : (a, oe) ∈ X.pn) (hz : Zc (.ref (cl c)) none oe) (hf : ∃ vs, oe.data = .fields vs) (hg : Gl X "isinstance") (hm : X.mg "isinstance" = none) (hv : bootBuiltins "isinstance" = some (.builtin "isinstance"))
    (ha : JA T W X [e, .Tuple ec kk p1] (mCons m (mCons (mTup (mCls (ks.map (clD cl)))) mNil))) (h1 : starEach [e, .Tuple ec kk p1] X.env = (false, eval e X.env) :: starEach [.Tuple ec kk p1] X.env := by rfl) (h2 : (backTo pos (starEach [.Tuple ec kk p1] X.env)).any (·.1) = false := by rfl) :
    JE T W X (.Call (.Name "isinstance" p0) [e, .Tuple ec kk p1] [] pos) (mIsE a (ks.any (subO c)) m) := by
  rw [← mIsE_eq (q := .tup (ks.map (clD cl))) (mq := mTup (mCls (ks.map (clD cl)))) fun ss => mTup_cls (by rw [List.length_map]; exact Nat.le_trans hl (by decide))]
  exact je_blt (cr_isET (t.ec c hc.2 hc.1) hp hz hf) (op_isET (t.kits hc.2 hk)) hg hm hv ha (by decide) (by decide) h1 h2
/-- a suite that raises nothing -/
def mCalm (m : MS) : MS := fun ss => match m ss with
  | some (.er _ _) => none
  | o => o
theorem jb_calm {st : List Stmt} {ms : MS} (h : JB T (fun _ _ _ _ => False) X st ms) : JB T W X st (mCalm ms) := pss_imp h fun D σ H ⟨B0, F, B, g, ss, ts, tv, o, hl, nb, nbs', fr, e, p⟩ => by
  unfold mCalm at e
  cases hm : ms ss with
  | none => rw [hm] at e; cases e
  | some o' =>
    rw [hm] at e
    refine ⟨B0, F, B, g, ss, ts, tv, o', hl, nb, nbs', fr, hm, ?_⟩
    cases o' with
    | nx s => cases e; exact p
    | rt d s => cases e; exact p
    | bk s => cases e; exact p
    | ct s => cases e; exact p
    | er x s => cases e
end
end Ve

set_option Elab.async false
set_option linter.all false
set_option maxRecDepth 100000
set_option maxHeartbeats 1000000
namespace Ve
open PySem PySem.Spec PyProof.Rows L2 L2H
/-! ## defs that are called while the exception at a is handled -/
structure FnP (P : Program) (w : World) (K : PySem.W.Frag) (mg : Str → Option Value) (base : Heap) (k : Nat) (f : Addr) (fd : FuncData) (ps : List Str) (Z : Obj → Prop) (a : Addr) (sp : Sp) : Prop where
  len : ∀ vs H Q E, sp vs H Q E → vs.length = ps.length
  run : ∀ (A : Around) (outer : List Env) (s : Shared) (H : Hp) (args : Args) (us : List Value) (vs : List V) (Q : VK) (E : L2.XK) (oe : Obj), RoomH k A → Hot1 A (a, oe) → Z oe → PinOk outer H s (a, oe) →
    Env0 P w K mg base A outer s H → BindsTo s fd args (ps.zip us) → Vals vs us → sp vs H Q E → codeAny (model P w) A (.call (.ref f) args) (CR (L2N.CX P w) outer P w H s Q E) s
section
variable {P : Program} {w : World} {K : PySem.W.Frag} {mg : Str → Option Value} {base : Heap} {T : Nat → Value}
theorem fnP_of {x qual : Str} {st : Stmt} {f : Addr} {fd : FuncData} {N ps : List Str} {k : Nat} {Z : Obj → Prop} {a : Addr} {sp : Sp} (F : Fun K x qual st f fd) (S : FnScope N ps (defScope st)) (hlen : ∀ vs H Q E, sp vs H Q E → vs.length = ps.length)
    (hb : ∀ (cdv : Value) (A : Around) (outer : List Env) (s : Shared) (H : Hp) (vs : List V) (Q : VK) (E : L2.XK) (oe : Obj), Hot1 A (a, oe) → Z oe → RoomH k (A.deeper (envOfC qual (defScope st) s.heap.objs.size f cdv)) → sp vs H Q E →
      ∃ t, PSs (cxH (L2N.CX P w) P w K mg base N qual (defScope st) f cdv A outer s H E (a, oe)) (defBody st) t ∧ t { nx := fun _ H' => Q .non H', rt := Q } (L2.start N vs) H) :
    FnP P w K mg base (k + 1) f fd ps Z a sp := by
  have hx := F.ex
  rcases hx with ⟨c0, d0, v1, v2, v3, v4, cdv, v6, sl, e1, lk, hcd⟩
  subst e1
  constructor
  · exact hlen
  · intro A outer s H args us vs Q E oe hr hot hz hpin e0 hbi rv hsp
    have hn := hlen vs H Q E hsp
    have kin : K.In s.heap := e0.mod.kin.keeps (fun b o q => (e0.bs b o q).1)
    have noLim : s.heap.NoLimit := e0.mod.nolimit.keeps (fun b o q => (e0.bs b o q).1)
    refine codeAny_call_function hr.depth (kin _ _ lk) rfl S.co S.gen rfl (PySem.W.codeRec_of kin hcd) (hbi _ _ _ _ ?_)
    refine wpAny_newFunctionEnv_cells S.kind (fun p hp => ?_) (fun ev hev s2 xc => ?_)
    · obtain ⟨n, v⟩ := p
      cases S.par n (List.of_mem_zip hp).1 with
      | inl h => exact Or.inl h
      | inr h => exact Or.inr ⟨h, PySem.W.cellsFrom_some _ _ _ (Or.inl h)⟩
    · subst hev
      refine ⟨noLim.keeps xc.toInCall.keep, codeAny_func ?_⟩
      obtain ⟨t, ht, hq⟩ := hb cdv A outer s H vs Q E oe hot hz (hr.deeper _) hsp
      have J := inv_startH (E := E) (CX := L2N.CX P w) S hpin e0 hn rv xc
      refine wpAny_mono (ht.run [] s2 _ H _ J hq) (fun fl s3 h3 => ?_) (fun e s3 h3 => h3)
      cases fl with
      | next =>
        obtain ⟨σ1, H1, J1, q⟩ := h3
        exact ⟨V.non, H1, J1.os, J1.bare, J1.base, J1.hok, rfl, q⟩
      | ret u =>
        obtain ⟨v, σ1, H1, J1, r1, q⟩ := h3
        exact ⟨v, H1, J1.os, J1.bare, J1.base, J1.hok, r1, q⟩
      | brk =>
        obtain ⟨_, _, _, q⟩ := h3
        cases q
      | cont =>
        obtain ⟨_, _, _, q⟩ := h3
        cases q
/-- a def's answer where it does not raise -/
def mCalmF (f : MF) : MF := fun ds => match f ds with
  | some (.er _) => none
  | r => r
theorem calm_fn {n z : Nat} {b : MS} : mCalmF (mFn n z b) = mFn n z (mCalm b) := by
  funext ds
  unfold mCalmF mFn mCalm
  by_cases h : ds.length = n
  · rw [if_pos h, if_pos h]
    cases b (ds.map (fun d => some (d, .sh)) ++ List.replicate z none) with
    | none => rfl
    | some o =>
      cases o with
      | rt dm s =>
        show (match (if dm.2.nb = true then some (Rr.ok dm) else none) with
          | some (.er _) => none
          | r => r) = if dm.2.nb = true then some (Rr.ok dm) else none
        by_cases hn : dm.2.nb = true
        · rw [if_pos hn]
        · rw [if_neg hn]
      | _ => rfl
  · rw [if_neg h, if_neg h]
theorem fn_okP {x qual : Str} {st : Stmt} {f : Addr} {fd : FuncData} {N ps : List Str} {k n z : Nat} {Z : Obj → Prop} {a : Addr} {body : MS} (F : Fun K x qual st f fd) (S : FnScope N ps (defScope st)) (hp : ps.length = n) (hz : N.length = n + z)
    (hb : ∀ (cdv : Value) (A : Around) (outer : List Env) (s : Shared) (H : Hp) (E : L2.XK) (oe : Obj), Hot1 A (a, oe) → Z oe → RoomH k (A.deeper (envOfC qual (defScope st) s.heap.objs.size f cdv)) →
      JB T (fun _ _ _ _ => False) (cxH (L2N.CX P w) P w K mg base N qual (defScope st) f cdv A outer s H E (a, oe)) (defBody st) body) : FnP P w K mg base (k + 1) f fd ps Z a (SpF K T n (mCalmF (mFn n z body))) := by
  rw [calm_fn]
  exact fnP_of F S (fun vs H Q E h => by rw [h.len, hp]) fun cdv A outer s H vs Q E oe hot hZ hr h => ⟨_, jb_calm (hb cdv A outer s H E oe hot hZ hr), t_body hz h⟩
end
section
variable {T : Nat → Value} {W : WX} {X : Cx} {pos p0 : Pos} {a : Addr} {oe : Obj} {Z : Obj → Prop} {k n : Nat} {f : Addr} {fd : FuncData} {ps : List Str} {sp : Sp} {E : L2.St → L2.XK} {x : Str} {e : Expr} {es : List Expr} {t : TA}
theorem pe_callP (G : FnP X.prog X.w X.K X.mg X.base k f fd ps Z a sp) (hr : RoomH k X.A) (hot : Hot1 X.A (a, oe)) (hz : Z oe) (hp : (a, oe) ∈ X.pn) (hg : Gl X x) (hm : X.mg x = some (.ref f)) (hk : PySem.W.keepIn X.K (.ref f) = true) (hb : Binds X.K fd ps [])
    (hx : ∀ σ, PassesAt (L2N.CX X.prog X.w) X σ (E σ)) (ha : PA X (e :: es) t) (hdb : (x == ("__debug__" : Str)) = false := by decide) (he : starEach (e :: es) X.env = (false, eval e X.env) :: starEach es X.env := by rfl) (hpl : (backTo pos (starEach es X.env)).any (·.1) = false := by rfl) :
    PE X (.Call (.Name x p0) (e :: es) [] pos) (tCallS sp E t) := by
  constructor
  intro pins s σ H Q I h
  refine wpAny_Call_Name_kw (ld_glob I hg hm ?_ hdb)
  refine PySem.W.callWith_K (h₀ := X.base) I.ok.mod.kin hk (thn (ha.run pos pins s σ H _ I h) (fun us s1 hs1 => ?_)) he hpl
  obtain ⟨vs, H1, J, rv, q⟩ := hs1
  refine ⟨J.kIn, ?_⟩
  have hlen : us.length = ps.length := by rw [← rv.length]; exact G.len _ _ _ _ q
  have bi := hb s1 us J.kIn (by rw [List.append_nil]; exact hlen)
  rw [List.append_nil] at bi
  have pp := J.pin (a, oe) (List.mem_append_left _ hp)
  have pin : PinOk X.stack H1 s1 (a, oe) := by
    refine ⟨pp.1, pp.2.1, fun hm => ?_, pp.2.2.2.2⟩
    rcases List.mem_cons.mp (J.stkSub a hm) with h | h
    · exact pp.2.2.1 h
    · exact pp.2.2.2.1 h
  refine wpAny_call (codeAny_mono (G.run X.A X.stack s1 H1 ⟨us, []⟩ us vs Q (E σ) oe hr hot hz pin J.env0 bi rv q) (fun r s2 hq => ?_))
  cases r with
  | error u => exact hx σ pins H1 s1 u s2 J hq
  | ok fl =>
    cases fl with
    | ret u => exact J.after hq
    | next => cases hq
    | brk => cases hq
    | cont => cases hq
theorem je_callP {fm : MF} {ms : MA} (G : FnP X.prog X.w X.K X.mg X.base k f fd ps Z a (SpF X.K T n fm)) (hr : RoomH k X.A) (hot : Hot1 X.A (a, oe)) (hz : Z oe) (hp : (a, oe) ∈ X.pn) (tk : L2N.Takes X W) (hg : Gl X x) (hm : X.mg x = some (.ref f)) (hk : PySem.W.keepIn X.K (.ref f) = true) (hb : Binds X.K fd ps [])
    (ha : JA T W X (e :: es) ms) (hdb : (x == ("__debug__" : Str)) = false := by decide) (he : starEach (e :: es) X.env = (false, eval e X.env) :: starEach es X.env := by rfl) (hpl : (backTo pos (starEach es X.env)).any (·.1) = false := by rfl) :
    JE T W X (.Call (.Name x p0) (e :: es) [] pos) (mCall n fm ms) := pe_imp (pe_callP G hr hot hz hp hg hm hk hb (fun σ => L2N.passAt tk σ) ha hdb he hpl) t_call
/-- an exception without fields, of one of the plain classes -/
def okP : Exn → Bool := fun x => x.ks.isEmpty && decide (x.c ≤ 4)
theorem okP_c {x : Exn} (h : okP x = true) : x.c ≤ 4 := by
  unfold okP at h
  rw [Bool.and_eq_true, decide_eq_true_eq] at h
  exact h.2
theorem okP_ks {x : Exn} (h : okP x = true) : x.ks = [] := by
  unfold okP at h
  rw [Bool.and_eq_true, List.isEmpty_iff] at h
  exact h.1
/-- the class of what is handled -/
def ZnE (C : Addr) : Obj → Prop := fun oe => L2N.Zn (.ref C) none oe ∧ ∃ vs, oe.data = .fields vs
theorem znE {C : Addr} {d : Option Addr} (h : L2N.Zn (.ref C) d oe) (hd : d = none) (hf : ∃ vs, oe.data = .fields vs) : ZnE C oe := by
  subst hd
  exact ⟨h, hf⟩
theorem ZnE.zc {C : Addr} (h : ZnE C oe) : Zc (.ref C) none oe := h.1.zc
theorem hot_suite {pn : List (Addr × Obj)} {cls : Value} {d : Option Addr} (h : L2N.Zn cls d oe) (hf : ∃ vs, oe.data = .fields vs) : Hot1 (X.suite a pn).A (a, oe) := by
  obtain ⟨vs, hv⟩ := hf
  exact ⟨rfl, vs, hv, h.2.2 vs hv⟩
theorem room_suite {pn : List (Addr × Obj)} (hr : Room k X.A) : RoomH k (X.suite a pn).A := ⟨hr.dp, hr.un⟩
end
theorem all7 {p : Nat → Prop} (h0 : p 0) (h1 : p 1) (h2 : p 2) (h3 : p 3) (h4 : p 4) (h5 : p 5) (h6 : p 6) : ∀ j, j ≤ 6 → p j
  | 0, _ => h0
  | 1, _ => h1
  | 2, _ => h2
  | 3, _ => h3
  | 4, _ => h4
  | 5, _ => h5
  | 6, _ => h6
  | n + 7, h => absurd h (by omega)
theorem all5 {p : Nat → Prop} (h0 : p 0) (h1 : p 1) (h2 : p 2) (h3 : p 3) (h4 : p 4) : ∀ j, j ≤ 4 → p j
  | 0, _ => h0
  | 1, _ => h1
  | 2, _ => h2
  | 3, _ => h3
  | 4, _ => h4
  | n + 5, h => absurd h (by omega)
def okC (L : List Nat) : Option Nat → Bool
  | some j => L.contains j
  | none => true
theorem okK {L : List Nat} {k : Option Nat} (h : okC L k = true) : ∀ j, k = some j → j ∈ L := fun j e => by
  subst e
  simpa [okC] using h
theorem okKs {L : List Nat} {ks : List (Option Nat)} (h : ks.all (okC L) = true) : ∀ k ∈ ks, ∀ j, k = some j → j ∈ L := fun k hk => okK (List.all_eq_true.mp h k hk)
theorem mem_all {L : List Nat} {p : Nat → Prop} (h : L.foldr (fun j q => p j ∧ q) True) : ∀ j, j ∈ L → p j := by
  induction L with
  | nil => exact fun j hj => nomatch hj
  | cons x L ih => exact fun j hj => (List.mem_cons.mp hj).elim (fun e => by rw [e]; exact h.1) (ih h.2 j)
theorem tcl_zn {L : List Nat} {cl : Nat → Addr} {c : Nat} {d : Option Addr} {oe : Obj} (h : tcl L cl c ≠ .none) (z : L2N.Zn (tcl L cl c) d oe) : L2N.Zn (.ref (cl c)) d oe := by
  rw [tcl_eq (tcl_mem h)] at z
  exact z
theorem u64H {k : Nat} {A : Around} (r : RoomH k A) : A.units + 64 < cLine := by have := r.un; omega
theorem u65H {k : Nat} {A : Around} (r : RoomH k A) : A.units + 65 < cLine := by have := r.un; omega
end Ve

set_option Elab.async false
set_option linter.all false
set_option maxRecDepth 100000
set_option maxHeartbeats 1000000
namespace Ve
open PySem PySem.Spec PyProof.Rows L2
section
variable {K : PySem.W.Frag} {B0 F B H : Hp} {g : List Addr} {es : SS} {vs : List (Option V)}
/-- tuple(xs) -/
def oTuple : List Dm → Option Dm := fun as => match as with
  | [(.lst ds, m)] => if elSh m ds then some (.tup ds, .sh) else none
  | [(.tup ds, .sh)] => some (.tup ds, .sh)
  | _ => none
theorem op_oTuple : OpN K (fun xs H Q => ∃ p ys, xs = [.ref p] ∧ ((SqL K H p ys ∧ ∀ l, H l = none → Q (.ref l) (upd H l (.tup ys))) ∨ (SqT K H p ys ∧ Q (.ref p) H))) oTuple := by
  intro B0 F B H g es vs as av res Q hl fr e q
  unfold oTuple at e
  split at e
  · rename_i ds m
    split at e
    · rename_i n
      cases e
      obtain ⟨v, rfl, fr⟩ := arg1 hl fr
      obtain ⟨B', p, xs, x, e1, e2, r, fr'⟩ := fr.elems n
      subst e1
      exact ⟨p, xs, rfl, .inl ⟨SqL.of e2, fun l hl => q _ _ _ (Ex.new hl) (fr'.newT r hl)⟩⟩
    · cases e
  · rename_i ds
    cases e
    obtain ⟨v, rfl, fr⟩ := arg1 hl fr
    obtain ⟨p, xs, rfl, e2, e3⟩ := fr.tupAt
    exact ⟨p, xs, rfl, .inr ⟨SqT.of e2, q _ _ _ (Ex.refl _) fr⟩⟩
  · cases e
end
section
variable {T : Nat → Value} {W : WX} {X : Cx} {pos : Pos}
/-- {} -/
theorem je_dict0 : JE T W X (.Dict [] [] pos) (mC (.dK [] [])) := pe_imp pe_dnewK fun σ H Q ⟨B0, F, B, g, ss, ts, tv, r', ss', hl, fr, e, p⟩ => by
  cases e
  intro q hq
  refine p _ (upd B q (.dK [])) _ (Ex.new hq) ((fr.allocS hq).push0 (Rv.mksh ?_))
  simp only [Rp]
  exact ⟨q, [], rfl, upd_same, rfl, by simp [Rps]⟩
end
end Ve

set_option Elab.async false
set_option linter.all false
set_option maxRecDepth 100000
set_option maxHeartbeats 1000000
namespace Ve
open PySem PySem.Spec PyProof.Rows L2
/-! ## a def that changes one of its arguments -/
def entA (a : Addr) (md : Md) : Nat → List D → SS
  | _, [] => []
  | 0, d :: ds => some (d, .ah a md) :: ds.map (fun d => some (d, .sh))
  | j + 1, d :: ds => some (d, .sh) :: entA a md j ds
/-- the heap without f -/
def hcut (H : Hp) (f : List Addr) : Hp := fun a => if a ∈ f then none else H a
theorem hv_ex {H : Hp} {f : List Addr} : Ex (hcut H f) H := fun a o h => by
  unfold hcut at h
  split at h
  · cases h
  · exact h
theorem hv_in {H : Hp} {f : List Addr} {a : Addr} (h : a ∈ f) : hcut H f a = none := by
  unfold hcut
  rw [if_pos h]
theorem hv_out {H : Hp} {f : List Addr} {a : Addr} (h : a ∉ f) : hcut H f a = H a := by
  unfold hcut
  rw [if_neg h]
section
variable {K : PySem.W.Frag} {B0 F B Bc H H' : Hp} {f g : List Addr} {es rs : SS} {vs rv : List (Option V)}
theorem Fr.callA (h : Fr K B0 F B H (f ++ g) es vs) (n : nbs es) (c : Fr K B (hcut H f) Bc H' [] rs rv) (hl : rs.length = rv.length) : Fr K B0 F Bc H' g (rs ++ es) (rv ++ vs) := by
  obtain ⟨q, s, nd, k⟩ := h.it
  obtain ⟨fc, sc, nc, kc⟩ := c.it
  rw [List.nil_append] at nc kc
  rw [List.append_assoc] at nd k
  obtain ⟨nf, ng, nx⟩ := List.nodup_append.mp nd
  have out : ∀ a, a ∈ g ++ q → a ∉ f := fun a ha hf => nx a hf a ha rfl
  have old : ∀ a, a ∈ g ++ q → B a = none ∧ F a = none ∧ ∃ o, H a = some o ∧ Own1 o := fun a ha => k a (List.mem_append_right _ ha)
  have kp : ∀ a, a ∈ g ++ q → ∀ o, H a = some o → H' a = some o := fun a ha o ho => c.fx _ _ (by rw [hv_out (out a ha)]; exact ho)
  have fF : ∀ a, F a ≠ none → a ∉ f := fun a ha hf => ha (k a (List.mem_append_left _ hf)).2.1
  have dis : ∀ a, a ∈ g ++ q → Bc a = none := fun a ha => by
    obtain ⟨c1, c2, u, hu, hw⟩ := old a ha
    cases e0 : Bc a with
    | none => rfl
    | some o =>
      have e1 := c.ex _ _ e0
      rw [kp a ha u hu] at e1
      cases e1
      rcases c.sub a _ e0 (by rw [hv_out (out a ha), hu]; simp) with z | z
      · exact absurd c1 z
      · cases u <;> simp_all [Own1, tupO]
  refine ⟨c.ex, fun a o ho => c.fx _ _ (by rw [hv_out (fF a (by rw [ho]; simp))]; exact h.fx _ _ ho), h.b0.trans c.b0, fun a o e z => ?_, fc ++ q, (Ss.app hl).mpr ⟨fc, q, rfl, sc, s.keep c.b0 n fun a ha => kp a (List.mem_append_right _ ha)⟩, ?_, fun a ha => ?_⟩
  · have hz : hcut H f a ≠ none := by
      rw [hv_out (fF a z)]
      cases q2 : F a with
      | none => exact absurd q2 z
      | some u => rw [h.fx _ _ q2]; simp
    rcases c.sub a o e hz with y | y
    · cases q3 : B a with
      | none => exact absurd q3 y
      | some u =>
        have := c.b0 _ _ q3
        rw [e] at this
        cases this
        exact h.sub a _ q3 z
    · exact .inr y
  · have p : (g ++ (fc ++ q)).Perm (fc ++ (g ++ q)) := by
      rw [← List.append_assoc, ← List.append_assoc]
      exact List.Perm.append_right q List.perm_append_comm
    refine (p.nodup_iff).mpr (List.nodup_append.mpr ⟨nc, ng, fun a ha b hb e => ?_⟩)
    subst e
    obtain ⟨_, c2, _⟩ := kc a ha
    obtain ⟨_, _, u, hu, _⟩ := old a hb
    rw [hv_out (out a hb), hu] at c2
    cases c2
  · have o1 : a ∈ g ++ q → Bc a = none ∧ F a = none ∧ ∃ o, H' a = some o ∧ Own1 o := fun hb => by
      obtain ⟨c1, c2, u, hu, hw⟩ := old a hb
      exact ⟨dis a hb, c2, u, kp a hb u hu, hw⟩
    rcases List.mem_append.mp ha with ha' | ha'
    · exact o1 (List.mem_append_left _ ha')
    · rcases List.mem_append.mp ha' with ha2 | ha2
      · obtain ⟨c1, c2, u, hu, hw⟩ := kc a ha2
        refine ⟨c1, ?_, u, hu, hw⟩
        cases e0 : F a with
        | none => rfl
        | some o =>
          have := h.fx _ _ e0
          rw [hv_out (fF a (by rw [e0]; simp)), this] at c2
          cases c2
      · exact o1 (List.mem_append_right _ ha2)
/-- the first entries apart -/
theorem Fr.split {l : SS} {w : List (Option V)} (hl : l.length = w.length) (h : Fr K B0 F B H g (l ++ es) (w ++ vs)) : ∃ f, Ss K B H l w f ∧ Fr K B0 F B H (f ++ g) es vs := by
  obtain ⟨q, s, n, k⟩ := h.it
  obtain ⟨f1, f2, e, s1, s2⟩ := (Ss.app hl).mp s
  subst e
  have p : (g ++ (f1 ++ f2)).Perm (f1 ++ g ++ f2) := by
    rw [← List.append_assoc]
    exact List.Perm.append_right f2 List.perm_append_comm
  exact ⟨f1, s1, h.ex, h.fx, h.b0, h.sub, f2, s2, (p.nodup_iff).mp n, fun a ha => k a ((p.mem_iff).mpr ha)⟩
theorem Fr.lend (h : Fr K B0 F B H (f ++ g) es vs) (s : Ss K B H rs rv f) : Fr K B (hcut H f) B H [] rs rv := by
  obtain ⟨q, _, n, k⟩ := h.it
  rw [List.append_assoc] at n k
  refine ⟨h.ex, hv_ex, Ex.refl _, fun a o e _ => .inl (by rw [e]; simp), f, s, (List.nodup_append.mp n).1, fun a ha => ?_⟩
  obtain ⟨c1, c2, u, hu, hw⟩ := k a (List.mem_append_left _ ha)
  exact ⟨c1, hv_in ha, u, hu, hw⟩
theorem Ss.nones : ∀ z : Nat, Ss K B H (List.replicate z none) (List.replicate z none) []
  | 0 => ⟨rfl, rfl⟩
  | z + 1 => ⟨none, _, [], [], rfl, rfl, rfl, Ss.nones z⟩
theorem Fr.nones {z : Nat} (hl : es.length = vs.length) (h : Fr K B0 F B H g es vs) : Fr K B0 F B H g (es ++ List.replicate z none) (vs ++ List.replicate z none) := by
  obtain ⟨q, s, n, k⟩ := h.it
  exact ⟨h.ex, h.fx, h.b0, h.sub, q ++ [], (Ss.app hl).mpr ⟨q, [], rfl, s, Ss.nones z⟩, by simpa using n, fun a ha => k a (by simpa using ha)⟩
end
def isIO (a : Addr) (md : Md) : Nat → List Dm → Bool
  | _, [] => false
  | 0, x :: xs => x.2.beq (.ah a md) && xs.all (fun y => isSh y.2)
  | j + 1, x :: xs => isSh x.2 && isIO a md j xs
theorem isIO_sh : ∀ {xs : List Dm}, xs.all (fun y => isSh y.2) = true → xs.map some = (xs.map (·.1)).map (fun d => (some (d, .sh) : Ent))
  | [], _ => rfl
  | x :: xs, h => by
    simp only [List.all_cons, Bool.and_eq_true] at h
    obtain ⟨d, m⟩ := x
    have := isSh_eq h.1
    dsimp only at this
    subst this
    simp only [List.map_cons, isIO_sh h.2]
theorem isIO_eq {a : Addr} {md : Md} : ∀ {j : Nat} {xs : List Dm}, isIO a md j xs = true → xs.map some = entA a md j (xs.map (·.1))
  | 0, [], h => by simp [isIO] at h
  | _ + 1, [], h => by simp [isIO] at h
  | 0, x :: xs, h => by
    simp only [isIO, Bool.and_eq_true] at h
    obtain ⟨d, m⟩ := x
    have := Md.eq_of _ _ h.1
    dsimp only at this
    subst this
    simp only [List.map_cons, entA, isIO_sh h.2]
  | j + 1, x :: xs, h => by
    simp only [isIO, Bool.and_eq_true] at h
    obtain ⟨d, m⟩ := x
    have := isSh_eq h.1
    dsimp only at this
    subst this
    simp only [List.map_cons, entA, isIO_eq h.2]
theorem entA_len {a : Addr} {md : Md} : ∀ {j : Nat} {ds : List D}, (entA a md j ds).length = ds.length
  | 0, [] => rfl
  | _ + 1, [] => rfl
  | 0, d :: ds => by simp [entA]
  | j + 1, d :: ds => by simp [entA, entA_len]
theorem entA_nb {a : Addr} {md : Md} (n : md.nb = true) : ∀ {j : Nat} {ds : List D}, nbs (entA a md j ds)
  | 0, [] => fun e he => nomatch he
  | _ + 1, [] => fun e he => nomatch he
  | 0, d :: ds => fun e he => by
    rcases List.mem_cons.mp he with rfl | h
    · exact n
    · obtain ⟨d, _, rfl⟩ := List.mem_map.mp h
      rfl
  | j + 1, d :: ds => fun e he => by
    rcases List.mem_cons.mp he with rfl | h
    · rfl
    · exact entA_nb n e h
open Classical in
/-- the same for all addresses -/
noncomputable def allA {α : Type} (F : Addr → Option α) : Option α := if ∀ a, F a = F 0 then F 0 else none
theorem allA_ok {α : Type} {F : Addr → Option α} {o : α} (h : allA F = some o) (a : Addr) : F a = some o := by
  unfold allA at h
  split at h
  · rename_i k
    rw [k a]; exact h
  · cases h
theorem allA_of {α : Type} {F : Addr → Option α} {o : α} (h : ∀ a, F a = some o) : allA F = some o := by
  unfold allA
  rw [if_pos (fun a => by rw [h a, h 0]), h 0]
abbrev MFA := Addr → List D → Option D
/-- the contract: the argument j's thing is changed, nothing handed back, nothing raised -/
def SpA (K : PySem.W.Frag) (n j : Nat) (md : Md) (fm : MFA) : Sp := fun vs H Q E => ∃ (B0 F : Hp) (ds : List D) (a : Addr) (d' : D), md.nb = true ∧ ds.length = n ∧ vs.length = n ∧ Fr K B0 F B0 H [] (entA a md j ds) (vs.map some) ∧ fm a ds = some d' ∧
  ∀ B H', Fr K B0 F B H' [] [some (d', .ah a md)] [some (.ref a)] → Q .non H'
def mFnA (n z j : Nat) (md : Md) (body : Addr → MS) : MFA := fun a ds => if ds.length = n then (match body a (entA a md j ds ++ List.replicate z none) with
  | some (.nx s) => (match s[j]? with
    | some (some (d, m)) => if m.beq (.ah a md) then some d else none
    | _ => none)
  | _ => none) else none
section
variable {P : Program} {w : World} {K : PySem.W.Frag} {mg : Str → Option Value} {base : Heap} {T : Nat → Value}
theorem t_bodyA {K : PySem.W.Frag} {T : Nat → Value} {N : List Str} {n z j : Nat} {md : Md} {body : MS} {vs : List V} {H : Hp} {Q : VK} {E : L2.XK} (hz : N.length = n + z) (h : SpA K n j md (mFnA n z j md fun _ => body) vs H Q E) :
    tS K T (fun cls d _ H => E cls d H) body { nx := fun _ H' => Q .non H', rt := Q } (L2.start N vs) H := by
  obtain ⟨B0, F, ds, a, d', n0, hn, hvs, fr, hf, p⟩ := h
  unfold mFnA at hf
  rw [if_pos hn] at hf
  have hst : L2.start N vs = vs.map some ++ List.replicate z none := by
    unfold L2.start
    rw [hvs, hz, Nat.add_sub_cancel_left]
  have fr2 : Fr K B0 F B0 H [] ([] ++ (entA a md j ds ++ List.replicate z none)) ([] ++ L2.start N vs) := by
    rw [hst]
    exact fr.nones (by rw [entA_len]; simp [hn, hvs])
  split at hf
  · rename_i s hb
    refine ⟨B0, F, B0, [], _, [], [], .nx s, rfl, fun e he => (nomatch he), nbs_app (entA_nb n0) (fun e he => by rw [(List.mem_replicate.mp he).2]; rfl), fr2, hb, ?_⟩
    split at hf
    · rename_i d m hs
      split at hf
      · rename_i hm
        cases hf
        have := Md.eq_of _ _ hm
        subst this
        intro σ' B' H' fr'
        obtain ⟨v, f, hv, rv, fr3⟩ := Fr.takeS (ts := []) (tv := []) rfl fr' hs
        have rv2 := rv
        simp only [Rv] at rv2
        obtain ⟨_, rfl, _⟩ := rv2
        have fr4 : Fr K B0 F B' H' (f ++ []) [] [] := Fr.pre (l := []) (w := []) (es := s.set j none) (vs := σ') rfl fr3
        exact p B' H' (fr4.push rv)
      · cases hf
    · cases hf
  · cases hf
theorem fn_okA {x qual : Str} {st : Stmt} {f : Addr} {fd : FuncData} {N ps : List Str} {k n z j : Nat} {md : Md} {body : MS} (F : Fun K x qual st f fd) (S : FnScope N ps (defScope st)) (hp : ps.length = n) (hz : N.length = n + z)
    (hb : ∀ (cdv : Value) (A : Around) (outer : List Env) (s : Shared) (H : Hp) (E : L2.XK), Room k (A.deeper (envOfC qual (defScope st) s.heap.objs.size f cdv)) →
      JB T (fun cls d _ H => E cls d H) (cxOf (L2N.CX P w) P w K mg base N qual (defScope st) f cdv A outer s H E) (defBody st) body) : FnOk P w K mg base (L2N.CX P w) (k + 1) f fd ps (SpA K n j md (mFnA n z j md fun _ => body)) :=
  okN F S (fun vs H Q E h => by obtain ⟨_, _, _, _, _, _, _, h, _⟩ := h; rw [h, hp]) fun cdv A outer s H vs Q E hr h => ⟨_, hb cdv A outer s H E hr, t_bodyA hz h⟩
end
/-- the statement that calls it: the thing stands at slot i -/
noncomputable def mIO (i n j : Nat) (em : Md) (fm : MFA) (ms : MA) : MS := fun ss => match ss[i]? with
  | some (some (d0, .ow m0)) => if m0.beq em then allA (fun a => match ms (ss.set i (some (d0, .ah a (.ow em)))) with
    | some (.ok as, s1) => if decide (as.length = n) && isIO a (.ow em) j as && nbB s1 && decide (i < s1.length) then (fm a (as.map (·.1))).map fun d' => .nx (s1.set i (some (d', .ow em))) else none
    | _ => none) else none
  | _ => none
section
variable {T : Nat → Value} {W : WX} {X : Cx} {pos pos2 p : Pos} {e : Expr}
theorem js_io {k n i j : Nat} {em : Md} {f : Addr} {fd : FuncData} {ps : List Str} {x : Str} {es : List Expr} {fm : MFA} {ms : MA} (G : FnOk X.prog X.w X.K X.mg X.base (L2N.CX X.prog X.w) k f fd ps (SpA X.K n j (.ow em) fm)) (hr : Room k X.A) (tk : L2N.Takes X W) (hg : Gl X x) (hm : X.mg x = some (.ref f)) (hk : PySem.W.keepIn X.K (.ref f) = true) (hb : Binds X.K fd ps [])
    (ha : JA T W X (e :: es) ms) (hdb : (x == ("__debug__" : Str)) = false := by decide) (he : starEach (e :: es) X.env = (false, eval e X.env) :: starEach es X.env := by rfl) (hpl : (backTo pos (starEach es X.env)).any (·.1) = false := by rfl)
    (hs : swapsWith (.Call (.Name x p) (e :: es) [] pos) none pos2.line X.env = pure false := by rfl) :
    PS X (.Expr (.Call (.Name x p) (e :: es) [] pos) pos2) (tK X.K T W (mIO i n j em fm ms)) :=
  ps_imp (ps_expr (pe_callS G hr hg hm hk hb (fun σ => L2N.passAt tk σ) ha hdb he hpl) hs) fun D σ H ⟨B0, F, B, g, ss, ts, tv, o, hl, nb, nbs', fr, e, p⟩ => by
    unfold mIO at e
    split at e
    · rename_i d0 m0 hs0
      split at e
      · rename_i hm0
        have := Md.eq_of _ _ hm0
        subst this
        obtain ⟨v, f, hv, rv, _⟩ := fr.takeS hl hs0
        obtain ⟨n0, ds, q, xs, gg, e0, e1, _⟩ := Rv.ow_iff.mp rv
        subst e1
        have hi := (List.getElem?_eq_some_iff.mp hs0).1
        have fr1 := fr.reAh hl hs0 (show (Md.ow m0).nb = true from n0) hv
        have e2 := allA_ok e q
        split at e2
        · rename_i as s1 hms
          split at e2
          · rename_i hc
            simp only [Bool.and_eq_true, decide_eq_true_eq] at hc
            obtain ⟨⟨⟨c1, c2⟩, c3⟩, c4⟩ := hc
            refine ⟨B0, F, B, g, _, ts, tv, .ok as, s1, hl, fr1, hms, fun vs B1 H1 hvs x1 fr2 => ?_⟩
            cases hfm : fm q (as.map (·.1)) with
            | none => rw [hfm] at e2; cases e2
            | some d' =>
              rw [hfm] at e2
              cases e2
              obtain ⟨fa, sa, fr3⟩ := fr2.split (by simp [hvs])
              refine ⟨B1, hcut H1 fa, as.map (·.1), q, d', n0, by simp [c1], by rw [hvs, c1], ?_, hfm, fun Bc H2 c => ?_⟩
              · have := fr3.lend sa
                rwa [isIO_eq c2] at this
              · have fr4 := fr3.callA (nbs_app nb (nbB_ok c3)) c rfl
                have fr5 := Fr.put (i := i) (dm := (d', .ah q (.ow m0))) hl fr4 c4
                rw [set_same hv] at fr5
                obtain ⟨_, _, fr6⟩ := Fr.unAh (i := i) (d := d') (a := q) (md := .ow m0) hl fr5 (by simp [c4])
                rw [List.set_set] at fr6
                exact p Bc H2 fr6
          · cases e2
        · cases e2
      · cases e
    · cases e
end
section
variable {K : PySem.W.Frag}
theorem arg3 {B0 F B H : Hp} {g : List Addr} {es : SS} {vs : List (Option V)} {a b c : Dm} {av : List V} (hl : av.length = ([a, b, c] : List Dm).length) (fr : Fr K B0 F B H g (([a, b, c] : List Dm).map some ++ es) (av.map some ++ vs)) : ∃ v w u, av = [v, w, u] ∧ Fr K B0 F B H g (some (a.1, a.2) :: some (b.1, b.2) :: some (c.1, c.2) :: es) (some v :: some w :: some u :: vs) := by
  match av, hl with
  | [v, w, u], _ => exact ⟨v, w, u, rfl, fr⟩
/-- min(i, j, k) -/
def oMin3 : List Dm → Option Dm := fun as => match as with
  | [(.int i, _), (.int j, _), (.int k, _)] => some (.int (if k < (if j < i then j else i) then k else (if j < i then j else i)), .sh)
  | _ => none
theorem op_oMin3 : OpN K (rNuC3 nuMin3) oMin3 := by
  intro B0 F B H g es vs as av res Q hl fr e q
  unfold oMin3 at e
  split at e
  · rename_i i m j m' k m''
    cases e
    obtain ⟨v, w, u, rfl, fr⟩ := arg3 hl fr
    obtain ⟨x, ex, r⟩ := fr.rd
    cases ex
    have fr1 := fr.popD
    obtain ⟨y, ey, r2⟩ := fr1.rd
    cases ey
    have fr2 := fr1.popD
    obtain ⟨z, ez, r3⟩ := fr2.rd
    cases ez
    simp only [Rp] at r r2 r3
    subst r r2 r3
    refine ⟨_, _, _, _, rfl, ?_, q _ B H (Ex.refl _) (fr2.popD.push0 (Rv.mksh rp_int))⟩
    simp only [nuMin3, nuMin2, nuLt, nuCB, Option.map_some, Option.bind_some, decide_eq_true_eq]
    by_cases h : j < i
    · by_cases h2 : k < j
      · simp [h, h2]
      · simp [h, h2]
    · by_cases h2 : k < i
      · simp [h, h2]
      · simp [h, h2]
  · cases e
end
section
variable {K : PySem.W.Frag} {B0 F B H : Hp} {g : List Addr} {es : SS} {vs : List (Option V)}
theorem Rps.rep {ds : List D} {xs : List V} (r : Rps K B ds xs) : ∀ n : Nat, Rps K B (List.replicate n ds).flatten (List.replicate n xs).flatten
  | 0 => by simp [Rps]
  | n + 1 => by
    simp only [List.replicate_succ, List.flatten_cons]
    exact Rps.app r (Rps.rep r n)
/-- xs * k -/
def oRep : Dm → Dm → Option Dm := fun a b => match a.1, b.1 with
  | .lst ds, .int k => if elSh a.2 ds && decide (0 ≤ k) && decide (k ≤ 1000) && decide (ds.length ≤ 1000) then some (.lst (List.replicate k.toNat ds).flatten, .ow .sh) else none
  | _, _ => none
theorem op_oRep : Op2 K rRep oRep := by
  intro B0 F B H g es vs a b va vb res Q fr e q
  obtain ⟨da, ma⟩ := a
  obtain ⟨db, mb⟩ := b
  unfold oRep at e
  split at e
  · rename_i ds k h1 h2
    dsimp only at h1 h2
    subst h1 h2
    split at e
    · rename_i n
      cases e
      simp only [Bool.and_eq_true, decide_eq_true_eq] at n
      obtain ⟨⟨⟨n1, n2⟩, n3⟩, n4⟩ := n
      obtain ⟨y, ey, ry⟩ := fr.rd
      cases ey
      simp only [Rp] at ry
      obtain ⟨B1, p1, xs, x1, e1, hx, rx, fr1⟩ := fr.popD.elems n1
      subst e1
      refine ⟨p1, k, xs, rfl, ry, hx, Int.le_trans (by decide) n2, Int.lt_of_le_of_lt n3 (by decide), ?_, fun p hp => q _ B1 _ (Ex.new hp) (fr1.newL (rx.rep _) hp)⟩
      rw [rx.len]
      have : k.toNat ≤ 1000 := by omega
      exact Nat.le_trans (Nat.mul_le_mul n4 this) (Nat.le_trans (by decide) lim_le)
    · cases e
  · cases e
/-- t[lo:hi] of a tuple -/
def oSlT (a : Dm) (lo hi : Option Int) : Option Dm := match a with
  | (.tup ds, .sh) => some (.tup (cutD ds lo hi), .sh)
  | _ => none
def mSlT (ma : ME) (ml mh : MO) : ME := bnd ma fun a => bnd ml fun l => bnd mh fun h => lft (oSlT a l h)
theorem je_slT {T : Nat → Value} {W : WX} {X : Cx} {pos p2 : Pos} {a : Expr} {ma : ME} {lo hi : Option Expr} {ml mh : MO} (ha : JE T W X a ma) (hl : JO T W X lo ml) (hh : JO T W X hi mh) : JE T W X (.Subscript a (.Slice lo hi none p2) pos) (mSlT ma ml mh) :=
  pe_imp (pe_slice sl_tupA ha hl hh) fun σ H Q ⟨B0, F, B, g, ss, ts, tv, r', ss', hl, fr, e, p⟩ => by
    rcases bnd_ok e with ⟨da, s1, e1, e2⟩ | ⟨x, e1, rfl⟩
    · refine ⟨B0, F, B, g, ss, ts, tv, .ok da, s1, hl, fr, e1, fun va B1 H1 x1 fr1 => ?_⟩
      rcases bnd_ok e2 with ⟨l, s2, e3, e4⟩ | ⟨x, e3, rfl⟩
      · refine ⟨B0, F, B1, g, s1, some da :: ts, some va :: tv, .ok l, s2, by simp [hl], fr1, e3, fun B2 H2 x2 fr2 => ?_⟩
        rcases bnd_ok e4 with ⟨h, s3, e5, e6⟩ | ⟨x, e5, rfl⟩
        · refine ⟨B0, F, B2, g, s2, some da :: ts, some va :: tv, .ok h, s3, by simp [hl], fr2, e5, fun B3 H3 x3 fr3 => ?_⟩
          obtain ⟨res, e7, rfl, rfl⟩ := lft_ok e6
          unfold oSlT at e7
          split at e7
          · rename_i ds
            cases e7
            obtain ⟨v, f, ev, rv, fr4⟩ := fr3.pop1
            cases ev
            simp only [Rv] at rv
            obtain ⟨rp, rfl⟩ := rv
            have rp0 := rp
            simp only [Rp] at rp0
            obtain ⟨q, xs, rfl, hq, rq⟩ := rp0
            refine ⟨q, xs, rfl, SqT.of (fr4.ex _ _ hq), fun hw => ?_, fun hw z hz => ?_⟩
            · have ec : cutD ds l h = ds := by
                rw [rq.len] at hw
                unfold cutD
                rw [hw.1, hw.2, List.drop_zero, Nat.sub_zero, List.take_length]
              rw [ec] at p
              exact p (.ref q) B3 H3 (x1.trans (x2.trans x3)) fr3
            · refine p (.ref z) _ _ (x1.trans (x2.trans (x3.trans (Ex.new hz)))) (Fr.newT (ds := cutD ds l h) (xs := cutV xs l h) fr4 ?_ hz)
              unfold cutD cutV
              rw [rq.len]
              exact (rq.drop _).take _
          · cases e7
        · exact ⟨B0, F, B2, g, s2, some da :: ts, some va :: tv, .er x, ss', by simp [hl], fr2, e5, PErr.drop p⟩
      · exact ⟨B0, F, B1, g, s1, some da :: ts, some va :: tv, .er x, ss', by simp [hl], fr1, e3, PErr.drop p⟩
    · exact ⟨B0, F, B, g, ss, ts, tv, .er x, ss', hl, fr, e1, p⟩
end
end Ve

set_option Elab.async false
set_option linter.all false
set_option maxRecDepth 100000
set_option maxHeartbeats 2000000
/-! ## some clauses, with and without names -/
namespace L2N
open PySem PySem.Spec PyProof.Rows L2
def endO : Option Nat → Ends → Ends
  | none, D => D
  | some i, D => { nx := fun z h => D.nx (z.set i none) h, rt := D.rt, bk := fun z h => D.bk (z.set i none) h, ct := fun z h => D.ct (z.set i none) h }
def stO : Option Nat → Addr → St → St
  | none, _, z => z
  | some i, a, z => z.set i (some (.ref a))
abbrev Cl := Value × Option Nat × (Addr → Value → Option Addr → TS)
def wishO (K : PySem.W.Frag) (W0 : WX) (D : Ends) : List Cl → WX
  | [] => W0
  | (c, i, ts) :: r => fun k d z h => ∃ b, PySem.W.exmOne K k c = some b ∧ (b = true → ∀ a, h a = none → ts a k d (endO i D) (stO i a z) h) ∧ (b = false → wishO K W0 D r k d z h)
def nameO (X : Cx) : Option Str → Option Nat → Prop
  | none, none => True
  | some n, some i => X.N[i]? = some n ∧ X.env.kindOf n = some .local
  | _, _ => False
inductive ClsOk (X : Cx) : List ExceptHandler → List Cl → Prop
  | nil : ClsOk X [] []
  | cons {x : Str} {nm : Option Str} {i : Option Nat} {c : Value} {ts : Addr → Value → Option Addr → TS} {s0 : Stmt} {sr : List Stmt} {p1 p2 : Pos} {hs : List ExceptHandler} {l : List Cl} (hc : Names X x c) (hn : nameO X nm i)
      (hsu : ∀ (a : Addr) (oo : Obj) (k : Value) (d : Option Addr) (pl : List (Addr × Obj)), Zn k d oo → (∃ fs, oo.data = .fields fs) → PSs (X.suite a ((a, oo) :: pl)) (s0 :: sr) (ts a k d)) (r : ClsOk X hs l) :
      ClsOk X (.ExceptHandler (some (.Name x p1)) nm (s0 :: sr) p2 :: hs) ((c, i, ts) :: l)
theorem ps_try_nam {X : Cx} {tb : WX → TS} {W0 : WX} {bd : List Stmt} {h0 : ExceptHandler} {hr : List ExceptHandler} {l : List Cl} {pos : Pos} (e1 : X.stack = X.env :: X.outer) (e2 : X.env.frame = some X.env.locals) (hN : X.N.Nodup) (tk : Takes X W0)
    (hb : ∀ (W : WX) (pl : List (Addr × Obj)) (xx : Value → Shared → Prop), Takes (X.tr pl xx) W → PassesOwn (model X.prog X.w) X.A X.env xx → PSs (X.tr pl xx) bd (tb W))
    (hc : ClsOk X (h0 :: hr) l) : PS X (.Try bd (h0 :: hr) [] [] pos) (fun D z h => tb (wishO X.K W0 D l) D z h) := by
  refine ⟨fun pp s0 z0 m0 DD I0 w0 => ?_⟩
  have iok := I0.ok
  have frs2 : X.A.frames = some (X.env :: X.outer) := by rw [iok.frames, e1]
  refine wpAny_Try_except (wpAny_mono ((hb (wishO X.K W0 DD l) (X.pn ++ pp) (fun u t1 => wpAny (model X.prog X.w) X.A (noteFrame u X.env) (fun _ t2 => wpAny (model X.prog X.w) X.A (setFlight u none)
    (fun _ t3 => wpAny (model X.prog X.w) X.A (handleBy u X.env (h0 :: hr)) (SP X pp DD) X.xe t3) X.xe t2) X.xe t1) (fun u t1 caught => ?_) PassesOwn.looking).run [] s0 z0 m0 DD (I0.toTry _) w0) (fun fl t1 out => ?_) (fun u t1 hu => hu))
  · obtain ⟨a, B, tI, pp', z1, m1, k, d, rfl, Jt, nb, up, sk, na, os, ag, ws⟩ := caught
    have Jo : Inv X pp z1 m1 tI := Jt.ofTry iok
    have sk2 : Sky B (X.env :: X.outer) a (Zn k d) X.env.locals t1.heap := by rw [← e1]; exact sk
    show wpAny (model X.prog X.w) X.A (noteFrame (.ref a) X.env) _ _ _
    refine Sky.land Zn.steady frs2 e2 sk2 fun hp3 fy3 u3 => ?_
    have Jl : Inv X pp z1 m1 { t1 with heap := hp3 } := Jo.landed nb fy3.1 (up.trans u3) os ag
    obtain ⟨ob3, fs3, ge3, zn3, dt3⟩ := fy3.there
    have notin : a ∉ frs (X.env :: X.outer) := fun hm => by
      obtain ⟨_, o', e', hnf⟩ := fy3.2.2.1.mem hm
      rw [ge3] at e'; cases e'; exact hnf _ dt3
    have aL : a ≠ X.env.locals := fun q => notin (List.mem_filterMap.mpr ⟨X.env, List.mem_cons_self, by rw [e2, q]⟩)
    have aF : a ∉ X.fs := fun hm => by
      obtain ⟨en, hen, q⟩ := List.mem_filterMap.mp hm
      exact notin (List.mem_filterMap.mpr ⟨en, List.mem_cons_of_mem _ hen, q⟩)
    have Js := Jl.suite ge3 dt3 na aL aF
    have down : ∀ {hs' : List ExceptHandler} {l' : List Cl}, ClsOk X hs' l' → wishO X.K W0 DD l' k d z1 m1 → wpAny (model X.prog X.w) X.A (handleBy (.ref a) X.env hs') (SP X pp DD) X.xe { t1 with heap := hp3 } := by
      intro hs' l' hk
      induction hk with
      | nil =>
        intro wl
        refine wpAny_handleBy_nil ?_
        obtain ⟨_, _, _, oo, fs, TT, _, _, g1, g2, g3, g4, _⟩ := id fy3
        unfold PySem.passOn
        refine wpAny_bind (wpAny_field g1 g3 g4 ?_)
        rw [if_neg (show ¬ ((Value.ref TT == Value.none) = true) from by simp)]
        have last : wpAny (model X.prog X.w) X.A (setFlight (.ref a) X.env.frame) (fun _ t4 => wpAny (model X.prog X.w) X.A (throw (.ref a) : Sem Flow) (SP X pp DD) X.xe t4) X.xe { t1 with heap := hp3 } := by
          rw [e2]
          exact HandSPX.setFlight_upZ fy3 fun hp4 hh4 u4 => wpAny_throw (tk _ _ ⟨a, B, tI, pp, z1, m1, k, d, rfl, Jo, nb, (up.trans u3).trans u4, .inr (.inr (by rw [e1]; exact hh4)), na, os, ag, wl⟩)
        first
          | exact wpAny_bind (wpAny_pure (wpAny_bind last))
          | exact wpAny_bind last
      | @cons x nm i c ts b0 br p1 p2 hs2 l2 hnm hn hsu r ih =>
        intro wl
        obtain ⟨b, hb1, hyes, hno⟩ := wl
        refine wpAny_handleBy_cons (codeAny_handlers_test ?_) (fun q => nomatch q)
        have lk : PySem.W.Looks (model X.prog X.w) hp3 (typeOf (.ref a)) k := fun _ _ _ _ kk q => wpAny_typeOf_ref (kk _ _ ge3) (by rw [zn3.1]; exact q)
        have lm := PySem.W.exm_one (M := model X.prog X.w) (Jl.kIn) lk hb1
        have tst : ∀ {Q2 : Value → Shared → Prop} {E2 : Value → Shared → Prop}, Q2 c { t1 with heap := hp3 } → wpAny (model X.prog X.w) (X.A.mark (some (.ref a))) (eval (.Name x p1) X.env) Q2 E2 { t1 with heap := hp3 } := fun {Q2 E2} q => by
          obtain ⟨w1, w2, w3 | ⟨w3, w4, w5⟩⟩ := hnm
          · exact ld_glob (X := X.suite a ((a, ob3) :: (X.pn ++ pp))) Js w1 w3 q w2
          · exact ld_blt (X := X.suite a ((a, ob3) :: (X.pn ++ pp))) Js w1 w3 w4 q w5 w2
        refine tst (lm.here ?_)
        cases b with
        | false =>
          show wpAny _ X.A (handleBy (.ref a) X.env hs2) _ _ _
          exact ih (hno rfl)
        | true =>
          have yes := hyes rfl a na
          cases nm with
          | none =>
            cases i with
            | some i => exact hn.elim
            | none =>
              refine codeAny_handlers_suite (HandSPX.lands_againZ fy3 fun hp4 fy4 u4 => ?_)
              have J4 : Inv X pp z1 m1 { t1 with heap := hp4 } := Jo.landed nb fy4.1 ((up.trans u3).trans u4) os ag
              obtain ⟨ob4, fs4, ge4, zn4, dt4⟩ := fy4.there
              refine wpAny_mono ((hsu a ob4 k d (X.pn ++ pp) zn4 ⟨_, dt4⟩).run [] _ _ m1 _ (J4.suite ge4 dt4 na aL aF) yes) (fun fl t6 out => ?_) (fun _ _ q => False.elim q)
              cases fl with
              | next => obtain ⟨z6, m6, J6, q6⟩ := out; exact ⟨_, _, J6.unsuite iok, q6⟩
              | brk => obtain ⟨z6, m6, J6, q6⟩ := out; exact ⟨_, _, J6.unsuite iok, q6⟩
              | cont => obtain ⟨z6, m6, J6, q6⟩ := out; exact ⟨_, _, J6.unsuite iok, q6⟩
              | ret u => obtain ⟨v6, z6, m6, J6, r6, q6⟩ := out; exact ⟨_, _, _, J6.unsuite iok, r6, q6⟩
          | some n =>
            cases i with
            | none => exact hn.elim
            | some i =>
              obtain ⟨hi, hln⟩ := hn
              refine codeAny_handlers_suite_as (HandSPX.lands_againZ fy3 fun hp4 fy4 u4 => ?_)
              have J4 : Inv X pp z1 m1 { t1 with heap := hp4 } := Jo.landed nb fy4.1 ((up.trans u3).trans u4) os ag
              obtain ⟨ob4, fs4, ge4, zn4, dt4⟩ := fy4.there
              refine store_ok (X := X.suite a ((a, ob4) :: (X.pn ++ pp))) (v := .ref a) (J4.suite ge4 dt4 na aL aF) hN hi (.inl hln) rfl (fun t5 J5 => ?_) (.inr hln)
              refine wpAny_mono ((hsu a ob4 k d (X.pn ++ pp) zn4 ⟨_, dt4⟩).run [] t5 _ m1 _ J5 yes) (fun fl t6 out => ?_) (fun _ _ q => False.elim q)
              have fin : ∀ {z6 : St} {m6 : Hp} {Q2 : Shared → Prop}, Inv (X.suite a ((a, ob4) :: (X.pn ++ pp))) [] z6 m6 t6 → (∀ t7, Inv X pp (z6.set i none) m6 t7 → Q2 t7) →
                  wpAny (model X.prog X.w) X.A (do bindName X.env n .none; unbindBehindTheSuite X.env n p2) (fun _ t7 => Q2 t7) X.xe t6 := fun {z6 m6 Q2} J6 hq => gone_ok (J6.unsuite iok) hN hi hln hq
              cases fl with
              | next => obtain ⟨z6, m6, J6, q6⟩ := out; exact fin J6 fun t7 J7 => ⟨_, _, J7, q6⟩
              | brk => obtain ⟨z6, m6, J6, q6⟩ := out; exact fin J6 fun t7 J7 => ⟨_, _, J7, q6⟩
              | cont => obtain ⟨z6, m6, J6, q6⟩ := out; exact fin J6 fun t7 J7 => ⟨_, _, J7, q6⟩
              | ret u => obtain ⟨v6, z6, m6, J6, r6, q6⟩ := out; exact fin J6 fun t7 J7 => ⟨_, _, _, J7, r6, q6⟩
    exact down hc ws
  · cases fl with
    | next => obtain ⟨z1, m1, Jn, q⟩ := out; exact wpAny_execs_nil ⟨z1, m1, Jn.ofTry iok, q⟩
    | brk => obtain ⟨z1, m1, Jn, q⟩ := out; exact ⟨z1, m1, Jn.ofTry iok, q⟩
    | cont => obtain ⟨z1, m1, Jn, q⟩ := out; exact ⟨z1, m1, Jn.ofTry iok, q⟩
    | ret u => obtain ⟨v, z1, m1, Jn, r, q⟩ := out; exact ⟨v, z1, m1, Jn.ofTry iok, r, q⟩
end L2N
namespace Ve
open PySem PySem.Spec PyProof.Rows L2
section
variable {T : Nat → Value} {W : WX} {X : Cx} {pos : Pos} {body : List Stmt} {mb : MS}
inductive HdsN (T : Nat → Value) (W : WX) (X : Cx) : List ExceptHandler → List Hd → Prop
  | nil : HdsN T W X [] []
  | cons {x : Str} {nm : Option Str} {i : Option Nat} {c : Nat} {b₀ : Stmt} {suite : List Stmt} {np pos' : Pos} {hds : List ExceptHandler} {l : List Hd} {sb : Addr → Nat → MS} {okx : Exn → Bool} (hc : Names X x (T c)) (hn : L2N.nameO X nm i) (hx : ∀ k, k ≤ 6 → T k ≠ .none → PySem.W.exmOne X.K (T k) (T c) = some (subC k c))
      (hsu : ∀ (a : Addr) (oe : Obj) (x : Exn) (d : Option Addr) (pn : List (Addr × Obj)), x.c ≤ 6 → T x.c ≠ .none → okx x = true → (x.ks = [] → d = none) → L2N.Zn (T x.c) d oe → (∃ vs, oe.data = .fields vs) → JB T W (X.suite a ((a, oe) :: pn)) (b₀ :: suite) (sb a x.c)) (r : HdsN T W X hds l) :
      HdsN T W X (.ExceptHandler (some (.Name x np)) nm (b₀ :: suite) pos' :: hds) (⟨c, i, okx, sb⟩ :: l)
theorem HdsN.ok {hds : List ExceptHandler} {l : List Hd} (h : HdsN T W X hds l) : L2N.ClsOk X hds (l.map fun h => (T h.c, h.i, tsH X.K T W h)) := by
  induction h with
  | nil => exact .nil
  | cons hc hn hx hsu _ ih =>
    exact .cons hc hn (fun a oe cls d pn hz hd => ⟨fun pins s σ H D I ⟨x, hk, hT, ho, e, hk2, w⟩ => by
      subst e
      exact (hsu a oe x d pn hk hT ho hk2 hz hd).run pins s σ H D I w⟩) ih
theorem HdsN.wish {hds : List ExceptHandler} {l : List Hd} (h : HdsN T W X hds l) {B0 F B' H' : Hp} {g : List Addr} {ts s1 : SS} {tv : List (Option V)} {σ' : L2.St} {x : Exn} {o : SO} {D : Ends} {dd : Option Addr} (hl : ts.length = tv.length) (nb : nbs ts) (hc6 : x.c ≤ 6) (hT : T x.c ≠ .none) (hks : x.ks = [] → dd = none) (e : mHds l x s1 = some o)
    (p : PostS X.K T B0 F g ts tv W D o) (out : o = .er x s1 → W (T x.c) dd σ' H') (fr : Fr X.K B0 F B' H' g (ts ++ s1) (tv ++ σ')) : L2N.wishO X.K W D (l.map fun h => (T h.c, h.i, tsH X.K T W h)) (T x.c) dd σ' H' := by
  induction h with
  | nil => cases e; exact out rfl
  | @cons nx nm i c b₀ suite np pos' hds l sb okx hc hn hx hsu r ih =>
    have e : (if subC x.c c = true then (if okx x && nbB s1 && decide (∀ j, i = some j → j < s1.length) then Hd.out ⟨c, i, okx, sb⟩ x s1 else none) else mHds l x s1) = some o := e
    refine ⟨subC x.c c, hx _ hc6 hT, fun hyes a ha => ?_, fun hno => ?_⟩
    · rw [if_pos hyes] at e
      split at e
      · rename_i q
        rw [Bool.and_eq_true, Bool.and_eq_true, decide_eq_true_eq] at q
        cases i with
        | none => exact ⟨x, hc6, hT, q.1.1, rfl, hks, hd_suite0 (h := ⟨c, none, okx, sb⟩) rfl hl nb q.1.2 e p fr a⟩
        | some i => exact ⟨x, hc6, hT, q.1.1, rfl, hks, hd_suite (h := ⟨c, some i, okx, sb⟩) rfl hl nb q.1.2 (q.2 i rfl) e p fr a⟩
      · cases e
    · rw [if_neg (by rw [hno]; decide)] at e
      exact ih e
theorem js_tryN {h₀ : ExceptHandler} {hds : List ExceptHandler} {l : List Hd} (hs : X.stack = X.env :: X.outer) (hf : X.env.frame = some X.env.locals) (hN : X.N.Nodup) (tk : L2N.Takes X W)
    (hb : ∀ (W' : WX) (pn : List (Addr × Obj)) (xe : Value → Shared → Prop), L2N.Takes (X.tr pn xe) W' → PassesOwn (model X.prog X.w) X.A X.env xe → JB T W' (X.tr pn xe) body mb)
    (hh : HdsN T W X (h₀ :: hds) l) : JS T W X (.Try body (h₀ :: hds) [] [] pos) (mTry mb l) :=
  ps_imp (L2N.ps_try_nam (tb := fun W' => tS X.K T W' mb) hs hf hN tk hb hh.ok) fun D σ H h =>
    try_mb h fun B0 F g ts tv x s1 o hl nb hc6 e p σ' cls dd B' H' hcls hT hks out fr => by
      subst hcls
      exact hh.wish hl nb hc6 hT hks e p out fr
end
end Ve

set_option Elab.async false
set_option linter.all false
set_option maxRecDepth 100000
set_option maxHeartbeats 2000000
/-! ## two things that are alike are not unlike -/
namespace PySem.SeqAt
open AutoSeq1 (wpAny_loadPart')
open MeetsSeq MeetsSeq2 MeetsSeq3 SeqRoads2
section
variable {prog : Program} {w : World}
theorem ve_neLoop (p q : Addr) (us ws : Array Value) (cu cw : Nat) (du dw : Option Addr) (su sw : Array (Option Value)) (hz : us.size = ws.size) (k : Nat) :
    ∀ i : Nat, us.size - i = k → MeetsIn prog w (Builtin.«list.__eq__.loop» ⟨[.ref p, .ref q, rawInt i, rawInt 3], []⟩)
      (fun A R s => s.heap.get? p = some { cls := .type "list", dict := du, data := .seq us cu, slots := su } ∧ s.heap.get? q = some { cls := .type "list", dict := dw, data := .seq ws cw, slots := sw } ∧
        (∀ j (h1 : j < us.size) (h2 : j < ws.size), EqIn prog w A.in1 s us[j] ws[j] true) ∧ R (.ok (.ret (.bool false))) s) := by
  induction k with
  | zero =>
    intro i hk A R s h
    obtain ⟨hp, g, d, tk, os⟩ := s; obtain ⟨hP, hQ, hE, h⟩ := h
    wp_walk using wpAny_loadPart' hP, wpAny_loadPart' hQ
    have n1 : us[((i : Nat) : Int).toNat]? = none := by simp; omega
    have n2 : ws[((i : Nat) : Int).toNat]? = none := by simp; omega
    rw [n1, n2]
    wp_walk using wpAny_loadPart' hP, wpAny_loadPart' hQ
    show R (.ok (.ret (.bool (us.size != ws.size)))) _
    rw [hz]
    simpa using h
  | succ k ih =>
    intro i hk A R s h
    obtain ⟨hp, g, d, tk, os⟩ := s; obtain ⟨hP, hQ, hE, h⟩ := h
    wp_walk using wpAny_loadPart' hP, wpAny_loadPart' hQ
    have l1 : i < us.size := by omega
    have l2 : i < ws.size := by omega
    have n1 : us[((i : Nat) : Int).toNat]? = some us[i] := by simp [l1]
    have n2 : ws[((i : Nat) : Int).toNat]? = some ws[i] := by simp [l2]
    have ec : ((i : Int) + 1) = ((i + 1 : Nat) : Int) := by push_cast; rfl
    rw [n1, n2]
    refine wpAny_bind (hE i l1 l2 _ _ ?_)
    wp_walk
    rw [ec]
    exact ⟨plainId_quiet plain_eq_loop _, codeAny_builtin entry_eq_loop (by
      rw [Around.under_plainId plain_eq_loop _]
      exact ih (i + 1) (by omega) A R _ ⟨hP, hQ, hE, h⟩)⟩
theorem ve_neList (p q : Addr) (us ws : Array Value) (cu cw : Nat) (du dw : Option Addr) (su sw : Array (Option Value)) (hz : us.size = ws.size) :
    MeetsIn prog w (Builtin.«list.__ne__» ⟨[.ref p, .ref q], []⟩)
      (fun A R s => s.heap.get? p = some { cls := .type "list", dict := du, data := .seq us cu, slots := su } ∧ s.heap.get? q = some { cls := .type "list", dict := dw, data := .seq ws cw, slots := sw } ∧
        (∀ j (h1 : j < us.size) (h2 : j < ws.size), EqIn prog w A.in1 s us[j] ws[j] true) ∧ R (.ok (.ret (.bool false))) s) := by
  intro A R s h
  obtain ⟨hp, g, d, tk, os⟩ := s; obtain ⟨hP, hQ, hE, h⟩ := h
  have sub := AutoSeq1.sub_list_list
  have ne0 : ¬ (us.size != ws.size) = true := by simp [hz]
  wp_walk using wpAny_loadPart' hP, wpAny_loadPart' hQ
  exact ⟨plainId_quiet plain_eq_loop _, codeAny_builtin entry_eq_loop (by
    rw [Around.under_plainId plain_eq_loop _]
    exact ve_neLoop p q us ws cu cw du dw su sw hz _ 0 rfl A R _ ⟨hP, hQ, hE, h⟩)⟩
theorem ve_neLists {A : Around} {s : Shared} {p q : Addr} {us ws : Array Value} (hP : s.heap.IsList p us) (hQ : s.heap.IsList q ws) (hz : us.size = ws.size) (hu : A.units < cLine)
    (hE : ∀ j (h1 : j < us.size) (h2 : j < ws.size), EqIn prog w A.in1 s us[j] ws[j] true) {E Q : Value → Shared → Prop} (h : Q (.bool false) s) : wpAny (model prog w) A (richCompare .NotEq (.ref p) (.ref q)) Q E s := by
  obtain ⟨⟨c1, d1, x1, s1⟩, o1, k1, n1, e1⟩ := id hP
  obtain ⟨⟨c2, d2, x2, s2⟩, o2, k2, n2, e2⟩ := id hQ
  simp only at k1 e1 k2 e2
  subst k1 e1 k2 e2
  have t1 : s.TypeIs (.ref p) "list" := ⟨_, o1, rfl⟩
  have t2 : s.TypeIs (.ref q) "list" := ⟨_, o2, rfl⟩
  exact wpAny_richCompare_same_room (op := .NotEq) t1 t2 F.slot_list_ne (call_meetsIn F.slot_list_ne t1 F.entry_list_ne (F.args_list_ne_2 _ _) (ve_neList p q us ws n1 n2 d1 d2 s1 s2 hz)
    ⟨o1, o2, hE, show Value.bool false ≠ Value.notImplemented ∧ Q (.bool false) s from ⟨(fun x => nomatch x), h⟩⟩) hu
end
end PySem.SeqAt

set_option Elab.async false
set_option linter.all false
set_option maxRecDepth 100000
set_option maxHeartbeats 2000000
namespace Ve
open PySem PySem.Spec PyProof.Rows L2
/-! ## the same thing twice -/
mutual
/-- what may be compared with its like: dicts of one key at most -/
def D.tame : D → Bool
  | .non | .bl _ | .int _ | .str _ => true
  | .lst ds => D.tames ds
  | .tup ds => D.tames ds
  | .dK ks ds => decide (ks.length ≤ 1) && D.tames ds
  | _ => false
def D.tames : List D → Bool
  | [] => true
  | d :: ds => d.tame && D.tames ds
end
mutual
def D.dep : D → Nat
  | .lst ds => D.deps ds + 1
  | .tup ds => D.deps ds + 1
  | .dK _ ds => D.deps ds + 1
  | _ => 0
def D.deps : List D → Nat
  | [] => 0
  | d :: ds => max d.dep (D.deps ds)
end
open PySem.W (EqTree) in
section
variable {X : Cx} {pins : List (Addr × Obj)} {σ : L2.St} {H : Hp} {s : Shared}
theorem tree_leaf {n : Nat} {x : V} {v u : Value} (r : RelV x v) (r' : RelV x u) (f : flatB x = true) : EqTree X.prog X.w s n v u true := .leaf fun A _ => eqAt_same r r' f
theorem all_true (n : Nat) : ((List.range n).all fun _ => true) = true := by simp
mutual
theorem tree_of (I : Inv X pins σ H s) : ∀ (d : D) (n : Nat) (x y : V) (v u : Value), d.tame = true → d.dep ≤ n → Rp X.K H d x → Rp X.K H d y → RelV x v → RelV y u → EqTree X.prog X.w s n v u true
  | .non, n, x, y, v, u, _, _, h, h', r, r' => by simp only [Rp] at h h'; subst h h'; exact tree_leaf r r' rfl
  | .bl b, n, x, y, v, u, _, _, h, h', r, r' => by simp only [Rp] at h h'; subst h h'; exact tree_leaf r r' rfl
  | .int b, n, x, y, v, u, _, _, h, h', r, r' => by simp only [Rp] at h h'; subst h h'; exact tree_leaf r r' rfl
  | .str b, n, x, y, v, u, _, _, h, h', r, r' => by simp only [Rp] at h h'; subst h h'; exact tree_leaf r r' rfl
  | .lst ds, n, x, y, v, u, ht, hn, h, h', r, r' => by
    simp only [Rp] at h h'
    obtain ⟨a, xs, e1, h1, h2⟩ := h
    obtain ⟨b, ys, e3, h3, h4⟩ := h'
    subst e1 e3
    cases r
    cases r'
    by_cases e : a = b
    · subst e; exact .same
    · obtain ⟨us, r1, p1, _⟩ := I.list (SqL.of h1)
      obtain ⟨ws, r2, p2, _⟩ := I.list (SqL.of h3)
      obtain ⟨m, rfl⟩ : ∃ m, n = m + 1 := ⟨n - 1, by simp only [D.dep] at hn; omega⟩
      have hz : us.toArray.size = ws.toArray.size := by rw [List.size_toArray, List.size_toArray, ← r1.length, ← r2.length, h2.len, h4.len]
      have t := EqTree.lists (prog := X.prog) (w := X.w) (n := m) (e := fun _ => true) e p1.isList p2.isList hz fun j j1 j2 => by
        have := trees_of I ds m xs ys us ws (by simpa [D.tame] using ht) (by simp only [D.dep] at hn; omega) h2 h4 r1 r2 j (by simpa using j1) (by simpa using j2)
        simpa using this
      rw [all_true] at t
      exact t
  | .tup ds, n, x, y, v, u, ht, hn, h, h', r, r' => by
    simp only [Rp] at h h'
    obtain ⟨a, xs, e1, h1, h2⟩ := h
    obtain ⟨b, ys, e3, h3, h4⟩ := h'
    subst e1 e3
    cases r
    cases r'
    by_cases e : a = b
    · subst e; exact .same
    · obtain ⟨us, r1, p1, _⟩ := I.tuple (SqT.of h1)
      obtain ⟨ws, r2, p2, _⟩ := I.tuple (SqT.of h3)
      obtain ⟨m, rfl⟩ : ∃ m, n = m + 1 := ⟨n - 1, by simp only [D.dep] at hn; omega⟩
      have hz : us.toArray.size = ws.toArray.size := by rw [List.size_toArray, List.size_toArray, ← r1.length, ← r2.length, h2.len, h4.len]
      have t := EqTree.tuples (prog := X.prog) (w := X.w) (n := m) (e := fun _ => true) e p1 p2 fun j j1 j2 => by
        have := trees_of I ds m xs ys us ws (by simpa [D.tame] using ht) (by simp only [D.dep] at hn; omega) h2 h4 r1 r2 j (by simpa using j1) (by simpa using j2)
        simpa using this
      rw [all_true, hz] at t
      simpa using t
  | .dK ks ds, n, x, y, v, u, ht, hn, h, h', r, r' => by
    simp only [Rp] at h h'
    obtain ⟨a, kvs, e1, h1, k1, h2⟩ := h
    obtain ⟨b, lvs, e3, h3, k2, h4⟩ := h'
    subst e1 e3
    cases r
    cases r'
    by_cases e : a = b
    · subst e; exact .same
    · obtain ⟨_, ya, va, ra, da⟩ := (show ObjOk X.prog X.w H s.heap a (.dK kvs) from I.hok a _ h1)
      obtain ⟨_, yb, vb, rb, db⟩ := (show ObjOk X.prog X.w H s.heap b (.dK lvs) from I.hok b _ h3)
      obtain ⟨m, rfl⟩ : ∃ m, n = m + 1 := ⟨n - 1, by simp only [D.dep] at hn; omega⟩
      simp only [D.tame, Bool.and_eq_true, decide_eq_true_eq] at ht
      have l1 : kvs.length ≤ 1 := by rw [← List.length_map (f := (·.1)), k1]; exact ht.1
      have l2 : lvs.length = kvs.length := by rw [← List.length_map (f := (·.1)) (as := lvs), ← List.length_map (f := (·.1)) (as := kvs), k1, k2]
      cases kvs with
      | nil =>
        cases lvs with
        | cons _ _ => simp at l2
        | nil =>
          cases ra
          cases rb
          have t := EqTree.dicts (prog := X.prog) (w := X.w) (n := m) (e := fun _ => true) e ya yb da db fun k v y hm _ => nomatch hm
          simpa using t
      | cons p kr =>
        cases kr with
        | cons _ _ => simp at l1
        | nil =>
          cases lvs with
          | nil => simp at l2
          | cons q lr =>
            cases lr with
            | cons _ _ => simp at l2
            | nil =>
              obtain ⟨pk, pv⟩ := p
              obtain ⟨qk, qv⟩ := q
              have ek : qk = pk := by
                have := k2.trans k1.symm
                simpa using this
              subst ek
              cases ra with
              | @cons _ p2 _ _ g1 g2 =>
                cases g2
                cases rb with
                | @cons _ q2 _ _ g3 g4 =>
                  cases g4
                  obtain ⟨c1, c2⟩ := p2
                  obtain ⟨c3, c4⟩ := q2
                  obtain ⟨i1, i2⟩ := g1
                  obtain ⟨i3, i4⟩ := g3
                  dsimp only at i1 i2 i3 i4
                  subst i1 i3
                  have tt := trees_of I ds m [pv] [qv] [c2] [c4] ht.2 (by simp only [D.dep] at hn; omega) h2 h4 (.cons i2 .nil) (.cons i4 .nil) 0 (by simp) (by simp)
                  have t := EqTree.dicts (prog := X.prog) (w := X.w) (n := m) (e := fun _ => true) e ya yb da db fun k v y hm hv => by
                    simp only [List.mem_cons, List.not_mem_nil, or_false, Prod.mk.injEq] at hm
                    obtain ⟨rfl, rfl⟩ := hm
                    simp [valueAt] at hv
                    subst hv
                    exact tt
                  simpa [valueAt] using t
  | .fz _, _, _, _, _, _, ht, _, _, _, _, _ => by simp [D.tame] at ht
  | .ty _, _, _, _, _, _, ht, _, _, _, _, _ => by simp [D.tame] at ht
  | .dT _ _, _, _, _, _, _, ht, _, _, _, _, _ => by simp [D.tame] at ht
  | .ex _, _, _, _, _, _, ht, _, _, _, _, _ => by simp [D.tame] at ht
theorem trees_of (I : Inv X pins σ H s) : ∀ (ds : List D) (n : Nat) (xs ys : List V) (us ws : List Value), D.tames ds = true → D.deps ds ≤ n → Rps X.K H ds xs → Rps X.K H ds ys → Vals xs us → Vals ys ws → ∀ j (h1 : j < us.length) (h2 : j < ws.length), EqTree X.prog X.w s n us[j] ws[j] true
  | [], n, xs, ys, us, ws, _, _, h, h', r, r' => by
    simp only [Rps] at h h'
    subst h h'
    cases r
    exact fun j h1 => absurd h1 (Nat.not_lt_zero _)
  | d :: ds, n, xs, ys, us, ws, ht, hn, h, h', r, r' => by
    simp only [Rps] at h h'
    obtain ⟨x, xr, e1, h1, h2⟩ := h
    obtain ⟨y, yr, e2, h3, h4⟩ := h'
    subst e1 e2
    simp only [D.tames, Bool.and_eq_true] at ht
    simp only [D.deps] at hn
    cases r with
    | cons a1 b1 =>
      cases r' with
      | cons a2 b2 =>
        intro j j1 j2
        cases j with
        | zero => exact tree_of I d n x y _ _ ht.1 (by omega) h1 h3 a1 a2
        | succ j => exact trees_of I ds n xr yr _ _ ht.2 (by omega) h2 h4 b1 b2 j (Nat.lt_of_succ_lt_succ j1) (Nat.lt_of_succ_lt_succ j2)
end
end
end Ve

set_option Elab.async false
set_option linter.all false
set_option maxRecDepth 100000
set_option maxHeartbeats 2000000
namespace Ve
open PySem PySem.Spec PyProof.Rows L2
/-- lists with dicts within, dicts of at most one plain thing -/
def D.odd : D → Bool
  | .lst ds => D.tames ds && decide (D.deps ds ≤ 50)
  | .dK ks ds => decide (ks.length ≤ 1) && ds.all (fun d => d.shp)
  | _ => false
def rNeS (K : PySem.W.Frag) : R2 := fun x y H Q => (∃ d : D, d.odd = true ∧ Rp K H d x ∧ Rp K H d y ∧ Q (.bl false) H) ∨ rNeD K x y H Q
theorem op_neS {X : Cx} (hu : X.A.units + 65 < cLine) : OpR X (compareOp .NotEq) (rNeS X.K) := by
  intro pins s σ H x y v u Q I r r' h
  rcases h with ⟨d, hd, h, h', q⟩ | h
  · cases d with
    | lst ds =>
      simp only [D.odd, Bool.and_eq_true, decide_eq_true_eq] at hd
      simp only [Rp] at h h'
      obtain ⟨a, xs, e1, h1, h2⟩ := h
      obtain ⟨b, ys, e3, h3, h4⟩ := h'
      subst e1 e3
      cases r
      cases r'
      obtain ⟨us, r1, p1, _⟩ := I.list (SqL.of h1)
      obtain ⟨ws, r2, p2, _⟩ := I.list (SqL.of h3)
      have hz : us.toArray.size = ws.toArray.size := by rw [List.size_toArray, List.size_toArray, ← r1.length, ← r2.length, h2.len, h4.len]
      refine SeqAt.ve_neLists p1.isList p2.isList hz (by omega) (fun j j1 j2 => ?_) ⟨.bl false, H, I, rfl, q⟩
      have t := trees_of I ds 50 xs ys us ws hd.1 hd.2 h2 h4 r1 r2 j (by simpa using j1) (by simpa using j2)
      have := t.at X.A.in1 (by show X.A.units + 1 + 50 < cLine; omega)
      simpa using this
    | dK ks ds =>
      simp only [D.odd, Bool.and_eq_true, decide_eq_true_eq, List.all_eq_true] at hd
      simp only [Rp] at h h'
      obtain ⟨a, kvs, e1, h1, k1, h2⟩ := h
      obtain ⟨b, lvs, e3, h3, k2, h4⟩ := h'
      subst e1 e3
      cases r
      cases r'
      obtain ⟨_, ya, va, ra, da⟩ := (show ObjOk X.prog X.w H s.heap a (.dK kvs) from I.hok a _ h1)
      obtain ⟨_, yb, vb, rb, db⟩ := (show ObjOk X.prog X.w H s.heap b (.dK lvs) from I.hok b _ h3)
      have l1 : kvs.length ≤ 1 := by rw [← List.length_map (f := (·.1)), k1]; exact hd.1
      have l2 : lvs.length = kvs.length := by rw [← List.length_map (f := (·.1)) (as := lvs), ← List.length_map (f := (·.1)) (as := kvs), k1, k2]
      have fin : EP X pins σ Q (.bool false) s := ⟨.bl false, H, I, rfl, q⟩
      cases kvs with
      | nil =>
        cases lvs with
        | cons _ _ => simp at l2
        | nil =>
          cases ra
          cases rb
          exact PySem.W.keq_ne ya yb da db (by omega) (fun _ => .nil) fin
      | cons p kr =>
        cases kr with
        | cons _ _ => simp at l1
        | nil =>
          cases lvs with
          | nil => simp at l2
          | cons z lr =>
            cases lr with
            | cons _ _ => simp at l2
            | nil =>
              obtain ⟨pk, pv⟩ := p
              obtain ⟨qk, qv⟩ := z
              have ek : qk = pk := by
                have := k2.trans k1.symm
                simpa using this
              subst ek
              cases ds with
              | nil => simp [Rps] at h2
              | cons d dr =>
                simp only [Rps, List.map_cons, List.map_nil] at h2 h4
                obtain ⟨_, _, e5, h5, _⟩ := h2
                obtain ⟨_, _, e6, h6, _⟩ := h4
                injection e5 with e5 _
                injection e6 with e6 _
                subst e5 e6
                cases ra with
                | @cons _ p2 _ _ g1 g2 =>
                  cases g2
                  cases rb with
                  | @cons _ q2 _ _ g3 g4 =>
                    cases g4
                    obtain ⟨c1, c2⟩ := p2
                    obtain ⟨c3, c4⟩ := q2
                    obtain ⟨i1, i2⟩ := g1
                    obtain ⟨i3, i4⟩ := g3
                    dsimp only at i1 i2 i3 i4
                    subst i1 i3
                    have hs : SeqAt.shaped d.py = true := hd.2 d List.mem_cons_self
                    obtain ⟨as, w1⟩ := Dp.reads I _ _ _ (Rp.dp _ _ (SeqAt.canLay_of_shaped hs) h5) i2
                    obtain ⟨bs, w2⟩ := Dp.reads I _ _ _ (Rp.dp _ _ (SeqAt.canLay_of_shaped hs) h6) i4
                    have at_ := PySem.W.keq_at (A := X.A) w1 w2 hs hs (by show X.A.units + 1 + 64 < cLine; have := hu; omega)
                    rw [SeqAt.eqv_refl _ (SeqAt.canLay_of_shaped hs)] at at_
                    exact PySem.W.keq_ne ya yb da db (by omega) (fun _ => .hit (by simp [valueAt]) at_ .nil) fin
    | _ => simp [D.odd] at hd
  · exact op_neD (by omega) pins s σ H x y v u Q I r r' h
open Classical in
noncomputable def oNeS : Dm → Dm → Option Dm := fun a b => if a.1 = b.1 ∧ a.1.odd = true then some (.bl false, .sh) else oNe a b
section
variable {K : PySem.W.Frag}
theorem op_oNeS : Op2 K (rNeS K) oNeS := by
  intro B0 F B H g es vs a b va vb res Q fr e q
  unfold oNeS at e
  split at e
  · rename_i h
    cases e
    obtain ⟨da, ma⟩ := a
    obtain ⟨db, mb⟩ := b
    obtain ⟨h1, h2⟩ := h
    dsimp only at h1 h2
    subst h1
    obtain ⟨y, ey, ry⟩ := fr.rd
    cases ey
    have fr1 := fr.popD
    obtain ⟨z, ez, rz⟩ := fr1.rd
    cases ez
    exact .inl ⟨da, h2, rz, ry, q _ B H (Ex.refl _) (fr1.popD.push0 (Rv.mksh rp_bl))⟩
  · exact .inr (op_oNe B0 F B H g es vs a b va vb res Q fr e q)
end
/-! ## rows that are shared from here on -/
def mShR (i : Nat) (m : MS) : MS := fun ss => match ss[i]? with
  | some (some (.lst ds, .ow (.ow .sh))) => m (ss.set i (some (.lst ds, .ow .sh)))
  | _ => none
theorem All3.fs {K : PySem.W.Frag} {B B' H H' : Hp} (e : Ex B B') : ∀ {ds : List D} {xs : List V} {f : List Addr}, (∀ a ∈ f, ∀ o, H a = some o → B' a = some o) → All3 (Rv K B H (.ow .sh)) ds xs f → All3 (Rv K B' H' .sh) ds xs []
  | [], _, _, _, h => by obtain ⟨rfl, rfl⟩ := h; exact ⟨rfl, rfl⟩
  | d :: ds, xs, f, k, h => by
    obtain ⟨v, r, f1, f2, e1, e2, h1, h2⟩ := h
    subst e1; subst e2
    exact ⟨v, r, [], [], rfl, rfl, Rv.mksh (Rv.frz e _ _ _ _ rfl (fun a ha => k a (List.mem_append_left _ ha)) h1), All3.fs e (fun a ha => k a (List.mem_append_right _ ha)) h2⟩
section
variable {T : Nat → Value} {W : WX} {X : Cx} {pos : Pos} {st : Stmt} {m : MS} {i : Nat}
theorem js_shr (h : JS T W X st m) : JS T W X st (mShR i m) := ps_imp h fun D σ H ⟨B0, F, B, g, ss, ts, tv, o, hl, nb, nbs', fr, e, p⟩ => by
  unfold mShR at e
  split at e
  · rename_i ds hs
    obtain ⟨v, f, hv, rv, fr2⟩ := fr.takeS hl hs
    obtain ⟨n0, ds', q, xs, gg, e0, e1, e2, e3, e4⟩ := Rv.ow_iff.mp rv
    cases e0
    subst e1
    subst e3
    have hi := (List.getElem?_eq_some_iff.mp hs).1
    have fr3 : Fr X.K B0 F B H (gg ++ (q :: g)) (ts ++ ss.set i none) (tv ++ σ) := fr2.perm (by
      rw [List.cons_append]
      exact (List.perm_middle (a := q) (l₁ := gg) (l₂ := g)).symm)
    obtain ⟨B', eb, z, fr4⟩ := fr3.shareAll
    have fr5 := Fr.putS (f := [q]) (i := i) (m := .ow .sh) hl fr4 (by simpa using hi) (Rv.ow_iff.mpr ⟨rfl, ds, q, xs, [], rfl, rfl, e2, rfl, All3.fs eb z e4⟩)
    rw [List.set_set, set_same hv] at fr5
    exact ⟨B0, F, B', g, _, ts, tv, o, hl, nb, nbs_set nbs' rfl, fr5, e, p⟩
  · cases e
/-- x[k], x a list of ours of shared items -/
def mIxO (i : Nat) (mk : ME) : ME := fun ss => match ss[i]? with
  | some (some (.lst _, .ow .sh)) => (match mk ss with
    | some (.ok k, s1) => (match s1[i]? with
      | some (some (.lst ds, .ow .sh)) => (intOf k.1).bind fun k => (atI ds k).map fun d => (.ok (d, .sh), s1)
      | _ => none)
    | some (.er x, s1) => some (.er x, s1)
    | none => none)
  | _ => none
theorem je_ixO {o ix : Expr} {mk : ME} (ho : PE X o (tVar i)) (hk : JE T W X ix mk) (hs : PlainIx ix) : JE T W X (.Subscript o ix pos) (mIxO i mk) :=
  pe_imp (pe_ix ix_seq ho hk hs) fun σ H Q ⟨B0, F, B, g, ss, ts, tv, r', ss', hl, fr, e, p⟩ => by
    unfold mIxO at e
    split at e
    · rename_i ds0 hs0
      obtain ⟨v0, f0, hv0, rv0, _⟩ := fr.takeS hl hs0
      refine ⟨v0, hv0, ?_⟩
      split at e
      · rename_i k s1 hm
        refine ⟨B0, F, B, g, ss, ts, tv, .ok k, s1, hl, fr, hm, fun kv B2 H2 x2 fr2 => ?_⟩
        split at e
        · rename_i ds hs1
          cases hk : intOf k.1 with
          | none => rw [hk] at e; cases e
          | some k' =>
            rw [hk] at e
            replace e : ((atI ds k').map fun d => (Rr.ok (d, Md.sh), s1)) = some (r', ss') := e
            cases hd : atI ds k' with
            | none => rw [hd] at e; cases e
            | some d =>
              rw [hd] at e
              cases e
              obtain ⟨kv', ek, rk⟩ := Fr.rd (d := k.1) (m := k.2) fr2
              cases ek
              rw [intOf_eq hk] at rk
              simp only [Rp] at rk
              obtain ⟨v1, f1, hv1, rv1, _⟩ := Fr.takeS (ts := some k :: ts) (tv := some kv :: tv) (by simp [hl]) fr2 hs1
              rw [hv0] at hv1
              cases hv1
              obtain ⟨_, ds', q, xs, gg, e0, e1, e2, e3, e4⟩ := Rv.ow_iff.mp rv1
              cases e0
              subst e1
              obtain ⟨w, hw, rw_⟩ := atI_rps e4.toRps hd
              exact .inl ⟨q, xs, k', w, rfl, rk, SqL.of e2, hw, p w B2 H2 x2 (fr2.popD.push0 (Rv.mksh rw_))⟩
        · cases e
      · rename_i x s1 hm
        cases e
        exact ⟨B0, F, B, g, ss, ts, tv, .er x, ss', hl, fr, hm, p⟩
      · cases e
    · cases e
/-- {k: [j]} -/
theorem je_dict1 {k j : Int} {jk jj : Nat} {p1 p2 p3 : Pos} : JE T W X (.Dict [some (.Constant (.int k) jk p1)] [.List [.Constant (.int j) jj p2] p3] pos) (mC (.dK [.inl k] [.lst [.int j]])) :=
  pe_imp (pe_disp (pps_cons pe_int (pe_lst (pa_cons pe_int pa_nil rfl)) pps_nil) rfl rfl (by simp) (by simp)) fun σ H Q ⟨B0, F, B, g, ss, ts, tv, r', ss', hl, fr, e, p⟩ => by
    cases e
    intro a ha
    refine ⟨show ([V.int j] : List V).length ≤ sizeLine from by rw [sizeLine_eq]; simp, fun q hq => ?_⟩
    have hqa : q ≠ a := fun z => by
      rw [z, upd_same] at hq
      cases hq
    have hq0 : H q = none := by rw [upd_ne hqa] at hq; exact hq
    have hH : upd (upd (upd H a (.dK [])) q (.lst [.int j])) a (.dK [(.inl k, .ref q)]) = upd (upd H q (.lst [.int j])) a (.dK [(.inl k, .ref q)]) := by
      funext b
      by_cases h1 : b = a
      · subst h1; rw [upd_same, upd_same]
      · rw [upd_ne h1, upd_ne h1]
        by_cases h2 : b = q
        · subst h2; rw [upd_same, upd_same]
        · rw [upd_ne h2, upd_ne h2, upd_ne h1]
    refine ⟨by rw [upd_ne (fun z => hqa z.symm), upd_same], [(.inl k, .ref q)], rfl, by simp, ?_⟩
    show Q (.ref a) (upd (upd (upd H a (.dK [])) q (.lst [.int j])) a (.dK [(.inl k, .ref q)]))
    rw [hH]
    have f1 := fr.allocS (o := .lst [.int j]) hq0
    have ha2 : upd H q (.lst [.int j]) a = none := by rw [upd_ne (fun z => hqa z.symm)]; exact ha
    have f2 := f1.allocS (o := .dK [(.inl k, .ref q)]) ha2
    refine p _ _ _ ((Ex.new hq0).trans (Ex.new ha2)) (f2.push0 (Rv.mksh ?_))
    simp only [Rp, Rps]
    refine ⟨a, [(.inl k, .ref q)], rfl, upd_same, rfl, .ref q, [], rfl, ⟨q, [.int j], rfl, ?_, .int j, [], rfl, rfl, rfl⟩, rfl⟩
    rw [upd_ne hqa, upd_same]
end
end Ve

set_option Elab.async false
set_option linter.all false
set_option maxRecDepth 100000
set_option maxHeartbeats 2000000
namespace Ve
open PySem PySem.Spec PyProof.Rows L2
/-! ## lists that stand in a tuple of ours -/
section
variable {K : PySem.W.Frag} {B0 F B B' H H' : Hp} {g f : List Addr} {ss ts : SS} {tv : List (Option V)} {σ : L2.St}
theorem All3.shNil : ∀ {ds : List D} {xs : List V} {f : List Addr}, All3 (Rv K B H .sh) ds xs f → f = []
  | [], _, _, h => h.2
  | d :: ds, xs, f, h => by
    obtain ⟨v, r, g1, g2, _, k2, k3, k4⟩ := h
    simp only [Rv] at k3
    rw [k2, k3.2, k4.shNil]
    rfl
theorem Rvs.part : ∀ {ms : List Md} {ds : List D} {xs : List V} {f : List Addr} {j : Nat} {em : Md} {zs : List D}, Md.nbs ms = true → Rvs K B H ms ds xs f → ms[j]? = some (.ow em) → ds[j]? = some (.lst zs) →
    ∃ q vs gg f1 f2, f = f1 ++ ((q :: gg) ++ f2) ∧ xs[j]? = some (.ref q) ∧ H q = some (.lst vs) ∧ All3 (Rv K B H em) zs vs gg ∧
      ∀ (B' H' : Hp) (em' : Md) (zs' : List D) (vs' : List V) (gg' : List Addr), Ex B B' → H' q = some (.lst vs') → em'.nb = true → All3 (Rv K B' H' em') zs' vs' gg' → (∀ b ∈ f1 ++ f2, ∀ o, H b = some o → H' b = some o) →
        Rvs K B' H' (ms.set j (.ow em')) (ds.set j (.lst zs')) xs (f1 ++ ((q :: gg') ++ f2))
  | [], _, _, _, _, _, _, _, _, h, _ => by simp at h
  | m :: ms, ds, xs, f, j, em, zs, n, r, hm, hd => by
    simp only [Rvs] at r
    obtain ⟨d, dr, v, vr, g1, g2, e1, e2, e3, r1, r2⟩ := r
    subst e1 e2 e3
    simp only [Md.nbs, Bool.and_eq_true] at n
    cases j with
    | zero =>
      simp only [List.getElem?_cons_zero, Option.some.injEq] at hm hd
      subst hm hd
      obtain ⟨n0, ds', q, vs, gg, e0, e1, e2, e3, e4⟩ := Rv.ow_iff.mp r1
      cases e0
      subst e1 e3
      refine ⟨q, vs, gg, [], g2, rfl, rfl, e2, e4, fun B' H' em' zs' vs' gg' eB h1 h2 h3 h4 => ?_⟩
      simp only [List.set_cons_zero, List.nil_append]
      simp only [Rvs]
      exact ⟨_, dr, _, vr, q :: gg', g2, rfl, rfl, rfl, Rv.ow_iff.mpr ⟨h2, zs', q, vs', gg', rfl, rfl, h1, rfl, h3⟩, Rvs.keep eB _ _ _ _ n.2 (fun b hb => h4 b (by simpa using hb)) r2⟩
    | succ j =>
      simp only [List.getElem?_cons_succ] at hm hd
      obtain ⟨q, vs, gg, f1, f2, e1, e2, e3, e4, e5⟩ := Rvs.part n.2 r2 hm hd
      subst e1
      refine ⟨q, vs, gg, g1 ++ f1, f2, by simp, by simpa using e2, e3, e4, fun B' H' em' zs' vs' gg' eB h1 h2 h3 h4 => ?_⟩
      simp only [List.set_cons_succ, List.append_assoc]
      simp only [Rvs]
      exact ⟨d, _, v, vr, g1, _, rfl, rfl, rfl, Rv.keep eB _ _ _ _ n.1 (fun b hb => h4 b (by simp [hb])) r1, e5 B' H' em' zs' vs' gg' eB h1 h2 h3 fun b hb => h4 b (by
        rcases List.mem_append.mp hb with hb | hb
        · simp [hb]
        · simp [hb])⟩
theorem Rvs.mdlen : ∀ {ms : List Md} {ds : List D} {xs : List V} {f : List Addr}, Rvs K B H ms ds xs f → ms.length = ds.length ∧ xs.length = ds.length
  | [], _, _, _, h => by simp only [Rvs] at h; obtain ⟨rfl, rfl, rfl⟩ := h; exact ⟨rfl, rfl⟩
  | m :: ms, _, _, _, h => by
    simp only [Rvs] at h
    obtain ⟨d, dr, v, vr, g1, g2, e1, e2, e3, r1, r2⟩ := h
    subst e1 e2
    obtain ⟨h1, h2⟩ := Rvs.mdlen r2
    exact ⟨by simp [h1], by simp [h2]⟩
theorem nbs_set_md : ∀ {ms : List Md} {j : Nat} {m : Md}, Md.nbs ms = true → m.nb = true → Md.nbs (ms.set j m) = true
  | [], _, _, _, _ => rfl
  | x :: ms, 0, m, h, hm => by simp only [Md.nbs, Bool.and_eq_true, List.set_cons_zero] at h ⊢; exact ⟨hm, h.2⟩
  | x :: ms, j + 1, m, h, hm => by simp only [Md.nbs, Bool.and_eq_true, List.set_cons_succ] at h ⊢; exact ⟨h.1, nbs_set_md h.2 hm⟩
end
/-- the tuple at slot i -/
def tupOf (ss : SS) (i : Nat) : Option (List D × List Md) := match ss[i]? with
  | some (some (.tup ds, .tp ms)) => some (ds, ms)
  | _ => none
/-- its part j: a list of ours -/
def partOf (ss : SS) (i j : Nat) : Option (List D × Md) := (tupOf ss i).bind fun t => match t.1[j]?, t.2[j]? with
  | some (.lst zs), some (.ow em) => some (zs, em)
  | _, _ => none
def setPart (ss : SS) (i j : Nat) (zs : List D) (em : Md) : SS := match tupOf ss i with
  | some t => ss.set i (some (.tup (t.1.set j (.lst zs)), .tp (t.2.set j (.ow em))))
  | none => ss
section
variable {K : PySem.W.Frag} {B0 F B B' H H' : Hp} {g f : List Addr} {ss ts : SS} {tv : List (Option V)} {σ : L2.St} {i j : Nat} {zs : List D} {em : Md}
theorem tupOf_eq {t : List D × List Md} (h : tupOf ss i = some t) : ss[i]? = some (some (.tup t.1, .tp t.2)) := by
  unfold tupOf at h
  split at h
  · cases h; assumption
  · cases h
theorem partOf_eq (h : partOf ss i j = some (zs, em)) : ∃ ds ms, tupOf ss i = some (ds, ms) ∧ ds[j]? = some (.lst zs) ∧ ms[j]? = some (.ow em) := by
  unfold partOf at h
  obtain ⟨t, h1, h2⟩ := obind h
  obtain ⟨ds, ms⟩ := t
  refine ⟨ds, ms, h1, ?_⟩
  dsimp only at h2
  split at h2
  · rename_i a b c d
    cases h2
    exact ⟨c, d⟩
  · cases h2
theorem Fr.tupAt2 {t : List D × List Md} (hl : ts.length = tv.length) (fr : Fr K B0 F B H g (ts ++ ss) (tv ++ σ)) (h : tupOf ss i = some t) : ∃ a xs, σ[i]? = some (some (.ref a)) ∧ H a = some (.tup xs) ∧ xs.length = t.1.length := by
  obtain ⟨v, f, hv, rv, fr2⟩ := fr.takeS hl (tupOf_eq h)
  simp only [Rv] at rv
  obtain ⟨_, ds, a, xs, e1, e2, e3, r⟩ := rv
  cases e1
  subst e2
  exact ⟨a, xs, hv, fr.ex _ _ e3, (Rvs.mdlen r).2⟩
/-- part j, and what may stand in its place -/
theorem Fr.part (hl : ts.length = tv.length) (nb : nbs ts) (ns : nbs ss) (fr : Fr K B0 F B H g (ts ++ ss) (tv ++ σ)) (h : partOf ss i j = some (zs, em)) :
    ∃ a xs q vs gg, σ[i]? = some (some (.ref a)) ∧ H a = some (.tup xs) ∧ xs[j]? = some (.ref q) ∧ H q = some (.lst vs) ∧ em.nb = true ∧ All3 (Rv K B H em) zs vs gg ∧ (q :: gg).Nodup ∧
      (∀ zs' vs', All3 (Rv K B (upd H q (.lst vs')) em) zs' vs' gg → Fr K B0 F B (upd H q (.lst vs')) g (ts ++ setPart ss i j zs' em) (tv ++ σ)) ∧
      (∀ p o zs', p ∈ gg → Own1 o → All3 (Rv K B (upd H p o) em) zs' vs gg → Fr K B0 F B (upd H p o) g (ts ++ setPart ss i j zs' em) (tv ++ σ)) ∧
      (∃ B', Ex B B' ∧ (∀ a ∈ gg, ∀ o, H a = some o → B' a = some o) ∧ ∀ zs', All3 (Rv K B' H .sh) zs' vs [] → Fr K B0 F B' H g (ts ++ setPart ss i j zs' .sh) (tv ++ σ)) := by
  obtain ⟨ds, ms, ht, hd, hm⟩ := partOf_eq h
  have hs := tupOf_eq ht
  have hi := (List.getElem?_eq_some_iff.mp hs).1
  obtain ⟨v, f, hv, rv, fr2⟩ := fr.takeS hl hs
  simp only [Rv] at rv
  obtain ⟨n0, ds', a, xs, e1, e2, e3, r⟩ := rv
  cases e1
  subst e2
  obtain ⟨q, vs, gg, f1, f2, ef, x1, x2, x3, x4⟩ := Rvs.part n0 r hm hd
  subst ef
  have hnb : em.nb = true := by
    have : ∀ {ms : List Md} {j : Nat}, Md.nbs ms = true → ms[j]? = some (.ow em) → em.nb = true := fun {ms} => by
      induction ms with
      | nil => intro j _ h; simp at h
      | cons m ms ih =>
        intro j h1 h2
        simp only [Md.nbs, Bool.and_eq_true] at h1
        cases j with
        | zero => simp at h2; subst h2; exact h1.1
        | succ j => exact ih h1.2 (by simpa using h2)
    exact this n0 hm
  have nd := (List.nodup_append.mp fr2.nd).1
  have nd3 : (q :: gg).Nodup := by
    have := (List.nodup_append.mp nd).2.1
    exact (List.nodup_append.mp this).1
  have oth : ∀ b ∈ f1 ++ f2, b ∉ q :: gg := fun b hb hm => by
    obtain ⟨n1, n2, n3⟩ := List.nodup_append.mp nd
    obtain ⟨n4, n5, n6⟩ := List.nodup_append.mp n2
    rcases List.mem_append.mp hb with hb | hb
    · exact n3 b hb b (List.mem_append_left _ hm) rfl
    · exact n6 b hm b hb rfl
  have hsp : ∀ zs' em', setPart ss i j zs' em' = ss.set i (some (.tup (ds.set j (.lst zs')), .tp (ms.set j (.ow em')))) := fun zs' em' => by
    unfold setPart
    rw [ht]
  have put : ∀ (B2 H2 : Hp) (f' : List Addr) (zs' : List D) (em' : Md), em'.nb = true → B2 a = some (.tup xs) → Fr K B0 F B2 H2 (f' ++ g) (ts ++ ss.set i none) (tv ++ σ) → Rvs K B2 H2 (ms.set j (.ow em')) (ds.set j (.lst zs')) xs f' → Fr K B0 F B2 H2 g (ts ++ setPart ss i j zs' em') (tv ++ σ) := fun B2 H2 f' zs' em' ne hB fr3 r3 => by
    have fr4 := Fr.putS (f := f') (i := i) (d := .tup (ds.set j (.lst zs'))) (m := .tp (ms.set j (.ow em'))) (v := .ref a) hl fr3 (by simpa using hi) (by
      simp only [Rv]
      exact ⟨nbs_set_md n0 ne, _, a, xs, rfl, rfl, hB, r3⟩)
    rw [List.set_set, set_same hv] at fr4
    rw [hsp]
    exact fr4
  have nb2 : nbs (ts ++ ss.set i none) := nbs_app nb (nbs_set ns rfl)
  refine ⟨a, xs, q, vs, gg, hv, fr.ex _ _ e3, x1, x2, hnb, x3, nd3, fun zs' vs' h1 => ?_, fun p o zs' hp ho h1 => ?_, ?_⟩
  · have fr3 := fr2.write (p := q) (o := .lst vs') (by simp) nb2 trivial
    refine put B (upd H q (.lst vs')) _ zs' em hnb e3 fr3 (x4 B _ em zs' vs' gg (Ex.refl _) upd_same hnb h1 fun b hb o ho => ?_)
    rw [upd_ne (fun z => oth b hb (by rw [z]; exact List.mem_cons_self))]
    exact ho
  · have fr3 := fr2.write (p := p) (o := o) (by simp [hp]) nb2 ho
    have hqp : q ≠ p := fun z => (List.nodup_cons.mp nd3).1 (by rw [z]; exact hp)
    refine put B (upd H p o) _ zs' em hnb e3 fr3 (x4 B _ em zs' vs gg (Ex.refl _) (by rw [upd_ne hqp]; exact x2) hnb h1 fun b hb o' ho' => ?_)
    rw [upd_ne (fun z => oth b hb (by rw [z]; exact List.mem_cons_of_mem _ hp))]
    exact ho'
  · have fr3 : Fr K B0 F B H (gg ++ ((f1 ++ ([q] ++ f2)) ++ g)) (ts ++ ss.set i none) (tv ++ σ) := fr2.perm (by
      have e1 : (f1 ++ ((q :: gg) ++ f2) ++ g).Perm (gg ++ (f1 ++ ([q] ++ f2)) ++ g) := List.Perm.append_right g (by
        have h1 : (f1 ++ ((q :: gg) ++ f2)).Perm (f1 ++ (gg ++ ([q] ++ f2))) := List.Perm.append_left f1 (by
          have : ((q :: gg) ++ f2).Perm ((gg ++ [q]) ++ f2) := List.Perm.append_right f2 (List.perm_append_comm (l₁ := [q]) (l₂ := gg))
          simpa using this)
        refine h1.trans ?_
        rw [← List.append_assoc, ← List.append_assoc (as := gg)]
        exact List.Perm.append_right _ List.perm_append_comm)
      simpa using e1)
    obtain ⟨B', eb, z, fr4⟩ := fr3.shareAll
    refine ⟨B', eb, z, fun zs' h1 => ?_⟩
    exact put B' H _ zs' .sh rfl (eb _ _ e3) fr4 (x4 B' H .sh zs' vs [] eb x2 rfl h1 fun b _ o ho => ho)
end
end Ve

set_option Elab.async false
set_option linter.all false
set_option maxRecDepth 100000
set_option maxHeartbeats 2000000
namespace Ve
open PySem PySem.Spec PyProof.Rows L2
/-- t[j], a list of ours: the slots behind, the part's number -/
def mPlc (i : Nat) (mj : ME) : SS → Option (Nat × SS) := fun ss => (tupOf ss i).bind fun _ => match mj ss with
  | some (.ok j, s2) => (intOf j.1).bind fun j => (tupOf s2 i).bind fun t => (ixN t.1.length j).bind fun jn => if nbB s2 then (partOf s2 i jn).map fun _ => (jn, s2) else none
  | _ => none
section
variable {K : PySem.W.Frag} {T : Nat → Value} {W : WX} {B0 F B H : Hp} {g : List Addr} {ss ts : SS} {tv : List (Option V)} {σ : L2.St} {i : Nat} {mj : ME}
/-- where the part stands -/
def PlcAt (σ : L2.St) (H : Hp) (i jn : Nat) (q : Addr) : Prop := ∃ a xs, σ[i]? = some (some (.ref a)) ∧ H a = some (.tup xs) ∧ xs[jn]? = some (.ref q)
theorem PlcAt.same {H' : Hp} {jn : Nat} {q q' : Addr} (h : PlcAt σ H i jn q) (e : Ex H H') (h' : PlcAt σ H' i jn q') : q' = q := by
  obtain ⟨a, xs, h1, h2, h3⟩ := h
  obtain ⟨a', xs', h1', h2', h3'⟩ := h'
  rw [h1] at h1'
  cases h1'
  rw [e _ _ h2] at h2'
  cases h2'
  rw [h3] at h3'
  cases h3'
  rfl
theorem plc_ok {s2 : SS} {jn : Nat} {Q : VK} (hl : ts.length = tv.length) (fr : Fr K B0 F B H g (ts ++ ss) (tv ++ σ)) (h : mPlc i mj ss = some (jn, s2))
    (k : ∀ B2 H2 q, Ex H H2 → Fr K B0 F B2 H2 g (ts ++ s2) (tv ++ σ) → PlcAt σ H2 i jn q → Q (.ref q) H2) : tOp (rIx K) (tVar i) (tE K T W mj) σ H Q := by
  unfold mPlc at h
  obtain ⟨t1, ht1, h⟩ := obind h
  obtain ⟨a1, xs1, hv1, _, _⟩ := fr.tupAt2 hl ht1
  refine ⟨_, hv1, ?_⟩
  split at h
  · rename_i j s2' hm
    obtain ⟨j', hj', h⟩ := obind h
    obtain ⟨t2, ht2, h⟩ := obind h
    obtain ⟨jn', hjn, h⟩ := obind h
    split at h
    · rename_i hnb
      cases hp : partOf s2' i jn' with
      | none => rw [hp] at h; cases h
      | some p =>
        rw [hp] at h
        cases h
        refine ⟨B0, F, B, g, ss, ts, tv, .ok j, s2, hl, fr, hm, fun jv B2 H2 x2 fr2 => ?_⟩
        obtain ⟨jv', ej, rj⟩ := Fr.rd (d := j.1) (m := j.2) fr2
        cases ej
        rw [intOf_eq hj'] at rj
        simp only [Rp] at rj
        have fr3 := fr2.popD
        obtain ⟨a2, xs2, hv2, ha2, hl2⟩ := fr3.tupAt2 hl ht2
        rw [hv1] at hv2
        cases hv2
        have hjl := (ixN_seq hjn).2.1
        -- the part
        obtain ⟨ds, ms, ht3, hd, hm3⟩ := partOf_eq (zs := p.1) (em := p.2) hp
        rw [ht2] at ht3
        cases ht3
        obtain ⟨v, f, hv, rv, _⟩ := fr3.takeS hl (tupOf_eq ht2)
        rw [hv1] at hv
        cases hv
        simp only [Rv] at rv
        obtain ⟨n0, ds', a, xs, e1, e2, e3, r⟩ := rv
        cases e1
        cases e2
        obtain ⟨q, vs, gg, f1, f2, ef, x1, _⟩ := Rvs.part n0 r hm3 hd
        rw [fr3.ex _ _ e3] at ha2
        cases ha2
        refine .inr (.inl ⟨_, xs2, j', .ref q, rfl, rj, SqT.of (fr3.ex _ _ e3), ?_, k B2 H2 q x2 fr3 ⟨_, xs2, hv1, fr3.ex _ _ e3, x1⟩⟩)
        show (ixN xs2.length j').bind (fun j => xs2[j]?) = some (.ref q)
        rw [hl2, hjn]
        exact x1
    · cases h
  · cases h
end
/-- t[j][k] = e -/
def mStP (i : Nat) (me mj mk : ME) : MS := fun ss => match me ss with
  | some (.ok a, s1) => (mPlc i mj s1).bind fun z => (match mk z.2 with
    | some (.ok k, s3) => (intOf k.1).bind fun k => (partOf s3 i z.1).bind fun p => (ixN p.1.length k).bind fun kn => if p.2.beq .sh && isSh a.2 && nbB s3 then some (.nx (setPart s3 i z.1 (p.1.set kn a.1) .sh)) else none
    | _ => none)
  | _ => none
/-- t[j].append(e) -/
def mApP (i : Nat) (mj me : ME) : MS := fun ss => (mPlc i mj ss).bind fun z => match me z.2 with
  | some (.ok a, s3) => (partOf s3 i z.1).bind fun p => if p.2.beq .sh && isSh a.2 && nbB s3 && decide (p.1.length < lim) then some (.nx (setPart s3 i z.1 (p.1 ++ [a.1]) .sh)) else none
  | _ => none
/-- t[j].pop() -/
def mPopP (i : Nat) (mj : ME) : MS := fun ss => (mPlc i mj ss).bind fun z => (partOf z.2 i z.1).bind fun p => if p.2.beq .sh && nbB z.2 && decide (p.1 ≠ []) then some (.nx (setPart z.2 i z.1 p.1.dropLast .sh)) else none
theorem Rps.dropLast {K : PySem.W.Frag} {B : Hp} {ds : List D} {xs : List V} (h : Rps K B ds xs) : Rps K B ds.dropLast xs.dropLast := by
  rw [List.dropLast_eq_take, List.dropLast_eq_take, h.len]
  exact h.take _
section
variable {T : Nat → Value} {W : WX} {X : Cx} {pos : Pos} {i : Nat} {o ij ik e : Expr} {mj mk me : ME} {pos' pos2 : Pos}
theorem js_stP (ho : PE X o (tVar i)) (hj : JE T W X ij mj) (hpl : PlainIx ij) (hk : JE T W X ik mk) (he : JE T W X e me)
    (ha : ∀ v, assign (.Subscript (.Subscript o ij pos2) ik pos') X.env v = (do
      let ov ← holding [v] (eval (.Subscript o ij pos2) X.env)
      let iv ← holding [v, ov] (eval ik X.env)
      standAt pos'
      holding [v, ov, iv] (setItem ov iv v)
      release [v, ov, iv] []) := by intro _; rfl)
    (hs : swapsWithSole [.Subscript (.Subscript o ij pos2) ik pos'] e pos.line X.env = pure false := by rfl) (hw : swappedStores [.Subscript (.Subscript o ij pos2) ik pos'] e X.env = pure none := by rfl)
    (h1 : (assignEach [.Subscript (.Subscript o ij pos2) ik pos'] X.env).map (·.2) = [assign (.Subscript (.Subscript o ij pos2) ik pos') X.env] := by rfl) :
    JS T W X (.Assign [.Subscript (.Subscript o ij pos2) ik pos'] e pos) (mStP i me mj mk) :=
  ps_imp (ps_asg he (pg_sub (pe_ix ix_seq ho hj hpl) hk set_list ha) hs hw h1) fun D σ H ⟨B0, F, B, g, ss, ts, tv, o, hl, nb, nbs', fr, e, p⟩ => by
    unfold mStP at e
    split at e
    · rename_i a s1 h1
      obtain ⟨z, hz, e⟩ := obind e
      obtain ⟨jn, s2⟩ := z
      dsimp only at e
      split at e
      · rename_i k s3 h3
        obtain ⟨k', hk', e⟩ := obind e
        obtain ⟨pt, hp, e⟩ := obind e
        obtain ⟨kn, hkn, e⟩ := obind e
        split at e
        · rename_i n
          cases e
          simp only [Bool.and_eq_true] at n
          obtain ⟨⟨n1, n2⟩, n3⟩ := n
          have em1 := Md.eq_of _ _ n1
          obtain ⟨zs, em⟩ := pt
          dsimp only at em1 hkn hp p
          subst em1
          refine ⟨B0, F, B, g, ss, ts, tv, .ok a, s1, hl, fr, h1, fun y B1 H1 x1 fr1 => ?_⟩
          have hl1 : (some a :: ts).length = (some y :: tv).length := by simp [hl]
          refine plc_ok (ts := some a :: ts) (tv := some y :: tv) hl1 fr1 hz fun B2 H2 q x2 fr2 at2 => ?_
          refine ⟨B0, F, B2, g, s2, some a :: ts, some y :: tv, .ok k, s3, hl1, fr2, h3, fun kv B3 H3 x3 fr3 => ?_⟩
          obtain ⟨kv', ek, rk⟩ := Fr.rd (d := k.1) (m := k.2) fr3
          cases ek
          rw [intOf_eq hk'] at rk
          simp only [Rp] at rk
          have fr4 := fr3.popD
          obtain ⟨y', fy, ey, ry, fr5⟩ := Fr.pop1 (dm := a) fr4
          cases ey
          rw [isSh_eq n2] at ry
          simp only [Rv] at ry
          obtain ⟨ry1, rfl⟩ := ry
          obtain ⟨aa, xs, q', vs, gg, v1, v2, v3, v4, _, v5, _, v6, _⟩ := Fr.part hl nb (nbB_ok n3) fr5 hp
          have hq : q' = q := at2.same x3 ⟨aa, xs, v1, v2, v3⟩
          subst hq
          have hgg := v5.shNil
          subst hgg
          have r5 := v5.toRps
          refine ⟨q', vs, k', kn, rfl, rk, v4, by rw [r5.len]; exact hkn, ?_⟩
          exact p σ B3 _ (v6 (zs.set kn a.1) (vs.set kn y) (All3.ofRps (Rps.set r5 ry1)))
        · cases e
      · cases e
    · cases e
theorem js_apP {apos cpos : Pos} (ho : PE X o (tVar i)) (hj : JE T W X ij mj) (hpl : PlainIx ij) (he : JE T W X e me)
    (hbase : attributeBase (.Subscript o ij pos2) "append" X.env (eval (.Subscript o ij pos2) X.env) = eval (.Subscript o ij pos2) X.env := by rfl)
    (hfew : ((backTo cpos (starEach (e :: []) X.env)).all (fun x => !x.1) && (backToKw cpos (keywordEach [] X.env)).all (fun x => x.1.isSome)
      && decide ((e :: []).length + ([] : List Keyword).length + (if ([] : List Keyword).isEmpty then 0 else 1) < 30)) = true := by rfl)
    (hline : (apos.endLine == cpos.line) = true := by rfl) (hs : starEach (e :: []) X.env = (false, eval e X.env) :: starEach [] X.env := by rfl) (hplain : (backTo cpos (starEach [] X.env)).any (·.1) = false := by rfl)
    (hsw : swapsWith (.Call (.Attribute (.Subscript o ij pos2) "append" apos) [e] [] cpos) none pos.line X.env = pure false := by rfl) :
    JS T W X (.Expr (.Call (.Attribute (.Subscript o ij pos2) "append" apos) [e] [] cpos) pos) (mApP i mj me) :=
  ps_imp (ps_expr (pe_bm PySem.F.plainAttrs_list PySem.F.slot_list_append PySem.F.type_list_append mt_append (pe_ix ix_seq ho hj hpl) (pa_cons he pa_nil hs) hbase hfew hline hs hplain) hsw) fun D σ H ⟨B0, F, B, g, ss, ts, tv, o, hl, nb, nbs', fr, e, p⟩ => by
    unfold mApP at e
    obtain ⟨z, hz, e⟩ := obind e
    obtain ⟨jn, s2⟩ := z
    dsimp only at e
    split at e
    · rename_i a s3 h3
      obtain ⟨pt, hp, e⟩ := obind e
      split at e
      · rename_i n
        cases e
        simp only [Bool.and_eq_true, decide_eq_true_eq] at n
        obtain ⟨⟨⟨n1, n2⟩, n3⟩, n4⟩ := n
        have em1 := Md.eq_of _ _ n1
        obtain ⟨zs, em⟩ := pt
        dsimp only at em1 hp p n4
        subst em1
        refine plc_ok hl fr hz fun B2 H2 q x2 fr2 at2 => ?_
        have hz2 := hz
        unfold mPlc at hz2
        obtain ⟨_, _, hz2⟩ := obind hz2
        have hpp : ∃ zs2 em2, partOf s2 i jn = some (zs2, em2) ∧ nbB s2 = true := by
          split at hz2
          · obtain ⟨_, _, hz2⟩ := obind hz2
            obtain ⟨_, _, hz2⟩ := obind hz2
            obtain ⟨jq, _, hz2⟩ := obind hz2
            split at hz2
            · rename_i hnb
              cases hq : partOf ‹SS› i jq with
              | none => rw [hq] at hz2; cases hz2
              | some pp =>
                rw [hq] at hz2
                cases hz2
                exact ⟨pp.1, pp.2, hq, hnb⟩
            · cases hz2
          · cases hz2
        obtain ⟨zs2, em2, hp2, hnb2⟩ := hpp
        obtain ⟨aa2, xs2, q2, vs2, gg2, w1, w2, w3, w4, _⟩ := Fr.part hl nb (nbB_ok hnb2) fr2 hp2
        have hq2 : q2 = q := at2.same (Ex.refl _) ⟨aa2, xs2, w1, w2, w3⟩
        subst hq2
        refine ⟨.inl ⟨rfl, vs2, SqL.of w4⟩, ?_⟩
        refine ⟨B0, F, B2, g, s2, ts, tv, .ok a, s3, hl, fr2, h3, fun y B3 H3 x3 fr3 => ?_⟩
        obtain ⟨y', fy, ey, ry, fr5⟩ := Fr.pop1 (dm := a) fr3
        cases ey
        rw [isSh_eq n2] at ry
        simp only [Rv] at ry
        obtain ⟨ry1, rfl⟩ := ry
        obtain ⟨aa, xs, q', vs, gg, v1, v2, v3, v4, _, v5, _, v6, _⟩ := Fr.part hl nb (nbB_ok n3) fr5 hp
        have hq : q' = q2 := at2.same x3 ⟨aa, xs, v1, v2, v3⟩
        subst hq
        have hgg := v5.shNil
        subst hgg
        have r5 := v5.toRps
        refine ⟨q', vs, y, rfl, rfl, v4, by rw [r5.len]; exact Nat.lt_trans n4 lim_lt, ?_⟩
        exact p σ B3 _ (v6 (zs ++ [a.1]) (vs ++ [y]) (All3.ofRps (Rps.app r5 (Rps.one ry1))))
      · cases e
    · cases e
theorem js_popP {apos cpos : Pos} (ho : PE X o (tVar i)) (hj : JE T W X ij mj) (hpl : PlainIx ij)
    (hbase : attributeBase (.Subscript o ij pos2) "pop" X.env (eval (.Subscript o ij pos2) X.env) = eval (.Subscript o ij pos2) X.env := by rfl)
    (hline : (apos.endLine == cpos.line) = true := by rfl) (hsw : swapsWith (.Call (.Attribute (.Subscript o ij pos2) "pop" apos) [] [] cpos) none pos.line X.env = pure false := by rfl) :
    JS T W X (.Expr (.Call (.Attribute (.Subscript o ij pos2) "pop" apos) [] [] cpos) pos) (mPopP i mj) :=
  ps_imp (ps_expr (pe_bm0 PySem.F.plainAttrs_list PySem.F.slot_list_pop PySem.F.type_list_pop mt_pop (pe_ix ix_seq ho hj hpl) hbase hline) hsw) fun D σ H ⟨B0, F, B, g, ss, ts, tv, o, hl, nb, nbs', fr, e, p⟩ => by
    unfold mPopP at e
    obtain ⟨z, hz, e⟩ := obind e
    obtain ⟨jn, s2⟩ := z
    dsimp only at e
    obtain ⟨pt, hp, e⟩ := obind e
    split at e
    · rename_i n
      cases e
      simp only [Bool.and_eq_true, decide_eq_true_eq] at n
      obtain ⟨⟨n1, n3⟩, n4⟩ := n
      have em1 := Md.eq_of _ _ n1
      obtain ⟨zs, em⟩ := pt
      dsimp only at em1 hp p n4
      subst em1
      refine plc_ok hl fr hz fun B2 H2 q x2 fr2 at2 => ?_
      obtain ⟨aa, xs, q', vs, gg, v1, v2, v3, v4, _, v5, _, v6, _⟩ := Fr.part hl nb (nbB_ok n3) fr2 hp
      have hq : q' = q := at2.same (Ex.refl _) ⟨aa, xs, v1, v2, v3⟩
      subst hq
      have hgg := v5.shNil
      subst hgg
      have r5 := v5.toRps
      have hvl : vs ≠ [] := fun z => n4 (List.eq_nil_of_length_eq_zero (by rw [← r5.len, z]; rfl))
      have hlt : vs.length - 1 < vs.length := by have := List.length_pos_iff.mpr hvl; omega
      refine ⟨.inl ⟨rfl, vs, SqL.of v4⟩, q', vs, vs[vs.length - 1], rfl, rfl, v4, by simp [hlt], ?_⟩
      exact p σ B2 _ (v6 zs.dropLast vs.dropLast (All3.ofRps r5.dropLast))
    · cases e
end
/-- the rows of part j shared from here on -/
def mShP (i j : Nat) (m : MS) : MS := fun ss => (partOf ss i j).bind fun p => match p.2 with
  | .ow .sh => if nbB ss then m (setPart ss i j p.1 .sh) else none
  | .sh => m ss
  | _ => none
/-- t[j][r][c] = e -/
def mStQ (i : Nat) (me mj mr mc : ME) : MS := fun ss => match me ss with
  | some (.ok a, s1) => (mPlc i mj s1).bind fun z => (match mr z.2 with
    | some (.ok r, s3) => (intOf r.1).bind fun r => (partOf s3 i z.1).bind fun p3 => (ixN p3.1.length r).bind fun jr => if p3.2.beq (.ow .sh) && nbB s3 then (match mc s3 with
      | some (.ok c, s4) => (intOf c.1).bind fun c => (partOf s4 i z.1).bind fun p => (match p.1[jr]? with
        | some (.lst cs) => (ixN cs.length c).bind fun jc => if p.2.beq (.ow .sh) && isSh a.2 && nbB s4 && decide (p.1.length = p3.1.length) then some (.nx (setPart s4 i z.1 (p.1.set jr (.lst (cs.set jc a.1))) (.ow .sh))) else none
        | _ => none)
      | _ => none) else none
    | _ => none)
  | _ => none
section
variable {T : Nat → Value} {W : WX} {X : Cx} {pos : Pos} {i j : Nat} {o ij ir ic e : Expr} {mj mr mc me : ME} {pos' pos2 pos3 : Pos} {st : Stmt} {m : MS}
theorem js_shP (h : JS T W X st m) : JS T W X st (mShP i j m) := ps_imp h fun D σ H ⟨B0, F, B, g, ss, ts, tv, o, hl, nb, nbs', fr, e, p⟩ => by
  unfold mShP at e
  obtain ⟨pt, hp, e⟩ := obind e
  obtain ⟨zs, em⟩ := pt
  dsimp only at e
  split at e
  · split at e
    · obtain ⟨aa, xs, q', vs, gg, v1, v2, v3, v4, _, v5, _, _, _, B', eb, z, v6⟩ := Fr.part hl nb nbs' fr hp
      have fr2 := v6 zs (All3.fs eb z v5)
      refine ⟨B0, F, B', g, _, ts, tv, o, hl, nb, ?_, fr2, e, p⟩
      unfold setPart
      obtain ⟨ds, ms, ht, _, _⟩ := partOf_eq hp
      rw [ht]
      have hnb := nbs' _ (List.mem_of_getElem? (tupOf_eq ht))
      exact nbs_set nbs' (nbs_set_md (m := .ow .sh) hnb rfl)
    · cases e
  · exact ⟨B0, F, B, g, ss, ts, tv, o, hl, nb, nbs', fr, e, p⟩
  · cases e
theorem js_stQ (ho : PE X o (tVar i)) (hj : JE T W X ij mj) (hpl : PlainIx ij) (hr : JE T W X ir mr) (hpr : PlainIx ir) (hc : JE T W X ic mc) (he : JE T W X e me)
    (ha : ∀ v, assign (.Subscript (.Subscript (.Subscript o ij pos2) ir pos3) ic pos') X.env v = (do
      let ov ← holding [v] (eval (.Subscript (.Subscript o ij pos2) ir pos3) X.env)
      let iv ← holding [v, ov] (eval ic X.env)
      standAt pos'
      holding [v, ov, iv] (setItem ov iv v)
      release [v, ov, iv] []) := by intro _; rfl)
    (hs : swapsWithSole [.Subscript (.Subscript (.Subscript o ij pos2) ir pos3) ic pos'] e pos.line X.env = pure false := by rfl) (hw : swappedStores [.Subscript (.Subscript (.Subscript o ij pos2) ir pos3) ic pos'] e X.env = pure none := by rfl)
    (h1 : (assignEach [.Subscript (.Subscript (.Subscript o ij pos2) ir pos3) ic pos'] X.env).map (·.2) = [assign (.Subscript (.Subscript (.Subscript o ij pos2) ir pos3) ic pos') X.env] := by rfl) :
    JS T W X (.Assign [.Subscript (.Subscript (.Subscript o ij pos2) ir pos3) ic pos'] e pos) (mStQ i me mj mr mc) :=
  ps_imp (ps_asg he (pg_sub (pe_ix ix_seq (pe_ix ix_seq ho hj hpl) hr hpr) hc set_list ha) hs hw h1) fun D σ H ⟨B0, F, B, g, ss, ts, tv, o, hl, nb, nbs', fr, e, p⟩ => by
    unfold mStQ at e
    split at e
    · rename_i a s1 h1
      obtain ⟨z, hz, e⟩ := obind e
      obtain ⟨jn, s2⟩ := z
      dsimp only at e
      split at e
      · rename_i r s3 h3
        obtain ⟨r', hr', e⟩ := obind e
        obtain ⟨p3, hp3, e⟩ := obind e
        obtain ⟨jr, hjr, e⟩ := obind e
        split at e
        · rename_i n0
          simp only [Bool.and_eq_true] at n0
          split at e
          · rename_i c s4 h4
            obtain ⟨c', hc', e⟩ := obind e
            obtain ⟨pt, hp, e⟩ := obind e
            split at e
            · rename_i cs hcs
              obtain ⟨jc, hjc, e⟩ := obind e
              split at e
              · rename_i n
                cases e
                simp only [Bool.and_eq_true, decide_eq_true_eq] at n
                obtain ⟨⟨⟨n1, n2⟩, n3⟩, n4⟩ := n
                have em1 := Md.eq_of _ _ n1
                have em3 := Md.eq_of _ _ n0.1
                obtain ⟨zs, em⟩ := pt
                obtain ⟨zs3, em3'⟩ := p3
                dsimp only at em1 em3 hcs hp hp3 hjr n4 p
                subst em1 em3
                refine ⟨B0, F, B, g, ss, ts, tv, .ok a, s1, hl, fr, h1, fun y B1 H1 x1 fr1 => ?_⟩
                have hl1 : (some a :: ts).length = (some y :: tv).length := by simp [hl]
                refine plc_ok (ts := some a :: ts) (tv := some y :: tv) hl1 fr1 hz fun B2 H2 q x2 fr2 at2 => ?_
                refine ⟨B0, F, B2, g, s2, some a :: ts, some y :: tv, .ok r, s3, hl1, fr2, h3, fun rv B3 H3 x3 fr3 => ?_⟩
                obtain ⟨rv', er, rr⟩ := Fr.rd (d := r.1) (m := r.2) fr3
                cases er
                rw [intOf_eq hr'] at rr
                simp only [Rp] at rr
                have fr3' := fr3.popD
                have nba : nbs (some a :: ts) := fun e he => by
                  rcases List.mem_cons.mp he with rfl | he
                  · show Md.nb a.2 = true
                    rw [isSh_eq n2]; rfl
                  · exact nb e he
                obtain ⟨aa, xs, q3, vs3, gg3, v1, v2, v3, v4, _, v5, _⟩ := Fr.part hl1 nba (nbB_ok n0.2) fr3' hp3
                have hq3 : q3 = q := at2.same x3 ⟨aa, xs, v1, v2, v3⟩
                subst hq3
                have hjl : jr < zs3.length := (ixN_seq hjr).2.1
                have hvl : vs3.length = zs3.length := v5.len
                obtain ⟨xr, hxr⟩ : ∃ xr, vs3[jr]? = some xr := ⟨vs3[jr], by simp [hvl, hjl]⟩
                refine .inl ⟨q3, vs3, r', xr, rfl, rr, SqL.of v4, ?_, ?_⟩
                · show (ixN vs3.length r').bind (fun j => vs3[j]?) = some xr
                  rw [hvl, hjr]
                  exact hxr
                · refine ⟨B0, F, B3, g, s3, some a :: ts, some y :: tv, .ok c, s4, hl1, fr3', h4, fun cv B4 H4 x4 fr4 => ?_⟩
                  obtain ⟨cv', ec, rc⟩ := Fr.rd (d := c.1) (m := c.2) fr4
                  cases ec
                  rw [intOf_eq hc'] at rc
                  simp only [Rp] at rc
                  have fr5 := fr4.popD
                  obtain ⟨y', fy, ey, ry, fr6⟩ := Fr.pop1 (dm := a) fr5
                  cases ey
                  rw [isSh_eq n2] at ry
                  simp only [Rv] at ry
                  obtain ⟨ry1, rfl⟩ := ry
                  obtain ⟨aa', xs', q4, vs, gg, w1, w2, w3, w4, _, w5, wn, _, w6, _⟩ := Fr.part hl nb (nbB_ok n3) fr6 hp
                  have hq4 : q4 = q3 := PlcAt.same ⟨aa, xs, v1, v2, v3⟩ x4 ⟨aa', xs', w1, w2, w3⟩
                  subst hq4
                  have hvs : vs = vs3 := by
                    have := x4 _ _ v4
                    rw [w4] at this
                    cases this
                    rfl
                  subst hvs
                  obtain ⟨rq, cells, f1, f4, z1, z2, z3, z4, z5⟩ := grid_row (q := q4) w5 hcs
                  rw [hxr] at z1
                  cases z1
                  refine ⟨rq, cells, c', jc, rfl, rc, z2, by rw [z3.len]; exact hjc, ?_⟩
                  have nd2 := List.nodup_cons.mp wn
                  rw [z4] at nd2
                  have hrq : ∀ b ∈ f1 ++ f4, b ≠ rq := fun b hb z => by
                    subst z
                    have n3 := nd2.2
                    rcases List.mem_append.mp hb with hb | hb
                    · exact (List.nodup_append.mp n3).2.2 b hb b (by simp) rfl
                    · have n4 := (List.nodup_append.mp n3).2.1
                      exact (List.nodup_append.mp n4).2.2 b (by simp) b hb rfl
                  have r7 := z5 (upd H4 rq (.lst (cells.set jc y))) (cs.set jc a.1) (cells.set jc y) upd_same (Rps.set z3 ry1) (fun b hb o ho => by rw [upd_ne (hrq b hb)]; exact ho)
                  exact p σ B4 _ (w6 rq _ _ (by rw [z4]; simp) trivial r7)
              · cases e
            · cases e
          · cases e
        · cases e
      · cases e
    · cases e
end
end Ve

set_option Elab.async false
set_option linter.all false
set_option maxRecDepth 100000
set_option maxHeartbeats 2000000
namespace Ve
open PySem PySem.Spec PyProof.Rows L2
/-! ## a def that takes a thing of ours and hands it back -/
abbrev MFM := List Dm → Option Dm
def SpM (K : PySem.W.Frag) (n : Nat) (fm : MFM) : Sp := fun vs H Q E => ∃ (B0 F : Hp) (as : List Dm) (dm : Dm), as.all (fun a => a.2.nb) = true ∧ as.length = n ∧ vs.length = n ∧ Fr K B0 F B0 H [] (as.map some) (vs.map some) ∧ fm as = some dm ∧ dm.2.nb = true ∧
  ∀ v B H', Fr K B0 F B H' [] [some dm] [some v] → Q v H'
def mFnM (n z : Nat) (body : MS) : MFM := fun as => if as.length = n then (match body (as.map some ++ List.replicate z none) with
  | some (.rt dm _) => if dm.2.nb then some dm else none
  | _ => none) else none
theorem nbs_all {as : List Dm} (h : as.all (fun a => a.2.nb) = true) : nbs (as.map some) := fun e he => by
  obtain ⟨a, ha, rfl⟩ := List.mem_map.mp he
  exact List.all_eq_true.mp h a ha
section
variable {P : Program} {w : World} {K : PySem.W.Frag} {mg : Str → Option Value} {base : Heap} {T : Nat → Value}
theorem t_bodyM {K : PySem.W.Frag} {T : Nat → Value} {N : List Str} {n z : Nat} {body : MS} {vs : List V} {H : Hp} {Q : VK} {E : L2.XK} (hz : N.length = n + z) (h : SpM K n (mFnM n z body) vs H Q E) :
    tS K T (fun cls d _ H => E cls d H) body { nx := fun _ H' => Q .non H', rt := Q } (L2.start N vs) H := by
  obtain ⟨B0, F, as, dm, n0, hn, hvs, fr, hf, hd, p⟩ := h
  unfold mFnM at hf
  rw [if_pos hn] at hf
  have hst : L2.start N vs = vs.map some ++ List.replicate z none := by
    unfold L2.start
    rw [hvs, hz, Nat.add_sub_cancel_left]
  have fr2 : Fr K B0 F B0 H [] ([] ++ (as.map some ++ List.replicate z none)) ([] ++ L2.start N vs) := by
    rw [hst]
    exact fr.nones (by simp [hn, hvs])
  split at hf
  · rename_i dm' s hb
    split at hf
    · cases hf
      refine ⟨B0, F, B0, [], _, [], [], .rt dm s, rfl, fun e he => (nomatch he), nbs_app (nbs_all n0) (fun e he => by rw [(List.mem_replicate.mp he).2]; rfl), fr2, hb, ?_⟩
      intro v σ' B' H' fr'
      exact p v B' H' (Fr.pre (l := [some dm]) (w := [some v]) (es := s) (vs := σ') rfl fr')
    · cases hf
  · cases hf
theorem fn_okM {x qual : Str} {st : Stmt} {f : Addr} {fd : FuncData} {N ps : List Str} {k n z : Nat} {body : MS} (F : Fun K x qual st f fd) (S : FnScope N ps (defScope st)) (hp : ps.length = n) (hz : N.length = n + z)
    (hb : ∀ (cdv : Value) (A : Around) (outer : List Env) (s : Shared) (H : Hp) (E : L2.XK), Room k (A.deeper (envOfC qual (defScope st) s.heap.objs.size f cdv)) →
      JB T (fun cls d _ H => E cls d H) (cxOf (L2N.CX P w) P w K mg base N qual (defScope st) f cdv A outer s H E) (defBody st) body) : FnOk P w K mg base (L2N.CX P w) (k + 1) f fd ps (SpM K n (mFnM n z body)) :=
  okN F S (fun vs H Q E h => by obtain ⟨_, _, _, _, _, _, h, _⟩ := h; rw [h, hp]) fun cdv A outer s H vs Q E hr h => ⟨_, hb cdv A outer s H E hr, t_bodyM hz h⟩
end
/-- return f(.., x, ..), x a thing of ours that is given up -/
def mRetM (n : Nat) (fm : MFM) (ms : MA) : MS := fun ss => match ms ss with
  | some (.ok as, s1) => if decide (as.length = n) && as.all (fun a => a.2.nb) && nbB s1 then (fm as).bind fun dm => if dm.2.nb then some (.rt dm s1) else none else none
  | _ => none
/-- f(a, g(..)): what g hands back is given to f -/
def mCallM (fm : MFM) (n2 : Nat) (f2 : MF) (m1 : ME) (ms2 : MA) : ME := fun ss => match m1 ss with
  | some (.ok a1, s1) => if isSh a1.2 then (match ms2 s1 with
    | some (.ok as, s2) => if decide (as.length = n2) && as.all (fun a => isSh a.2) then (match f2 (as.map (·.1)) with
      | some (.ok dm) => if dm.2.nb then (fm [a1, dm]).bind fun r => if r.2.nb then some (.ok r, s2) else none else none
      | _ => none) else none
    | _ => none) else none
  | _ => none
section
variable {T : Nat → Value} {W : WX} {X : Cx} {pos pos2 p p2 : Pos} {e e1 e2 : Expr}
theorem js_retM {k n : Nat} {f : Addr} {fd : FuncData} {ps : List Str} {x : Str} {es : List Expr} {fm : MFM} {ms : MA} (G : FnOk X.prog X.w X.K X.mg X.base (L2N.CX X.prog X.w) k f fd ps (SpM X.K n fm)) (hr : Room k X.A) (tk : L2N.Takes X W) (hg : Gl X x) (hm : X.mg x = some (.ref f)) (hk : PySem.W.keepIn X.K (.ref f) = true) (hb : Binds X.K fd ps [])
    (ha : JA T W X (e :: es) ms) (hdb : (x == ("__debug__" : Str)) = false := by decide) (he : starEach (e :: es) X.env = (false, eval e X.env) :: starEach es X.env := by rfl) (hpl : (backTo pos (starEach es X.env)).any (·.1) = false := by rfl) :
    JS T W X (.Return (some (.Call (.Name x p) (e :: es) [] pos)) pos2) (mRetM n fm ms) :=
  ps_imp (ps_ret (pe_callS G hr hg hm hk hb (fun σ => L2N.passAt tk σ) ha hdb he hpl)) fun D σ H ⟨B0, F, B, g, ss, ts, tv, o, hl, nb, nbs', fr, e, p⟩ => by
    unfold mRetM at e
    split at e
    · rename_i as s1 hms
      split at e
      · rename_i hc
        simp only [Bool.and_eq_true, decide_eq_true_eq] at hc
        obtain ⟨⟨c1, c2⟩, c3⟩ := hc
        obtain ⟨dm, hf, e⟩ := obind e
        split at e
        · rename_i hd
          cases e
          refine ⟨B0, F, B, g, _, ts, tv, .ok as, s1, hl, fr, hms, fun vs B1 H1 hvs x1 fr2 => ?_⟩
          obtain ⟨fa, sa, fr3⟩ := fr2.split (by simp [hvs])
          refine ⟨B1, hcut H1 fa, as, dm, c2, c1, by rw [hvs, c1], fr3.lend sa, hf, hd, fun v Bc H2 c => ?_⟩
          exact p v σ Bc H2 (fr3.callA (nbs_app nb (nbB_ok c3)) c rfl)
        · cases e
      · cases e
    · cases e
theorem je_callM {k k2 n2 : Nat} {f f' : Addr} {fd fd2 : FuncData} {ps ps2 : List Str} {x x2 : Str} {es2 : List Expr} {fm : MFM} {f2 : MF} {m1 : ME} {ms2 : MA} (G : FnOk X.prog X.w X.K X.mg X.base (L2N.CX X.prog X.w) k f fd ps (SpM X.K 2 fm)) (hr : Room k X.A)
    (G2 : FnOk X.prog X.w X.K X.mg X.base (L2N.CX X.prog X.w) k2 f' fd2 ps2 (SpF X.K T n2 f2)) (hr2 : Room k2 X.A) (tk : L2N.Takes X W) (hg : Gl X x) (hm : X.mg x = some (.ref f)) (hk : PySem.W.keepIn X.K (.ref f) = true) (hb : Binds X.K fd ps [])
    (hg2 : Gl X x2) (hm2 : X.mg x2 = some (.ref f')) (hk2 : PySem.W.keepIn X.K (.ref f') = true) (hb2 : Binds X.K fd2 ps2 []) (h1 : JE T W X e1 m1) (ha2 : JA T W X (e2 :: es2) ms2)
    (hdb : (x == ("__debug__" : Str)) = false := by decide) (hdb2 : (x2 == ("__debug__" : Str)) = false := by decide) (he2 : starEach (e2 :: es2) X.env = (false, eval e2 X.env) :: starEach es2 X.env := by rfl) (hpl2 : (backTo pos2 (starEach es2 X.env)).any (·.1) = false := by rfl)
    (he : starEach (e1 :: [.Call (.Name x2 p2) (e2 :: es2) [] pos2]) X.env = (false, eval e1 X.env) :: starEach [.Call (.Name x2 p2) (e2 :: es2) [] pos2] X.env := by rfl)
    (he3 : starEach [.Call (.Name x2 p2) (e2 :: es2) [] pos2] X.env = (false, eval (.Call (.Name x2 p2) (e2 :: es2) [] pos2) X.env) :: starEach [] X.env := by rfl) (hpl : (backTo pos (starEach [.Call (.Name x2 p2) (e2 :: es2) [] pos2] X.env)).any (·.1) = false := by rfl) :
    JE T W X (.Call (.Name x p) [e1, .Call (.Name x2 p2) (e2 :: es2) [] pos2] [] pos) (mCallM fm n2 f2 m1 ms2) :=
  pe_imp (pe_callS G hr hg hm hk hb (fun σ => L2N.passAt tk σ) (pa_cons h1 (pa_cons (pe_callS G2 hr2 hg2 hm2 hk2 hb2 (fun σ => L2N.passAt tk σ) ha2 hdb2 he2 hpl2) pa_nil he3) he) hdb he hpl) fun σ H Q ⟨B0, F, B, g, ss, ts, tv, r', ss', hl, fr, e, p⟩ => by
    unfold mCallM at e
    split at e
    · rename_i a1 s1 h1
      split at e
      · rename_i hs1
        split at e
        · rename_i as s2 h2
          split at e
          · rename_i hc
            simp only [Bool.and_eq_true, decide_eq_true_eq] at hc
            split at e
            · rename_i dm hf2
              split at e
              · rename_i hd
                obtain ⟨r, hf, e⟩ := obind e
                split at e
                · rename_i hrn
                  cases e
                  refine ⟨B0, F, B, g, ss, ts, tv, .ok a1, s1, hl, fr, h1, fun va B1 H1 x1 fr1 => ?_⟩
                  refine ⟨B0, F, B1, g, s1, some a1 :: ts, some va :: tv, .ok as, ss', by simp [hl], fr1, h2, fun vs2 B2 H2 hv2 x2 fr2 => ?_⟩
                  obtain ⟨rs, fr3⟩ := Fr.popSh hv2 fr2 hc.2
                  obtain ⟨va', fa0, ea, ra, fr4⟩ := Fr.pop1 (dm := a1) fr3
                  cases ea
                  rw [isSh_eq hs1] at ra
                  simp only [Rv] at ra
                  obtain ⟨ra1, rfl⟩ := ra
                  refine ⟨B2, as.map (·.1), .ok dm, fr3.ex, rs, by simp [hc.1], hf2, fun _ v Bc H3 c => ?_⟩
                  obtain ⟨v', fa, ev, rv, c1⟩ := Fr.pop1 (dm := dm) c
                  cases ev
                  have sa : Ss X.K Bc H3 [some a1, some dm] [some va, some v] fa := ⟨some va, [some v], [], fa, rfl, rfl, ⟨va, rfl, by rw [isSh_eq hs1]; exact Rv.mksh (Rp.mono c.b0 _ _ ra1)⟩, some v, [], fa, [], rfl, by simp, ⟨v, rfl, rv⟩, rfl, rfl⟩
                  refine ⟨Bc, hcut H3 fa, [a1, dm], r, ?_, rfl, rfl, c1.lend sa, hf, hrn, fun v2 Bo H4 c2 => ?_⟩
                  · simp only [List.all_cons, List.all_nil, Bool.and_true, Bool.and_eq_true]
                    exact ⟨by rw [isSh_eq hs1]; rfl, hd⟩
                  · have cc := c1.callA (g := []) (fun e he => nomatch he) c2 rfl
                    have fr5 := fr4.call (rs := [some r]) (rv := [some v2]) cc rfl
                    exact p v2 Bo H4 (x1.trans (x2.trans cc.fx)) fr5
                · cases e
              · cases e
            · cases e
          · cases e
        · cases e
      · cases e
    · cases e
/-- a statement or an expression that is not come to -/
def mStk : MS := fun _ => none
theorem js_stk {st : Stmt} : JS T W X st mStk := ⟨fun pins s σ H D I h => by
  obtain ⟨B0, F, B, g, ss, ts, tv, o, hl, nb, nbs', fr, e, p⟩ := h
  cases e⟩
theorem jb_stk {st : List Stmt} : JB T W X st mStk := ⟨fun pins s σ H D I h => by
  obtain ⟨B0, F, B, g, ss, ts, tv, o, hl, nb, nbs', fr, e, p⟩ := h
  cases e⟩
end
end Ve

set_option Elab.async false
set_option linter.all false
set_option maxRecDepth 100000
set_option maxHeartbeats 2000000
namespace PySem.SeqAt
open AutoSeq1 (wpAny_loadPart')
open MeetsSeq MeetsSeq2 MeetsSeq3 SeqRoads2
section
variable {prog : Program} {w : World}
theorem ve_neTup (p q : Addr) (us ws : Array Value) (cu cw : Nat) (du dw : Option Addr) (su sw : Array (Option Value)) (hz : us.size = ws.size) :
    MeetsIn prog w (Builtin.«tuple.__ne__» ⟨[.ref p, .ref q], []⟩)
      (fun A R s => s.heap.get? p = some { cls := .type "tuple", dict := du, data := .seq us cu, slots := su } ∧ s.heap.get? q = some { cls := .type "tuple", dict := dw, data := .seq ws cw, slots := sw } ∧
        (∀ j (h1 : j < us.size) (h2 : j < ws.size), EqIn prog w A.in1 s us[j] ws[j] true) ∧ R (.ok (.ret (.bool false))) s) :=
  .of_wp fun A R s h => by
    obtain ⟨hp, g, d, tk, os⟩ := s; obtain ⟨hP, hQ, hE, h⟩ := h
    have sub := AutoSeq1.sub_tuple_tuple
    have zl : (us.toList.zip ws.toList).length = us.size := by simp [hz]
    wp_walk using wpAny_loadPart' hP, wpAny_loadPart' hQ, wpAny_forIn_list _ (fun rest b s' => b.1 = none ∧ s' = ⟨hp, g, d, tk, os⟩ ∧ ∃ i, rest = (us.toList.zip ws.toList).drop i) _
    case turn =>
      rintro ⟨y, x⟩ rest b s' ⟨hb', rfl, i, hzz⟩
      have lt0 : i < (us.toList.zip ws.toList).length := by
        rcases Nat.lt_or_ge i (us.toList.zip ws.toList).length with h' | h'
        · exact h'
        · rw [List.drop_of_length_le h'] at hzz; cases hzz
      have k1 : i < us.size := zl ▸ lt0
      have k2 : i < ws.size := hz ▸ k1
      rw [List.drop_eq_getElem_cons lt0] at hzz
      injection hzz with hyx hrest
      have ey : y = us[i] := by have := congrArg Prod.fst hyx; simpa using this
      have ex : x = ws[i] := by have := congrArg Prod.snd hyx; simpa using this
      subst ey ex
      refine wpAny_bind (hE i k1 k2 _ _ ?_)
      wp_walk
      exact ⟨rfl, rfl, i + 1, hrest⟩
    case fin =>
      rintro ⟨b1, b2⟩ s' ⟨hb', rfl, i, hzz⟩
      simp only at hb'
      subst hb'
      wp_walk
      exact ⟨_, rfl, by simpa [Builtin.Tuple.tupleCompareSizes, bne, hz] using h⟩
    case h =>
      exact ⟨rfl, rfl, 0, rfl⟩
theorem ve_neTups {A : Around} {s : Shared} {p q : Addr} {us ws : Array Value} (hP : s.heap.IsTuple p us) (hQ : s.heap.IsTuple q ws) (hz : us.size = ws.size) (hu : A.units < cLine)
    (hE : ∀ j (h1 : j < us.size) (h2 : j < ws.size), EqIn prog w A.in1 s us[j] ws[j] true) {E Q : Value → Shared → Prop} (h : Q (.bool false) s) : wpAny (model prog w) A (richCompare .NotEq (.ref p) (.ref q)) Q E s := by
  obtain ⟨⟨c1, d1, x1, s1⟩, o1, k1, n1, e1⟩ := id hP
  obtain ⟨⟨c2, d2, x2, s2⟩, o2, k2, n2, e2⟩ := id hQ
  simp only at k1 e1 k2 e2
  subst k1 e1 k2 e2
  have t1 : s.TypeIs (.ref p) "tuple" := ⟨_, o1, rfl⟩
  have t2 : s.TypeIs (.ref q) "tuple" := ⟨_, o2, rfl⟩
  exact wpAny_richCompare_same_room (op := .NotEq) t1 t2 F.slot_tuple_ne (call_meetsIn F.slot_tuple_ne t1 F.entry_tuple_ne (F.args_tuple_ne_2 _ _) (ve_neTup p q us ws n1 n2 d1 d2 s1 s2 hz)
    ⟨o1, o2, hE, show Value.bool false ≠ Value.notImplemented ∧ Q (.bool false) s from ⟨(fun x => nomatch x), h⟩⟩) hu
end
end PySem.SeqAt
namespace Ve
open PySem PySem.Spec PyProof.Rows L2
def D.oddT : D → Bool
  | .tup ds => D.tames ds && decide (D.deps ds ≤ 50)
  | _ => false
def rNeT (K : PySem.W.Frag) : R2 := fun x y H Q => (∃ d : D, d.oddT = true ∧ Rp K H d x ∧ Rp K H d y ∧ Q (.bl false) H) ∨ rNeS K x y H Q
theorem op_neT {X : Cx} (hu : X.A.units + 65 < cLine) : OpR X (compareOp .NotEq) (rNeT X.K) := by
  intro pins s σ H x y v u Q I r r' h
  rcases h with ⟨d, hd, h, h', q⟩ | h
  · cases d with
    | tup ds =>
      simp only [D.oddT, Bool.and_eq_true, decide_eq_true_eq] at hd
      simp only [Rp] at h h'
      obtain ⟨a, xs, e1, h1, h2⟩ := h
      obtain ⟨b, ys, e3, h3, h4⟩ := h'
      subst e1 e3
      cases r
      cases r'
      obtain ⟨us, r1, p1, _⟩ := I.tuple (SqT.of h1)
      obtain ⟨ws, r2, p2, _⟩ := I.tuple (SqT.of h3)
      have hz : us.toArray.size = ws.toArray.size := by rw [List.size_toArray, List.size_toArray, ← r1.length, ← r2.length, h2.len, h4.len]
      refine SeqAt.ve_neTups p1 p2 hz (by omega) (fun j j1 j2 => ?_) ⟨.bl false, H, I, rfl, q⟩
      have t := trees_of I ds 50 xs ys us ws hd.1 hd.2 h2 h4 r1 r2 j (by simpa using j1) (by simpa using j2)
      have := t.at X.A.in1 (by show X.A.units + 1 + 50 < cLine; omega)
      simpa using this
    | _ => simp [D.oddT] at hd
  · exact op_neS hu pins s σ H x y v u Q I r r' h
open Classical in
noncomputable def oNeT : Dm → Dm → Option Dm := fun a b => if a.1 = b.1 ∧ a.1.oddT = true then some (.bl false, .sh) else oNeS a b
section
variable {K : PySem.W.Frag}
theorem op_oNeT : Op2 K (rNeT K) oNeT := by
  intro B0 F B H g es vs a b va vb res Q fr e q
  unfold oNeT at e
  split at e
  · rename_i h
    cases e
    obtain ⟨da, ma⟩ := a
    obtain ⟨db, mb⟩ := b
    obtain ⟨h1, h2⟩ := h
    dsimp only at h1 h2
    subst h1
    obtain ⟨y, ey, ry⟩ := fr.rd
    cases ey
    have fr1 := fr.popD
    obtain ⟨z, ez, rz⟩ := fr1.rd
    cases ez
    exact .inl ⟨da, h2, rz, ry, q _ B H (Ex.refl _) (fr1.popD.push0 (Rv.mksh rp_bl))⟩
  · exact .inr (op_oNeS B0 F B H g es vs a b va vb res Q fr e q)
/-- (..) + (..), neither of them empty -/
def oCatT : Dm → Dm → Option Dm := fun a b => match a, b with
  | (.tup ds, .sh), (.tup es, .sh) => if decide (ds ≠ []) && decide (es ≠ []) && decide (ds.length + es.length ≤ lim) then some (.tup (ds ++ es), .sh) else none
  | _, _ => none
theorem op_oCatT : Op2 K (rCatT K) oCatT := by
  intro B0 F B H g es vs a b va vb res Q fr e q
  unfold oCatT at e
  split at e
  · rename_i ds fs
    split at e
    · rename_i n
      cases e
      simp only [Bool.and_eq_true, decide_eq_true_eq] at n
      obtain ⟨⟨n1, n2⟩, n3⟩ := n
      obtain ⟨x2, f2, ex2, r2, fr1⟩ := fr.pop1
      cases ex2
      obtain ⟨x1, f1, ex1, r1, fr2⟩ := fr1.pop1
      cases ex1
      simp only [Rv, Rp] at r1 r2
      obtain ⟨⟨a1, xs, rfl, h1, k1⟩, rfl⟩ := r1
      obtain ⟨⟨a2, ys, rfl, h2, k2⟩, rfl⟩ := r2
      have fr3 : Fr K B0 F B H g es vs := fr2
      have hx : xs ≠ [] := fun z => n1 (List.eq_nil_of_length_eq_zero (by rw [← k1.len, z]; rfl))
      have hy : ys ≠ [] := fun z => n2 (List.eq_nil_of_length_eq_zero (by rw [← k2.len, z]; rfl))
      refine ⟨a1, a2, xs, ys, rfl, rfl, SqT.of (fr.ex _ _ h1), SqT.of (fr.ex _ _ h2), hx, by rw [k1.len, k2.len]; exact Nat.le_trans n3 lim_le, fun z => absurd z hy, fun _ p hp => ?_⟩
      exact q _ _ _ (Ex.new hp) (fr3.newT (Rps.app k1 k2) hp)
    · cases e
  · cases e
end
end Ve

set_option Elab.async false
set_option linter.all false
set_option maxRecDepth 100000
set_option maxHeartbeats 1000000
namespace Ve
open PySem L2
/-! ## plain laws of the combinators -/
def dI (ns : List Int) : D := .lst (ns.map .int)
def dG (g : List (List Int)) : D := .lst (g.map dI)

/-! ### comprehensions -/
theorem compL_run {em : Md} {own : List Nat} {mg : MG} {cond : MT} {elt : ME} {f : D → Option D} {ss : SS} : ∀ {items acc : List D}, (∀ d ∈ items, compT em own mg cond elt d ss = some (f d, ss)) →
    compL em own mg cond elt items acc ss = some (acc ++ items.filterMap f, ss)
  | [], acc, _ => by simp [compL]
  | d :: ds, acc, h => by
    unfold compL
    rw [h d List.mem_cons_self, Option.bind_some, compL_run (f := f) fun e he => h e (List.mem_cons_of_mem _ he)]
    cases hf : f d with
    | none => simp [hf, List.filterMap_cons]
    | some x => simp [hf, List.filterMap_cons]
theorem compL_map {em : Md} {own : List Nat} {mg : MG} {cond : MT} {elt : ME} {f : D → D} {ss : SS} {items acc : List D} (h : ∀ d ∈ items, compT em own mg cond elt d ss = some (some (f d), ss)) :
    compL em own mg cond elt items acc ss = some (acc ++ items.map f, ss) := by
  rw [compL_run (f := fun d => some (f d)) h, List.filterMap_eq_map']
/-! ### loops -/
def forT (mg : MG) (body : MS) (d : D) (ss : SS) : Option SO := (mg (d, .sh) ss).bind fun s1 => if nbB s1 then body s1 else none
theorem forL_cons {mg : MG} {body : MS} {d : D} {ds : List D} {ss : SS} : forL mg body (d :: ds) ss = lpR (forT mg body d ss) (forL mg body ds) := by
  unfold forL forT
  cases h : mg (d, .sh) ss with
  | none => rfl
  | some s1 =>
    simp only [Option.bind_some]
    by_cases n : nbB s1 = true
    · rw [if_pos n, if_pos n]
    · rw [if_neg n, if_neg n]; rfl
/-- every turn goes on -/
theorem forL_run {mg : MG} {body : MS} : ∀ {items : List D} {ss : SS} (Iv : Nat → SS → Prop), (∀ (i : Nat) (d : D) (s : SS), items[i]? = some d → Iv i s → ∃ s', forT mg body d s = some (.nx s') ∧ nbB s' = true ∧ Iv (i + 1) s') → Iv 0 ss →
    ∃ s', forL mg body items ss = some (.nx s') ∧ Iv items.length s'
  | [], ss, Iv, _, h0 => ⟨ss, rfl, h0⟩
  | d :: ds, ss, Iv, h, h0 => by
    obtain ⟨s1, e1, n1, i1⟩ := h 0 d ss rfl h0
    obtain ⟨s2, e2, i2⟩ := forL_run (items := ds) (ss := s1) (fun i => Iv (i + 1)) (fun i d s hd hi => h (i + 1) d s (by simpa using hd) hi) i1
    refine ⟨s2, ?_, by simpa using i2⟩
    rw [forL_cons, e1]
    show (if nbB s1 = true then _ else none) = _
    rw [if_pos n1]
    exact e2
/-- a turn goes on where p, else the loop ends by handing back r -/
theorem forL_all {mg : MG} {body : MS} {r : Dm} : ∀ {items : List D} {ss : SS} (Iv : SS → Prop) (p : D → Bool), (∀ (d : D) (s : SS), d ∈ items → Iv s → (p d = true → ∃ s', forT mg body d s = some (.nx s') ∧ nbB s' = true ∧ Iv s') ∧ (p d = false → ∃ s', forT mg body d s = some (.rt r s'))) → Iv ss →
    (items.all p = true → ∃ s', forL mg body items ss = some (.nx s') ∧ Iv s') ∧ (items.all p = false → ∃ s', forL mg body items ss = some (.rt r s'))
  | [], ss, Iv, p, _, h0 => ⟨fun _ => ⟨ss, rfl, h0⟩, fun h => by simp at h⟩
  | d :: ds, ss, Iv, p, h, h0 => by
    obtain ⟨k1, k2⟩ := h d ss List.mem_cons_self h0
    rw [forL_cons]
    cases hp : p d with
    | true =>
      obtain ⟨s1, e1, n1, i1⟩ := k1 hp
      rw [e1]
      have ih := forL_all (items := ds) (ss := s1) Iv p (fun e s he => h e s (List.mem_cons_of_mem _ he)) i1
      have e : lpR (some (SO.nx s1)) (forL mg body ds) = forL mg body ds s1 := by
        show (if nbB s1 = true then _ else none) = _
        rw [if_pos n1]
      rw [e]
      simpa [hp] using ih
    | false =>
      obtain ⟨s1, e1⟩ := k2 hp
      rw [e1]
      exact ⟨fun z => by simp [hp] at z, fun _ => ⟨s1, rfl⟩⟩

/-! ### items -/
theorem atI_nat' {α : Type} {xs : List α} {i : Int} (h0 : 0 ≤ i) : atI xs i = xs[i.toNat]? := by
  unfold atI ixN
  rw [if_pos h0]
  by_cases h : i < (xs.length : Int)
  · rw [if_pos h]; rfl
  · rw [if_neg h]
    show none = _
    rw [List.getElem?_eq_none]
    omega
theorem atI_get' {α : Type} {xs : List α} {i : Int} {d : α} (h0 : 0 ≤ i) (h1 : i < (xs.length : Int)) : atI xs i = some (xs.getD i.toNat d) := by
  rw [atI_nat' h0]
  have h2 : i.toNat < xs.length := by omega
  simp [h2]
theorem atI_ints {ns : List Int} {i : Int} (h0 : 0 ≤ i) (h1 : i < (ns.length : Int)) : atI (ns.map D.int) i = some (.int (ns.getD i.toNat 0)) := by
  have h2 : i.toNat < ns.length := by omega
  rw [atI_nat' h0, List.getElem?_map]
  simp [h2]
theorem atI_i4 {a b c d i : Int} (h0 : 0 ≤ i) (h1 : i < 4) : atI [D.int a, .int b, .int c, .int d] i = some (.int ([a, b, c, d].getD i.toNat 0)) := atI_ints (ns := [a, b, c, d]) h0 h1
theorem atI_i6 {a b c d e f i : Int} (h0 : 0 ≤ i) (h1 : i < 6) : atI [D.int a, .int b, .int c, .int d, .int e, .int f] i = some (.int ([a, b, c, d, e, f].getD i.toNat 0)) := atI_ints (ns := [a, b, c, d, e, f]) h0 h1
theorem mulOk_l {i j : Int} (h : -(2 ^ 64) < i ∧ i < 2 ^ 64) : mulOk i j = true := mulOk_iff.mpr (.inl h)
theorem mulOk_r {i j : Int} (h : -(2 ^ 64) < j ∧ j < 2 ^ 64) : mulOk i j = true := mulOk_iff.mpr (.inr h)
theorem mulOk_7919 {j : Int} : mulOk 7919 j = true := mulOk_l (by decide)
theorem mulOk_48271 {i : Int} : mulOk i 48271 = true := mulOk_r (by decide)
theorem mulOk_1e11 {i : Int} : mulOk i 100000000000 = true := mulOk_r (by decide)
theorem mulOk_mod {x y : Int} : mulOk (x % 2147483647) y = true := mulOk_l (by omega)

/-! ### the laws' draws -/
def mixC (ns : List Int) (k : Int) : Int := if ns.length = 0 then 0 else ns.getD (k % (ns.length : Int)).toNat 0 + k / (ns.length : Int)
def mixN (ns : List Int) (k : Int) : Int := (mixC ns k + 7919 * (k + 1)) * 48271 % 2147483647
def mix (ns : List Int) (k : Int) : Int := mixN ns k * mixN ns k % 2147483629
theorem mix_nn (ns : List Int) (k : Int) : 0 ≤ mix ns k := Int.emod_nonneg _ (by decide)
theorem mix_lt (ns : List Int) (k : Int) : mix ns k < 2147483629 := Int.emod_lt_of_pos _ (by decide)
def count (ns : List Int) (k : Int) : Int :=
  if mix ns k % 8 = 0 then 0 else
    [mix ns k / 8 % 3, mix ns k / 8 % 5, mix ns k / 8 % 12, [0, 1, 2, 40].getD (mix ns k / 8 % 4).toNat 0, mix ns k / 8 % 1000, mix ns k / 8 * 100000000000 + mix ns k / 8 % 7].getD (mix ns 2 % 6).toNat 0
theorem getD_mem {α : Type} {l : List α} {i : Nat} {d : α} (h : i < l.length) : l.getD i d ∈ l := by
  simp [List.getD, h]
theorem getD_in {P : Int → Prop} {l : List Int} {i : Nat} (h : ∀ x ∈ l, P x) (h0 : P 0) : P (l.getD i 0) := by
  by_cases hi : i < l.length
  · exact h _ (getD_mem hi)
  · simp [List.getD, hi]; exact h0
theorem count_nn (ns : List Int) (k : Int) : 0 ≤ count ns k := by
  unfold count
  split
  · exact Int.le_refl _
  · refine getD_in (P := fun x => 0 ≤ x) (fun x hx => ?_) (Int.le_refl _)
    have h := mix_nn ns k
    simp only [List.mem_cons, List.not_mem_nil, or_false] at hx
    rcases hx with rfl | rfl | rfl | rfl | rfl | rfl
    · omega
    · omega
    · omega
    · exact getD_in (P := fun x => 0 ≤ x) (by decide) (Int.le_refl _)
    · omega
    · have h1 : 0 ≤ mix ns k / 8 := Int.ediv_nonneg h (by decide)
      have h2 : 0 ≤ mix ns k / 8 * 100000000000 := Int.mul_nonneg h1 (by decide)
      omega
def tab (ns : List Int) (h w : Nat) : List (List Int) := (List.range h).map fun (r : Nat) => (List.range w).map fun (c : Nat) => count ns (8 + (w : Int) * (r : Int) + (c : Int))
theorem kb_NoneType_int : kitB "NoneType" "int" = some false := by decide +kernel
theorem kb_NoneType_bool : kitB "NoneType" "bool" = some false := by decide +kernel
theorem kb_NoneType_list : kitB "NoneType" "list" = some false := by decide +kernel
theorem kb_NoneType_tuple : kitB "NoneType" "tuple" = some false := by decide +kernel
theorem kb_bool_int : kitB "bool" "int" = some true := by decide +kernel
theorem kb_bool_bool : kitB "bool" "bool" = some true := by decide +kernel
theorem kb_bool_list : kitB "bool" "list" = some false := by decide +kernel
theorem kb_bool_tuple : kitB "bool" "tuple" = some false := by decide +kernel
theorem kb_int_int : kitB "int" "int" = some true := by decide +kernel
theorem kb_int_bool : kitB "int" "bool" = some false := by decide +kernel
theorem kb_int_list : kitB "int" "list" = some false := by decide +kernel
theorem kb_int_tuple : kitB "int" "tuple" = some false := by decide +kernel
theorem kb_str_int : kitB "str" "int" = some false := by decide +kernel
theorem kb_str_bool : kitB "str" "bool" = some false := by decide +kernel
theorem kb_str_list : kitB "str" "list" = some false := by decide +kernel
theorem kb_str_tuple : kitB "str" "tuple" = some false := by decide +kernel
theorem kb_list_int : kitB "list" "int" = some false := by decide +kernel
theorem kb_list_bool : kitB "list" "bool" = some false := by decide +kernel
theorem kb_list_list : kitB "list" "list" = some true := by decide +kernel
theorem kb_list_tuple : kitB "list" "tuple" = some false := by decide +kernel
theorem kb_tuple_int : kitB "tuple" "int" = some false := by decide +kernel
theorem kb_tuple_bool : kitB "tuple" "bool" = some false := by decide +kernel
theorem kb_tuple_list : kitB "tuple" "list" = some false := by decide +kernel
theorem kb_tuple_tuple : kitB "tuple" "tuple" = some true := by decide +kernel
theorem kb_dict_int : kitB "dict" "int" = some false := by decide +kernel
theorem kb_dict_bool : kitB "dict" "bool" = some false := by decide +kernel
theorem kb_dict_list : kitB "dict" "list" = some false := by decide +kernel
theorem kb_dict_tuple : kitB "dict" "tuple" = some false := by decide +kernel
end Ve
namespace Ve
open PySem L2
/-! ### equality of data -/
/-- may be compared, n deep -/
def D.ok (n : Nat) (d : D) : Prop := d.py.canLay0 = true ∧ d.py.depth ≤ n
theorem D.ok.mono {n m : Nat} {d : D} (h : D.ok n d) (k : n ≤ m) : D.ok m d := ⟨h.1, Nat.le_trans h.2 k⟩
theorem ok_int {n : Nat} {i : Int} : D.ok n (.int i) := ⟨by simp [D.py, PyData.canLay0], by simp [D.py, PyData.depth]⟩
theorem ok_bl {n : Nat} {i : Bool} : D.ok n (.bl i) := ⟨by simp [D.py, PyData.canLay0], by simp [D.py, PyData.depth]⟩
theorem ok_non {n : Nat} : D.ok n .non := ⟨by simp [D.py, PyData.canLay0], by simp [D.py, PyData.depth]⟩
theorem ok_str {n : Nat} {x : Str} (h : (D.py (.str x)).canLay0 = true) : D.ok n (.str x) := ⟨h, by simp [D.py, PyData.depth]⟩
theorem ok_pys {n : Nat} : ∀ {ds : List D}, (∀ d ∈ ds, D.ok n d) → PyData.canLayAll0 (D.pys ds) = true ∧ PyData.depthAll (D.pys ds) ≤ n
  | [], _ => ⟨by simp [D.pys, PyData.canLayAll0], by simp [D.pys, PyData.depthAll]⟩
  | d :: ds, h => by
    obtain ⟨h1, h2⟩ := h d List.mem_cons_self
    obtain ⟨h3, h4⟩ := ok_pys (ds := ds) fun e he => h e (List.mem_cons_of_mem _ he)
    refine ⟨by simp [D.pys, PyData.canLayAll0, h1, h3], ?_⟩
    simp only [D.pys, PyData.depthAll]
    omega
theorem ok_lst {n : Nat} {ds : List D} (h : ∀ d ∈ ds, D.ok n d) : D.ok (n + 1) (.lst ds) := by
  obtain ⟨h1, h2⟩ := ok_pys h
  refine ⟨by simp [D.py, PyData.canLay0, h1], ?_⟩
  simp only [D.py, PyData.depth]
  omega
theorem ok_tup {n : Nat} {ds : List D} (h : ∀ d ∈ ds, D.ok n d) : D.ok (n + 1) (.tup ds) := by
  obtain ⟨h1, h2⟩ := ok_pys h
  refine ⟨by simp [D.py, PyData.canLay0, h1], ?_⟩
  simp only [D.py, PyData.depth]
  omega
theorem shp_of {n : Nat} {d : D} (h : D.ok n d) (k : n ≤ 64) : d.shp = true := by
  unfold D.shp SeqAt.shaped
  rw [h.1, decide_eq_true (Nat.le_trans h.2 k)]
  rfl
theorem shp_int {i : Int} : (D.int i).shp = true := shp_of (n := 0) ok_int (by decide)
theorem shp_bl {i : Bool} : (D.bl i).shp = true := shp_of (n := 0) ok_bl (by decide)
theorem shp_non : D.non.shp = true := shp_of (n := 0) ok_non (by decide)
theorem ok_dI {n : Nat} {ns : List Int} : D.ok (n + 1) (dI ns) := ok_lst fun d hd => by
  obtain ⟨x, _, rfl⟩ := List.mem_map.mp hd
  exact ok_int
theorem ok_dG {n : Nat} {g : List (List Int)} : D.ok (n + 2) (dG g) := ok_lst fun d hd => by
  obtain ⟨x, _, rfl⟩ := List.mem_map.mp hd
  exact ok_dI
theorem shp_dI {ns : List Int} : (dI ns).shp = true := shp_of (n := 1) ok_dI (by decide)
theorem shp_dG {g : List (List Int)} : (dG g).shp = true := shp_of (n := 2) ok_dG (by decide)
theorem eqv_int {i j : Int} : (D.int i).eqv (.int j) = decide (i = j) := by
  simp only [D.eqv, D.py, PyData.eqv]
  exact Bool.beq_eq_decide_eq i j
theorem eqv_bl {i j : Bool} : (D.bl i).eqv (.bl j) = (i == j) := by simp only [D.eqv, D.py, PyData.eqv]
theorem eqvAll_map {α : Type} [DecidableEq α] {f : α → D} (hf : ∀ x y, (f x).eqv (f y) = decide (x = y)) : ∀ xs ys : List α, PyData.eqvAll (D.pys (xs.map f)) (D.pys (ys.map f)) = decide (xs = ys)
  | [], [] => by simp [D.pys, PyData.eqvAll]
  | [], _ :: _ => by simp [D.pys, PyData.eqvAll]
  | _ :: _, [] => by simp [D.pys, PyData.eqvAll]
  | x :: xs, y :: ys => by
    have h := hf x y
    unfold D.eqv at h
    simp only [List.map_cons, D.pys, PyData.eqvAll, h, eqvAll_map hf xs ys]
    by_cases hx : x = y <;> by_cases hs : xs = ys <;> simp [hx, hs]
theorem eqv_map {α : Type} [DecidableEq α] {f : α → D} (hf : ∀ x y, (f x).eqv (f y) = decide (x = y)) (xs ys : List α) : (D.lst (xs.map f)).eqv (.lst (ys.map f)) = decide (xs = ys) := by
  simp only [D.eqv, D.py, PyData.eqv]
  exact eqvAll_map hf xs ys
theorem eqv_dI {xs ys : List Int} : (dI xs).eqv (dI ys) = decide (xs = ys) := eqv_map (fun _ _ => eqv_int) xs ys
theorem eqv_dG {xs ys : List (List Int)} : (dG xs).eqv (dG ys) = decide (xs = ys) := eqv_map (fun _ _ => eqv_dI) xs ys
theorem oEq_int {i j : Int} {m n : Md} : oEq (.int i, m) (.int j, n) = some (.bl (decide (i = j)), .sh) := by simp [oEq, shp_int, eqv_int]
theorem oNe_int {i j : Int} {m n : Md} : oNe (.int i, m) (.int j, n) = some (.bl (!decide (i = j)), .sh) := by simp [oNe, shp_int, eqv_int]
theorem oEq_dI {i j : List Int} {m n : Md} : oEq (dI i, m) (dI j, n) = some (.bl (decide (i = j)), .sh) := by simp [oEq, shp_dI, eqv_dI]
theorem oNe_dI {i j : List Int} {m n : Md} : oNe (dI i, m) (dI j, n) = some (.bl (!decide (i = j)), .sh) := by simp [oNe, shp_dI, eqv_dI]
theorem oEq_dG {i j : List (List Int)} {m n : Md} : oEq (dG i, m) (dG j, n) = some (.bl (decide (i = j)), .sh) := by simp [oEq, shp_dG, eqv_dG]
theorem oNe_dG {i j : List (List Int)} {m n : Md} : oNe (dG i, m) (dG j, n) = some (.bl (!decide (i = j)), .sh) := by simp [oNe, shp_dG, eqv_dG]
end Ve
namespace Ve
open PySem L2
theorem nbB_cons {e : Ent} {l : SS} : nbB (e :: l) = (Ent.nb e && nbB l) := by simp [nbB]
theorem nbB_nil : nbB [] = true := rfl
theorem nb_none : Ent.nb none = true := rfl
theorem nb_some {dm : Dm} : Ent.nb (some dm) = dm.2.nb := rfl
end Ve
namespace Ve
open PySem L2
theorem blsOf_fun {α : Type} {p : α → Bool} {xs : List α} : blsOf (xs.map fun x => D.bl (p x)) = some (xs.map p) := by
  have := blsOf_map (xs.map p)
  rw [List.map_map] at this
  exact this
theorem intsOf_fun {α : Type} {p : α → Int} {xs : List α} : intsOf (xs.map fun x => D.int (p x)) = some (xs.map p) := by
  have := intsOf_map (xs.map p)
  rw [List.map_map] at this
  exact this
end Ve
namespace Ve
theorem mYes_ap {ss : SS} : mYes ss = some (.ok true, ss) := rfl
end Ve
namespace Ve
open PySem L2
theorem le_lim {n : Nat} (h : n ≤ 1000) : n ≤ lim := Nat.le_trans h (by decide)
theorem lim1 : 1 ≤ lim := le_lim (by decide)
theorem lim2 : 2 ≤ lim := le_lim (by decide)
theorem lim3 : 3 ≤ lim := le_lim (by decide)
theorem lim4 : 4 ≤ lim := le_lim (by decide)
theorem lim0' : 0 < lim := le_lim (n := 1) (by decide)
theorem cut_to {ds : List D} {r : Nat} (h : r ≤ ds.length) : cutD ds none (some (r : Int)) = ds.take r := by
  unfold cutD
  simp [HT.sIx_none, HT.sIx_nat, Nat.min_eq_left h]
theorem cut_from {ds : List D} {r : Nat} (h : r ≤ ds.length) : cutD ds (some (r : Int)) none = ds.drop r := by
  unfold cutD
  rw [HT.sIx_none, HT.sIx_nat, Nat.min_eq_left h]
  exact List.take_of_length_le (by simp)
theorem cut_from1 {ds : List D} {r : Nat} (h : r + 1 ≤ ds.length) : cutD ds (some ((r : Int) + 1)) none = ds.drop (r + 1) := by
  have := cut_from (ds := ds) (r := r + 1) h
  simpa using this
theorem ixN_nat {n r : Nat} (h : r < n) : ixN n (r : Int) = some r := by
  unfold ixN
  rw [if_pos (by omega), if_pos (by omega)]
  simp
end Ve

set_option Elab.async false
set_option linter.all false
noncomputable section
namespace Ve
open PySem L2 L2H
/-- is_number -/
def b_is_number : MS := (mRet (mAndV (mOpN oIsi (mCons (mVar 0) (mCons (mC (.ty "int")) mNil))) (mAndV (mNotV (mOpN oIsi (mCons (mVar 0) (mCons (mC (.ty "bool")) mNil)))) (mOp2 oGe (mVar 0) (mC (.int 0))))))
def m_is_number : MF := mFn 1 0 b_is_number
/-- is_grid -/
def l_is_grid_1 : MS := (mIf (mOr (mNot (mTst (mOpN oIsi (mCons (mVar 1) (mCons (mC (.ty "list")) mNil))))) (mOr (mNot (mChain (fun i j => decide (i ≤ j)) (fun i j => decide (i ≤ j)) (mC (.int 1)) (mOpN oLen (mCons (mVar 1) mNil)) (mC (.int 8)))) (mTst (mOp2 oNe (mOpN oLen (mCons (mVar 1) mNil)) (mOpN oLen (mCons (mOp2 oIx (mVar 0) (mC (.int 0))) mNil)))))) (mRet (mC (.bl false))) mNext)
def b_is_grid : MS := (mSeq (mIf (mOr (mNot (mTst (mOpN oIsi (mCons (mVar 0) (mCons (mC (.ty "list")) mNil))))) (mNot (mChain (fun i j => decide (i ≤ j)) (fun i j => decide (i ≤ j)) (mC (.int 1)) (mOpN oLen (mCons (mVar 0) mNil)) (mC (.int 8))))) (mRet (mC (.bl false))) mNext)
    (mSeq (mFor (mItL (mVar 0)) (mgN 1) l_is_grid_1)
    (mRet (mC (.bl true)))))
def m_is_grid : MF := mFn 1 1 b_is_grid
/-- is_table -/
def e_is_table_1 : ME := (mCall 1 m_is_number (mCons (mVar 2) mNil))
def e_is_table_2 : ME := (mOpN oAll (mCons (mComp .sh [2] (mItL (mVar 1)) (mgN 2) mYes e_is_table_1) mNil))
def b_is_table : MS := (mRet (mAndV (mCall 1 m_is_grid (mCons (mVar 0) mNil)) (mOpN oAll (mCons (mComp .sh [1] (mItL (mVar 0)) (mgN 1) mYes e_is_table_2) mNil))))
def m_is_table : MF := mFn 1 2 b_is_table
/-- need_table -/
def b_need_table : MS := (mIf (mNot (mTst (mCall 1 m_is_table (mCons (mVar 0) mNil)))) (mRaise 1) mNext)
def m_need_table : MF := mFn 1 0 b_need_table
/-- row_sums -/
def e_row_sums_1 : ME := (mOpN oSum (mCons (mVar 1) mNil))
def b_row_sums : MS := (mSeq (mDrop (mCall 1 m_need_table (mCons (mVar 0) mNil)))
    (mRet (mComp .sh [1] (mItL (mVar 0)) (mgN 1) mYes e_row_sums_1)))
def m_row_sums : MF := mFn 1 1 b_row_sums
/-- column_sums -/
def e_column_sums_1 : ME := (mOp2 oIx (mVar 2) (mVar 1))
def e_column_sums_2 : ME := (mOpN oSum (mCons (mComp .sh [2] (mItL (mVar 0)) (mgN 2) mYes e_column_sums_1) mNil))
def b_column_sums : MS := (mSeq (mDrop (mCall 1 m_need_table (mCons (mVar 0) mNil)))
    (mRet (mComp .sh [1] (mItR (mCons (mOpN oLen (mCons (mOp2 oIx (mVar 0) (mC (.int 0))) mNil)) mNil)) (mgN 1) mYes e_column_sums_2)))
def m_column_sums : MF := mFn 1 2 b_column_sums
/-- _law_mix -/
def b__law_mix : MS := (mSeq (mSet 2 (mC (.int 0)))
    (mSeq (mIf (mTst (mOp2 oGt (mOpN oLen (mCons (mVar 0) mNil)) (mC (.int 0)))) (mSet 2 (mOp2 oAdd (mOp2 oIx (mVar 0) (mOp2 oMod (mVar 1) (mOpN oLen (mCons (mVar 0) mNil)))) (mOp2 oDiv (mVar 1) (mOpN oLen (mCons (mVar 0) mNil))))) mNext)
    (mSeq (mSet 3 (mOp2 oMod (mOp2 oMul (mOp2 oAdd (mVar 2) (mOp2 oMul (mC (.int 7919)) (mOp2 oAdd (mVar 1) (mC (.int 1))))) (mC (.int 48271))) (mC (.int 2147483647))))
    (mRet (mOp2 oMod (mOp2 oMul (mVar 3) (mVar 3)) (mC (.int 2147483629)))))))
def m__law_mix : MF := mFn 2 2 b__law_mix
/-- _law_count -/
def b__law_count : MS := (mSeq (mSet 2 (mCall 2 m__law_mix (mCons (mVar 0) (mCons (mVar 1) mNil))))
    (mSeq (mSet 3 (mOp2 oDiv (mVar 2) (mC (.int 8))))
    (mSeq (mIf (mTst (mOp2 oEq (mOp2 oMod (mVar 2) (mC (.int 8))) (mC (.int 0)))) (mRet (mC (.int 0))) mNext)
    (mSeq (mSet 4 (mSh (mLst .sh (mCons (mOp2 oMod (mVar 3) (mC (.int 3))) (mCons (mOp2 oMod (mVar 3) (mC (.int 5))) (mCons (mOp2 oMod (mVar 3) (mC (.int 12))) (mCons (mOp2 oIx (mSh (mLst .sh (mCons (mC (.int 0)) (mCons (mC (.int 1)) (mCons (mC (.int 2)) (mCons (mC (.int 40)) mNil)))))) (mOp2 oMod (mVar 3) (mC (.int 4)))) (mCons (mOp2 oMod (mVar 3) (mC (.int 1000))) (mCons (mOp2 oAdd (mOp2 oMul (mVar 3) (mOp2 oPow (mC (.int 10)) (mC (.int 11)))) (mOp2 oMod (mVar 3) (mC (.int 7)))) mNil)))))))))
    (mRet (mOp2 oIx (mVar 4) (mOp2 oMod (mCall 2 m__law_mix (mCons (mVar 0) (mCons (mC (.int 2)) mNil))) (mC (.int 6)))))))))
def m__law_count : MF := mFn 2 3 b__law_count
/-- _law_table -/
def e__law_table_1 : ME := (mCall 2 m__law_count (mCons (mVar 0) (mCons (mOp2 oAdd (mOp2 oAdd (mC (.int 8)) (mOp2 oMul (mVar 2) (mVar 4))) (mVar 5)) mNil)))
def l__law_table_1 : MS := (mApp 3 (mComp .sh [5] (mItR (mCons (mVar 2) mNil)) (mgN 5) mYes e__law_table_1))
def b__law_table : MS := (mSeq (mSet 3 (mLst (.ow .sh) mNil))
    (mSeq (mFor (mItR (mCons (mVar 1) mNil)) (mgN 4) l__law_table_1)
    (mRet (mMov 3))))
def m__law_table : MF := mFn 3 3 b__law_table
/-- _law_added -/
def l__law_added_1 : MS := (mSet 1 (mOp2 oAdd (mVar 1) (mVar 2)))
def b__law_added : MS := (mSeq (mSet 1 (mC (.int 0)))
    (mSeq (mFor (mItL (mVar 0)) (mgN 2) l__law_added_1)
    (mRet (mVar 1))))
def m__law_added : MF := mFn 1 2 b__law_added
/-- _law_sums -/
def e__law_sums_1 : ME := (mOp2 oIx (mVar 3) (mVar 2))
def l__law_sums_1 : MS := (mApp 1 (mCall 1 m__law_added (mCons (mComp .sh [3] (mItL (mVar 0)) (mgN 3) mYes e__law_sums_1) mNil)))
def e__law_sums_2 : ME := (mCall 1 m__law_added (mCons (mVar 3) mNil))
def b__law_sums : MS := (mSeq (mSet 1 (mLst .sh mNil))
    (mSeq (mFor (mItR (mCons (mOpN oLen (mCons (mOp2 oIx (mVar 0) (mC (.int 0))) mNil)) mNil)) (mgN 2) l__law_sums_1)
    (mRet (mTup (mCons (mComp .sh [3] (mItL (mVar 0)) (mgN 3) mYes e__law_sums_2) (mCons (mMov 1) mNil))))))
def m__law_sums : MF := mFn 1 3 b__law_sums
/-- _law_told -/
def e__law_told_1 : ME := (mAndV (mOpN oIsi (mCons (mVar 2) (mCons (mC (.ty "int")) mNil))) (mNotV (mOpN oIsi (mCons (mVar 2) (mCons (mC (.ty "bool")) mNil)))))
def b__law_told : MS := (mSeq (mIf (mOr (mNot (mTst (mOpN oIsi (mCons (mVar 0) (mCons (mC (.ty "list")) mNil))))) (mTst (mOp2 oNe (mVar 0) (mVar 1)))) (mRet (mC (.bl false))) mNext)
    (mRet (mOpN oAll (mCons (mComp .sh [2] (mItL (mVar 0)) (mgN 2) mYes e__law_told_1) mNil))))
def m__law_told : MF := mFn 2 1 b__law_told
/-- law -/
def e_law_1 : ME := (mOpN oList (mCons (mVar 9) mNil))
def b_law : MS := (mSeq (mSet 1 (mOp2 oAdd (mC (.int 1)) (mOp2 oMod (mCall 2 m__law_mix (mCons (mVar 0) (mCons (mC (.int 0)) mNil))) (mC (.int 8)))))
    (mSeq (mSet 2 (mOp2 oAdd (mC (.int 1)) (mOp2 oMod (mCall 2 m__law_mix (mCons (mVar 0) (mCons (mC (.int 1)) mNil))) (mC (.int 8)))))
    (mSeq (mSet 3 (mSh (mCall 3 m__law_table (mCons (mVar 0) (mCons (mVar 1) (mCons (mVar 2) mNil))))))
    (mSeq (mSet 4 (mComp (.ow .sh) [9] (mItL (mVar 3)) (mgN 9) mYes e_law_1))
    (mSeq (mAsg (mgT 2 (mgCons (mgN 5) (mgCons (mgN 6) mgNil))) (mCall 1 m__law_sums (mCons (mVar 3) mNil)))
    (mSeq (mSet 7 (mSh (mCall 1 m_row_sums (mCons (mVar 4) mNil))))
    (mSeq (mSet 8 (mSh (mCall 1 m_column_sums (mCons (mVar 4) mNil))))
    (mSeq (mIf (mOr (mNot (mTst (mCall 2 m__law_told (mCons (mVar 7) (mCons (mVar 5) mNil))))) (mOr (mNot (mTst (mCall 2 m__law_told (mCons (mVar 8) (mCons (mVar 6) mNil))))) (mTst (mOp2 oNe (mVar 4) (mVar 3))))) (mRet (mC (.bl false))) mNext)
    (mSeq (mSet 9 (mOp2 oMod (mCall 2 m__law_mix (mCons (mVar 0) (mCons (mC (.int 3)) mNil))) (mVar 1)))
    (mSeq (mSet 10 (mOp2 oMod (mCall 2 m__law_mix (mCons (mVar 0) (mCons (mC (.int 4)) mNil))) (mVar 2)))
    (mSeq (mSet 11 (mOp2 oAdd (mC (.int 1)) (mOp2 oMod (mCall 2 m__law_mix (mCons (mVar 0) (mCons (mC (.int 5)) mNil))) (mC (.int 9)))))
    (mSeq (mSetG 4 (mOp2 oAdd (mOp2 oIx (mOp2 oIx (mVar 4) (mVar 9)) (mVar 10)) (mVar 11)) (mVar 9) (mVar 10))
    (mSeq (mSet 12 (mSh (mCall 1 m_column_sums (mCons (mVar 4) mNil))))
    (mSeq (mIf (mNot (mTst (mCall 2 m__law_told (mCons (mVar 12) (mCons (mOp2 oCat (mOp2 oCat (mSl (mVar 6) mONo (mOSome (mVar 10))) (mLst .sh (mCons (mOp2 oAdd (mOp2 oIx (mVar 6) (mVar 10)) (mVar 11)) mNil))) (mSl (mVar 6) (mOSome (mOp2 oAdd (mVar 10) (mC (.int 1)))) mONo)) mNil))))) (mRet (mC (.bl false))) mNext)
    (mSeq (mIf (mNot (mTst (mCall 2 m__law_told (mCons (mCall 1 m_row_sums (mCons (mVar 4) mNil)) (mCons (mOp2 oCat (mOp2 oCat (mSl (mVar 5) mONo (mOSome (mVar 9))) (mLst .sh (mCons (mOp2 oAdd (mOp2 oIx (mVar 5) (mVar 9)) (mVar 11)) mNil))) (mSl (mVar 5) (mOSome (mOp2 oAdd (mVar 9) (mC (.int 1)))) mONo)) mNil))))) (mRet (mC (.bl false))) mNext)
    (mRet (mAndV (mOp2 oEq (mVar 7) (mVar 5)) (mOp2 oEq (mVar 8) (mVar 6)))))))))))))))))))
def m_law : MF := mFn 1 12 b_law
/-- need_number -/
def b_need_number : MS := (mIf (mOr (mNot (mTst (mCall 1 m_is_number (mCons (mVar 0) mNil)))) (mTst (mOp2 oEq (mVar 0) (mC (.int 0))))) (mRaise 4) mNext)
def m_need_number : MF := mFn 1 0 b_need_number
/-- all_places -/
def l_all_places_1 : MS := (mApp 1 (mTup (mCons (mVar 2) (mCons (mVar 3) mNil))))
def l_all_places_2 : MS := (mFor (mItR (mCons (mOpN oLen (mCons (mOp2 oIx (mVar 0) (mC (.int 0))) mNil)) mNil)) (mgN 3) l_all_places_1)
def b_all_places : MS := (mSeq (mSet 1 (mLst .sh mNil))
    (mSeq (mFor (mItR (mCons (mOpN oLen (mCons (mVar 0) mNil)) mNil)) (mgN 2) l_all_places_2)
    (mRet (mMov 1))))
def m_all_places : MF := mFn 1 3 b_all_places
/-- small_places -/
def t_small_places_1 : MT := (mChain (fun i j => decide (i ≤ j)) (fun i j => decide (i ≤ j)) (mC (.int 1)) (mOp2 oIx (mOp2 oIx (mVar 0) (mOp2 oIx (mVar 2) (mC (.int 0)))) (mOp2 oIx (mVar 2) (mC (.int 1)))) (mVar 1))
def e_small_places_1 : ME := (mVar 2)
def b_small_places : MS := (mSeq (mDrop (mCall 1 m_need_table (mCons (mVar 0) mNil)))
    (mSeq (mDrop (mCall 1 m_need_number (mCons (mVar 1) mNil)))
    (mRet (mComp .sh [2] (mItL (mCall 1 m_all_places (mCons (mVar 0) mNil))) (mgN 2) t_small_places_1 e_small_places_1))))
def m_small_places : MF := mFn 2 1 b_small_places
/-- _law_table -/
def e__law_table_v1_1 : ME := (mCall 2 m__law_count (mCons (mVar 0) (mCons (mOp2 oAdd (mOp2 oAdd (mC (.int 8)) (mOp2 oMul (mVar 2) (mVar 4))) (mVar 5)) mNil)))
def l__law_table_v1_1 : MS := (mApp 3 (mComp .sh [5] (mItR (mCons (mVar 2) mNil)) (mgN 5) mYes e__law_table_v1_1))
def b__law_table_v1 : MS := (mSeq (mSet 3 (mLst (.ow .sh) mNil))
    (mSeq (mFor (mItR (mCons (mVar 1) mNil)) (mgN 4) l__law_table_v1_1)
    (mRet (mMov 3))))
def m__law_table_v1 : MF := mFn 3 3 b__law_table_v1
/-- _law_odd -/
def b__law_odd : MS := (mSeq (mSet 1 (mSh (mLst .sh (mCons (mC (.bl true)) (mCons (mC (.bl false)) (mCons (mC .non) (mCons (mOp1 oNeg (mC (.int 1))) (mCons (mC (.str "1")) (mCons (mSh (mLst .sh (mCons (mC (.int 1)) mNil))) (mCons (mTup (mCons (mC (.int 1)) mNil)) (mCons (mC (.dK [] [])) (mCons (mC (.str "")) (mCons (mSh (mLst .sh mNil)) (mCons (mOp2 oSub (mC (.int 0)) (mOp2 oPow (mC (.int 10)) (mC (.int 30)))) (mCons (mSh (mLst (.ow .sh) (mCons (mLst .sh (mCons (mC (.int 1)) mNil)) mNil))) (mCons (mC (.str "0")) mNil))))))))))))))))
    (mRet (mOp2 oIx (mVar 1) (mOp2 oMod (mVar 0) (mC (.int 13))))))
def m__law_odd : MF := mFn 1 1 b__law_odd
/-- _law_row -/
def b__law_row : MS := (mSeq (mIf (mTst (mOp2 oEq (mOp2 oMod (mVar 1) (mC (.int 6))) (mC (.int 0)))) (mRet (mSl (mVar 0) mONo (mOSome (mOp1 oNeg (mC (.int 1)))))) mNext)
    (mSeq (mIf (mTst (mOp2 oEq (mOp2 oMod (mVar 1) (mC (.int 6))) (mC (.int 1)))) (mRet (mOp2 oCat (mVar 0) (mLst .sh (mCons (mC (.int 1)) mNil)))) mNext)
    (mSeq (mIf (mTst (mOp2 oEq (mOp2 oMod (mVar 1) (mC (.int 6))) (mC (.int 2)))) (mRet (mOpN oTuple (mCons (mVar 0) mNil))) mNext)
    (mRet (mOp2 oIx (mSh (mLst .sh (mCons (mSh (mLst .sh mNil)) (mCons (mC (.str "12")) (mCons (mC .non) mNil))))) (mOp2 oSub (mOp2 oMod (mVar 1) (mC (.int 6))) (mC (.int 3))))))))
def m__law_row : MF := mFn 2 0 b__law_row
/-- _law_other -/
def b__law_other : MS := (mSeq (mSet 2 (mSh (mLst .sh (mCons (mOpN oTuple (mCons (mVar 0) mNil)) (mCons (mSh (mLst .sh mNil)) (mCons (mSh (mLst (.ow .sh) (mCons (mLst .sh mNil) mNil))) (mCons (mC .non) (mCons (mC (.int 7)) (mCons (mC (.str "table")) (mCons (mC (.dK [.inl 0] [.lst [.int 1]])) (mCons (mTup mNil) (mCons (mC (.bl true)) (mCons (mSh (mLst .sh (mCons (mVar 0) mNil))) (mCons (mC (.dK [] [])) (mCons (mSh (mLst .sh (mCons (mC (.int 7)) mNil))) (mCons (mSh (mLst .sh (mCons (mTup (mCons (mC (.int 1)) mNil)) mNil))) mNil))))))))))))))))
    (mRet (mOp2 oIx (mSh (mOp2 oCat (mVar 2) (mOp2 oRep (mLst .sh (mCons (mOpN oTuple (mCons (mVar 0) mNil)) mNil)) (mC (.int 5))))) (mOp2 oMod (mVar 1) (mC (.int 18))))))
def m__law_other : MF := mFn 2 1 b__law_other
/-- _law_spoilt -/
def e__law_spoilt_1 : ME := (mOpN oList (mCons (mVar 6) mNil))
def e__law_spoilt_2 : ME := (mSl (mOp2 oRep (mVar 6) (mC (.int 9))) mONo (mOSome (mOp2 oAdd (mC (.int 8)) (mOp2 oMod (mVar 4) (mC (.int 2))))))
def s__law_spoilt_1 : MS := (mSet 2 (mOp2 oMod (mCall 2 m__law_mix (mCons (mVar 0) (mCons (mC (.int 3)) mNil))) (mC (.int 8))))
def s__law_spoilt_2 : MS := (mSet 3 (mOp2 oMod (mCall 2 m__law_mix (mCons (mVar 0) (mCons (mC (.int 4)) mNil))) (mOpN oLen (mCons (mVar 1) mNil))))
def s__law_spoilt_3 : MS := (mSet 4 (mCall 2 m__law_mix (mCons (mVar 0) (mCons (mC (.int 6)) mNil))))
def s__law_spoilt_4 : MS := (mSet 5 (mComp (.ow .sh) [6] (mItL (mVar 1)) (mgN 6) mYes e__law_spoilt_1))
def s__law_spoilt_5 : MS := (mIf (mTst (mOp2 oLt (mVar 2) (mC (.int 2)))) (mRet (mMov 5)) mNext)
def s__law_spoilt_6 : MS := (mIf (mTst (mOp2 oLt (mVar 2) (mC (.int 4)))) (mSeq (mSetG 5 (mCall 1 m__law_odd (mCons (mVar 4) mNil)) (mVar 3) (mOp2 oMod (mCall 2 m__law_mix (mCons (mVar 0) (mCons (mC (.int 5)) mNil))) (mOpN oLen (mCons (mOp2 oIx (mVar 1) (mC (.int 0))) mNil))))
    (mRet (mMov 5))) mNext)
def s__law_spoilt_7 : MS := (mIf (mTst (mOp2 oEq (mVar 2) (mC (.int 4)))) (mSeq (mShR 5 (mSetI 5 (mSh (mCall 2 m__law_row (mCons (mIxO 5 (mVar 3)) (mCons (mVar 4) mNil)))) (mVar 3)))
    (mRet (mMov 5))) mNext)
def s__law_spoilt_8 : MS := (mIf (mTst (mOp2 oEq (mVar 2) (mC (.int 5)))) (mRet (mSl (mOp2 oRep (mFrz 5) (mC (.int 9))) mONo (mOSome (mOp2 oAdd (mC (.int 8)) (mOp2 oMod (mVar 4) (mC (.int 2))))))) mNext)
def s__law_spoilt_9 : MS := (mIf (mTst (mOp2 oEq (mVar 2) (mC (.int 6)))) (mRet (mComp (.ow .sh) [6] (mItL (mFrz 5)) (mgN 6) mYes e__law_spoilt_2)) mNext)
def s__law_spoilt_10 : MS := (mRet (mCall 2 m__law_other (mCons (mFrz 5) (mCons (mVar 4) mNil))))
def b__law_spoilt : MS := (mSeq s__law_spoilt_1
    (mSeq s__law_spoilt_2
    (mSeq s__law_spoilt_3
    (mSeq s__law_spoilt_4
    (mSeq s__law_spoilt_5
    (mSeq s__law_spoilt_6
    (mSeq s__law_spoilt_7
    (mSeq s__law_spoilt_8
    (mSeq s__law_spoilt_9
    s__law_spoilt_10)))))))))
def m__law_spoilt : MF := mFn 2 5 b__law_spoilt
/-- _law_is_table -/
def l__law_is_table_1 : MS := (mIf (mOr (mNot (mTst (mOpN oIsi (mCons (mVar 2) (mCons (mC (.ty "int")) mNil))))) (mOr (mTst (mOpN oIsi (mCons (mVar 2) (mCons (mC (.ty "bool")) mNil)))) (mTst (mOp2 oLt (mVar 2) (mC (.int 0)))))) (mRet (mC (.bl false))) mNext)
def l__law_is_table_2 : MS := (mSeq (mIf (mOr (mNot (mTst (mOpN oIsi (mCons (mVar 1) (mCons (mC (.ty "list")) mNil))))) (mNot (mChain (fun i j => decide (i ≤ j)) (fun i j => decide (i ≤ j)) (mC (.int 1)) (mOpN oLen (mCons (mVar 1) mNil)) (mC (.int 8))))) (mRet (mC (.bl false))) mNext)
    (mFor (mItL (mVar 1)) (mgN 2) l__law_is_table_1))
def e__law_is_table_1 : ME := (mOp2 oEq (mOpN oLen (mCons (mVar 1) mNil)) (mOpN oLen (mCons (mOp2 oIx (mVar 0) (mC (.int 0))) mNil)))
def b__law_is_table : MS := (mSeq (mIf (mOr (mNot (mTst (mOpN oIsi (mCons (mVar 0) (mCons (mC (.ty "list")) mNil))))) (mNot (mChain (fun i j => decide (i ≤ j)) (fun i j => decide (i ≤ j)) (mC (.int 1)) (mOpN oLen (mCons (mVar 0) mNil)) (mC (.int 8))))) (mRet (mC (.bl false))) mNext)
    (mSeq (mFor (mItL (mVar 0)) (mgN 1) l__law_is_table_2)
    (mRet (mOpN oAll (mCons (mComp .sh [1] (mItL (mVar 0)) (mgN 1) mYes e__law_is_table_1) mNil)))))
def m__law_is_table : MF := mFn 1 2 b__law_is_table
/-- _law_alone -/
def b__law_alone (a : Addr) (c : Nat) : MS := (mSeq (mSet 1 (mIsE a (([some 4, some 3, some 2, some 5, some 6] : List (Option Nat)).any (subO c)) (mVar 0)))
    (mRet (mAndV (mIsE a (subO c (some 1)) (mVar 0)) (mAndV (mIsE a (subO c (none)) (mVar 0)) (mNotV (mVar 1))))))
def m__law_alone (a : Addr) (c : Nat) : MF := mFn 1 1 (b__law_alone a c)
/-- _law_refused -/
def b__law_refused : MS := (mSeq (mTry (mIf (mTst (mOp2 oEq (mVar 0) (mC (.int 0)))) (mDrop (mCall 1 m_row_sums (mCons (mVar 1) mNil))) (mIf (mTst (mOp2 oEq (mVar 0) (mC (.int 1)))) (mDrop (mCall 1 m_column_sums (mCons (mVar 1) mNil))) (mDrop (mCall 2 m_small_places (mCons (mVar 1) (mCons (mC (.int 0)) mNil)))))) [⟨0, some 2, okP, (fun a c => mCalm (mRet (mCall 1 (mCalmF (m__law_alone a c)) (mCons (mVar 2) mNil))))⟩])
    (mRet (mC (.bl false))))
def m__law_refused : MF := mFn 2 1 b__law_refused
/-- law -/
def e_law_v1_1 : ME := (mCall 2 m__law_refused (mCons (mVar 5) (mCons (mVar 2) mNil)))
def s_law_v1_1 : MS := (mSet 1 (mSh (mCall 3 m__law_table_v1 (mCons (mVar 0) (mCons (mOp2 oAdd (mC (.int 1)) (mOp2 oMod (mCall 2 m__law_mix (mCons (mVar 0) (mCons (mC (.int 0)) mNil))) (mC (.int 8)))) (mCons (mOp2 oAdd (mC (.int 1)) (mOp2 oMod (mCall 2 m__law_mix (mCons (mVar 0) (mCons (mC (.int 1)) mNil))) (mC (.int 8)))) mNil))))))
def s_law_v1_2 : MS := (mSet 2 (mSh (mCall 2 m__law_spoilt (mCons (mVar 0) (mCons (mVar 1) mNil)))))
def s_law_v1_3 : MS := (mSet 3 (mCall 1 m__law_is_table (mCons (mVar 2) mNil)))
def s_law_v1_4 : MS := (mSet 4 (mCall 1 m_is_table (mCons (mVar 2) mNil)))
def s_law_v1_5 : MS := (mIf (mOr (mNot (mTst (mOpN oIsi (mCons (mVar 4) (mCons (mC (.ty "bool")) mNil))))) (mOr (mTst (mOp2 oNeS (mVar 4) (mVar 3))) (mTst (mOp2 oNeS (mVar 2) (mCall 2 m__law_spoilt (mCons (mVar 0) (mCons (mVar 1) mNil))))))) (mRet (mC (.bl false))) mNext)
def s_law_v1_6 : MS := (mRet (mOrV (mVar 3) (mOpN oAll (mCons (mComp .sh [5] (mItR (mCons (mC (.int 3)) mNil)) (mgN 5) mYes e_law_v1_1) mNil))))
def b_law_v1 : MS := (mSeq s_law_v1_1
    (mSeq s_law_v1_2
    (mSeq s_law_v1_3
    (mSeq s_law_v1_4
    (mSeq s_law_v1_5
    s_law_v1_6)))))
def m_law_v1 : MF := mFn 1 5 b_law_v1
/-- _law_bound -/
def b__law_bound : MS := (mSeq (mSet 1 (mCall 2 m__law_mix (mCons (mVar 0) (mCons (mC (.int 3)) mNil))))
    (mSeq (mIf (mTst (mOp2 oEq (mOp2 oMod (mVar 1) (mC (.int 5))) (mC (.int 0)))) (mRet (mOp2 oAdd (mC (.int 1)) (mOp2 oMod (mOp2 oDiv (mVar 1) (mC (.int 5))) (mOp2 oPow (mC (.int 10)) (mC (.int 9)))))) mNext)
    (mRet (mOp2 oAdd (mC (.int 1)) (mOp2 oMod (mOp2 oDiv (mVar 1) (mC (.int 5))) (mC (.int 4)))))))
def m__law_bound : MF := mFn 1 1 b__law_bound
/-- _law_due -/
def l__law_due_1 : MS := (mIf (mAnd (mTst (mOp2 oGt (mOp2 oIx (mOp2 oIx (mVar 0) (mVar 3)) (mVar 4)) (mC (.int 0)))) (mTst (mOp2 oLe (mOp2 oIx (mOp2 oIx (mVar 0) (mVar 3)) (mVar 4)) (mVar 1)))) (mApp 2 (mTup (mCons (mVar 3) (mCons (mVar 4) mNil)))) mNext)
def l__law_due_2 : MS := (mFor (mItR (mCons (mOpN oLen (mCons (mOp2 oIx (mVar 0) (mC (.int 0))) mNil)) mNil)) (mgN 4) l__law_due_1)
def b__law_due : MS := (mSeq (mSet 2 (mLst .sh mNil))
    (mSeq (mFor (mItR (mCons (mOpN oLen (mCons (mVar 0) mNil)) mNil)) (mgN 3) l__law_due_2)
    (mRet (mMov 2))))
def m__law_due : MF := mFn 2 3 b__law_due
/-- _law_told -/
def e__law_told_v1_1 : ME := (mOrV (mOpN oIsi (mCons (mVar 3) (mCons (mC (.ty "bool")) mNil))) (mNotV (mOpN oIsi (mCons (mVar 3) (mCons (mC (.ty "int")) mNil)))))
def l__law_told_v1_1 : MS := (mSeq (mIf (mOr (mNot (mTst (mOpN oIsi (mCons (mVar 2) (mCons (mC (.ty "tuple")) mNil))))) (mTst (mOp2 oNe (mOpN oLen (mCons (mVar 2) mNil)) (mC (.int 2))))) (mRet (mC (.bl false))) mNext)
    (mIf (mTst (mOpN oAny (mCons (mComp .sh [3] (mItT (mVar 2)) (mgN 3) mYes e__law_told_v1_1) mNil))) (mRet (mC (.bl false))) mNext))
def b__law_told_v1 : MS := (mSeq (mIf (mOr (mNot (mTst (mOpN oIsi (mCons (mVar 0) (mCons (mC (.ty "list")) mNil))))) (mTst (mOp2 oNe (mVar 0) (mVar 1)))) (mRet (mC (.bl false))) mNext)
    (mSeq (mFor (mItL (mVar 0)) (mgN 2) l__law_told_v1_1)
    (mRet (mC (.bl true)))))
def m__law_told_v1 : MF := mFn 2 2 b__law_told_v1
/-- _law_classes -/
def b__law_classes (a : Addr) (c : Nat) : MS := (mSeq (mSet 1 (mSh (mLst .sh (mCons (mIsE a (subO c (some 1)) (mVar 0)) (mCons (mIsE a (subO c (some 4)) (mVar 0)) mNil)))))
    (mSeq (mIf (mOr (mTst (mIsE a (([some 3, some 2, some 5, some 6] : List (Option Nat)).any (subO c)) (mVar 0))) (mNot (mTst (mIsE a (subO c (none)) (mVar 0))))) (mRet (mLst .sh mNil)) mNext)
    (mRet (mVar 1))))
def m__law_classes (a : Addr) (c : Nat) : MF := mFn 1 1 (b__law_classes a c)
/-- _law_refused -/
def b__law_refused_v1 : MS := (mSeq (mTry (mDrop (mCall 2 m_small_places (mCons (mVar 0) (mCons (mVar 1) mNil)))) [⟨0, some 2, okP, (fun a c => mCalm (mRet (mCall 1 (mCalmF (m__law_classes a c)) (mCons (mVar 2) mNil))))⟩])
    (mRet (mLst .sh mNil)))
def m__law_refused_v1 : MF := mFn 2 1 b__law_refused_v1
/-- law -/
def e_law_v2_1 : ME := (mOpN oList (mCons (mVar 6) mNil))
def b_law_v2 : MS := (mSeq (mSet 1 (mSh (mCall 3 m__law_table (mCons (mVar 0) (mCons (mOp2 oAdd (mC (.int 1)) (mOp2 oMod (mCall 2 m__law_mix (mCons (mVar 0) (mCons (mC (.int 0)) mNil))) (mC (.int 8)))) (mCons (mOp2 oAdd (mC (.int 1)) (mOp2 oMod (mCall 2 m__law_mix (mCons (mVar 0) (mCons (mC (.int 1)) mNil))) (mC (.int 8)))) mNil))))))
    (mSeq (mSet 2 (mComp (.ow .sh) [6] (mItL (mVar 1)) (mgN 6) mYes e_law_v2_1))
    (mSeq (mSet 3 (mCall 1 m__law_bound (mCons (mVar 0) mNil)))
    (mSeq (mSet 4 (mCall 2 m__law_mix (mCons (mVar 0) (mCons (mC (.int 4)) mNil))))
    (mSeq (mIf (mTst (mOp2 oEq (mOp2 oMod (mVar 4) (mC (.int 4))) (mC (.int 0)))) (mSeq (mSet 5 (mOp2 oIx (mSh (mLst .sh (mCons (mC (.int 0)) (mCons (mC (.int 0)) (mCons (mOp2 oSub (mOp2 oSub (mC (.int 0)) (mC (.int 1))) (mOp2 oDiv (mVar 4) (mC (.int 8)))) (mCons (mC (.bl true)) (mCons (mC (.bl false)) (mCons (mC .non) (mCons (mC (.str "2")) (mCons (mSh (mLst .sh (mCons (mC (.int 2)) mNil))) (mCons (mTup (mCons (mC (.int 2)) mNil)) mNil))))))))))) (mOp2 oMod (mOp2 oDiv (mVar 4) (mC (.int 4))) (mC (.int 9)))))
    (mSeq (mIf (mTst (mOp2 oEq (mOp2 oMod (mCall 2 m__law_mix (mCons (mVar 0) (mCons (mC (.int 5)) mNil))) (mC (.int 3))) (mC (.int 0)))) (mRet (mOp2 oEq (mCall 2 m__law_refused_v1 (mCons (mOp2 oIx (mSh (mLst .sh (mCons (mFrz 2) (mCons (mSh (mLst (.ow .sh) (mCons (mLst .sh mNil) mNil))) (mCons (mC .non) (mCons (mSh (mLst (.ow .sh) (mCons (mLst .sh (mCons (mOp2 oSub (mC (.int 0)) (mC (.int 1))) mNil)) mNil))) mNil)))))) (mOp2 oAdd (mC (.int 1)) (mOp2 oMod (mOp2 oDiv (mVar 4) (mC (.int 44))) (mC (.int 3))))) (mCons (mVar 5) mNil))) (mLst .sh (mCons (mC (.bl true)) (mCons (mC (.bl false)) mNil))))) mNext)
    (mRet (mAndV (mOp2 oEq (mCall 2 m__law_refused_v1 (mCons (mVar 2) (mCons (mVar 5) mNil))) (mLst .sh (mCons (mC (.bl false)) (mCons (mC (.bl true)) mNil)))) (mOp2 oEq (mVar 2) (mVar 1)))))) mNext)
    (mSeq (mIf (mOr (mNot (mTst (mCall 2 m__law_told_v1 (mCons (mCall 2 m_small_places (mCons (mVar 2) (mCons (mVar 3) mNil))) (mCons (mCall 2 m__law_due (mCons (mVar 1) (mCons (mVar 3) mNil))) mNil))))) (mTst (mOp2 oNe (mVar 2) (mVar 1)))) (mRet (mC (.bl false))) mNext)
    (mSeq (mSet 6 (mOp2 oMod (mCall 2 m__law_mix (mCons (mVar 0) (mCons (mC (.int 5)) mNil))) (mOpN oLen (mCons (mVar 1) mNil))))
    (mSeq (mSet 7 (mOp2 oMod (mCall 2 m__law_mix (mCons (mVar 0) (mCons (mC (.int 6)) mNil))) (mOpN oLen (mCons (mOp2 oIx (mVar 1) (mC (.int 0))) mNil))))
    (mSeq (mSetG 2 (mOp2 oIx (mSh (mLst .sh (mCons (mC (.int 0)) (mCons (mVar 3) (mCons (mOp2 oAdd (mVar 3) (mC (.int 1))) (mCons (mC (.int 1)) mNil)))))) (mOp2 oMod (mCall 2 m__law_mix (mCons (mVar 0) (mCons (mC (.int 7)) mNil))) (mC (.int 4)))) (mVar 6) (mVar 7))
    (mRet (mCall 2 m__law_told_v1 (mCons (mCall 2 m_small_places (mCons (mVar 2) (mCons (mVar 3) mNil))) (mCons (mCall 2 m__law_due (mCons (mVar 2) (mCons (mVar 3) mNil))) mNil)))))))))))))
def m_law_v2 : MF := mFn 1 7 b_law_v2
/-- is_place -/
def b_is_place : MS := (mSeq (mIf (mOr (mNot (mTst (mOpN oIsi (mCons (mVar 0) (mCons (mC (.ty "tuple")) mNil))))) (mOr (mTst (mOp2 oNe (mOpN oLen (mCons (mVar 0) mNil)) (mC (.int 2)))) (mOr (mNot (mTst (mCall 1 m_is_number (mCons (mOp2 oIx (mVar 0) (mC (.int 0))) mNil)))) (mNot (mTst (mCall 1 m_is_number (mCons (mOp2 oIx (mVar 0) (mC (.int 1))) mNil))))))) (mRet (mC (.bl false))) mNext)
    (mRet (mAndV (mOp2 oLt (mOp2 oIx (mVar 0) (mC (.int 0))) (mOpN oLen (mCons (mVar 1) mNil))) (mOp2 oLt (mOp2 oIx (mVar 0) (mC (.int 1))) (mOpN oLen (mCons (mOp2 oIx (mVar 1) (mC (.int 0))) mNil))))))
def m_is_place : MF := mFn 2 0 b_is_place
/-- are_sums -/
def e_are_sums_1 : ME := (mCall 1 m_is_number (mCons (mVar 2) mNil))
def b_are_sums : MS := (mRet (mAndV (mOpN oIsi (mCons (mVar 0) (mCons (mC (.ty "list")) mNil))) (mAndV (mOp2 oEq (mOpN oLen (mCons (mVar 0) mNil)) (mVar 1)) (mOpN oAll (mCons (mComp .sh [2] (mItL (mVar 0)) (mgN 2) mYes e_are_sums_1) mNil)))))
def m_are_sums : MF := mFn 2 1 b_are_sums
/-- shown_sum -/
def t_shown_sum_1 : MT := (mTst (mOp2 oNotN (mVar 1) (mC .non)))
def e_shown_sum_1 : ME := (mVar 1)
def b_shown_sum : MS := (mRet (mOpN oSum (mCons (mComp .sh [1] (mItL (mVar 0)) (mgN 1) t_shown_sum_1 e_shown_sum_1) mNil)))
def m_shown_sum : MF := mFn 1 1 b_shown_sum
/-- rests_of -/
def e_rests_of_1 : ME := (mOp2 oSub (mVar 7) (mCall 1 m_shown_sum (mCons (mVar 8) mNil)))
def e_rests_of_2 : ME := (mOp2 oIx (mVar 8) (mVar 6))
def l_rests_of_1 : MS := (mApp 5 (mOp2 oSub (mVar 7) (mCall 1 m_shown_sum (mCons (mComp .sh [8] (mItL (mVar 1)) (mgN 8) mYes e_rests_of_2) mNil))))
def b_rests_of : MS := (mSeq (mAsg (mgT 3 (mgCons (mgN 1) (mgCons (mgN 2) (mgCons (mgN 3) mgNil)))) (mVar 0))
    (mSeq (mSet 4 (mComp .sh [7, 8] (mItZ (mCons (mVar 2) (mCons (mVar 1) mNil))) (mgT 2 (mgCons (mgN 7) (mgCons (mgN 8) mgNil))) mYes e_rests_of_1))
    (mSeq (mSet 5 (mLst .sh mNil))
    (mSeq (mFor (mItE (mCons (mVar 3) mNil)) (mgT 2 (mgCons (mgN 6) (mgCons (mgN 7) mgNil))) l_rests_of_1)
    (mRet (mTup (mCons (mMov 4) (mCons (mMov 5) mNil))))))))
def m_rests_of : MF := mFn 1 8 b_rests_of
/-- is_view -/
def e_is_view_1 : ME := (mOrV (mOp2 oIsN (mVar 4) (mC .non)) (mCall 1 m_is_number (mCons (mVar 4) mNil)))
def e_is_view_2 : ME := (mOpN oAll (mCons (mComp .sh [4] (mItL (mVar 3)) (mgN 4) mYes e_is_view_1) mNil))
def b_is_view : MS := (mSeq (mIf (mOr (mNot (mTst (mOpN oIsi (mCons (mVar 0) (mCons (mC (.ty "tuple")) mNil))))) (mOr (mTst (mOp2 oNe (mOpN oLen (mCons (mVar 0) mNil)) (mC (.int 3)))) (mNot (mTst (mCall 1 m_is_grid (mCons (mOp2 oIx (mVar 0) (mC (.int 0))) mNil)))))) (mRet (mC (.bl false))) mNext)
    (mSeq (mIf (mNot (mTst (mOpN oAll (mCons (mComp .sh [3] (mItL (mOp2 oIx (mVar 0) (mC (.int 0)))) (mgN 3) mYes e_is_view_2) mNil)))) (mRet (mC (.bl false))) mNext)
    (mSeq (mIf (mOr (mNot (mTst (mCall 2 m_are_sums (mCons (mOp2 oIx (mVar 0) (mC (.int 1))) (mCons (mOpN oLen (mCons (mOp2 oIx (mVar 0) (mC (.int 0))) mNil)) mNil))))) (mNot (mTst (mCall 2 m_are_sums (mCons (mOp2 oIx (mVar 0) (mC (.int 2))) (mCons (mOpN oLen (mCons (mOp2 oIx (mOp2 oIx (mVar 0) (mC (.int 0))) (mC (.int 0))) mNil)) mNil)))))) (mRet (mC (.bl false))) mNext)
    (mSeq (mAsg (mgT 2 (mgCons (mgN 1) (mgCons (mgN 2) mgNil))) (mCall 1 m_rests_of (mCons (mVar 0) mNil)))
    (mRet (mAndV (mOp2 oGe (mOpN oMin (mCons (mOp2 oCat (mVar 1) (mVar 2)) mNil)) (mC (.int 0))) (mOp2 oEq (mOpN oSum (mCons (mVar 1) mNil)) (mOpN oSum (mCons (mVar 2) mNil)))))))))
def m_is_view : MF := mFn 1 4 b_is_view
/-- need_view -/
def b_need_view : MS := (mIf (mNot (mTst (mCall 1 m_is_view (mCons (mVar 0) mNil)))) (mRaise 2) mNext)
def m_need_view : MF := mFn 1 0 b_need_view
/-- hidden_places -/
def t_hidden_places_1 : MT := (mTst (mOp2 oIsN (mOp2 oIx (mOp2 oIx (mOp2 oIx (mVar 0) (mC (.int 0))) (mOp2 oIx (mVar 1) (mC (.int 0)))) (mOp2 oIx (mVar 1) (mC (.int 1)))) (mC .non)))
def e_hidden_places_1 : ME := (mVar 1)
def b_hidden_places : MS := (mSeq (mDrop (mCall 1 m_need_view (mCons (mVar 0) mNil)))
    (mRet (mComp .sh [1] (mItL (mCall 1 m_all_places (mCons (mOp2 oIx (mVar 0) (mC (.int 0))) mNil))) (mgN 1) t_hidden_places_1 e_hidden_places_1)))
def m_hidden_places : MF := mFn 1 1 b_hidden_places
/-- rests -/
def b_rests : MS := (mSeq (mDrop (mCall 1 m_need_view (mCons (mVar 0) mNil)))
    (mRet (mCall 1 m_rests_of (mCons (mVar 0) mNil))))
def m_rests : MF := mFn 1 0 b_rests
/-- _law_all -/
def e__law_all_1 : ME := (mTup (mCons (mVar 2) (mCons (mVar 3) mNil)))
def l__law_all_1 : MS := (mSet 1 (mSh (mOp2 oCat (mVar 1) (mComp .sh [3] (mItR (mCons (mOpN oLen (mCons (mOp2 oIx (mVar 0) (mC (.int 0))) mNil)) mNil)) (mgN 3) mYes e__law_all_1))))
def b__law_all : MS := (mSeq (mSet 1 (mSh (mLst .sh mNil)))
    (mSeq (mFor (mItR (mCons (mOpN oLen (mCons (mVar 0) mNil)) mNil)) (mgN 2) l__law_all_1)
    (mRet (mVar 1))))
def m__law_all : MF := mFn 1 3 b__law_all
/-- _law_places -/
def t__law_places_1 : MT := (mTst (mOp2 oGt (mOp2 oMod (mCall 2 m__law_mix (mCons (mVar 0) (mCons (mOp2 oAdd (mC (.int 80)) (mVar 4)) mNil))) (mC (.int 5))) (mVar 2)))
def e__law_places_1 : ME := (mOp2 oIx (mVar 3) (mVar 4))
def b__law_places : MS := (mSeq (mSet 2 (mOp2 oSub (mOp2 oMod (mCall 2 m__law_mix (mCons (mVar 0) (mCons (mC (.int 6)) mNil))) (mC (.int 5))) (mC (.int 1))))
    (mSeq (mSet 3 (mCall 1 m__law_all (mCons (mVar 1) mNil)))
    (mRet (mComp .sh [4] (mItR (mCons (mOpN oLen (mCons (mVar 3) mNil)) mNil)) (mgN 4) t__law_places_1 e__law_places_1))))
def m__law_places : MF := mFn 2 3 b__law_places
/-- _law_column_sums -/
def e__law_column_sums_1 : ME := (mOp2 oIx (mVar 2) (mVar 1))
def e__law_column_sums_2 : ME := (mOpN oSum (mCons (mComp .sh [2] (mItL (mVar 0)) (mgN 2) mYes e__law_column_sums_1) mNil))
def b__law_column_sums : MS := (mRet (mComp .sh [1] (mItR (mCons (mOpN oLen (mCons (mOp2 oIx (mVar 0) (mC (.int 0))) mNil)) mNil)) (mgN 1) mYes e__law_column_sums_2))
def m__law_column_sums : MF := mFn 1 2 b__law_column_sums
/-- _law_view -/
def e__law_view_1 : ME := (mOp2 oIx (mSh (mLst .sh (mCons (mOp2 oIx (mOp2 oIx (mVar 0) (mVar 3)) (mVar 4)) (mCons (mC .non) mNil)))) (mOpN oInt (mCons (mOp2 oIn (mTup (mCons (mVar 3) (mCons (mVar 4) mNil))) (mVar 1)) mNil)))
def l__law_view_1 : MS := (mApp 2 (mComp .sh [4] (mItR (mCons (mOpN oLen (mCons (mOp2 oIx (mVar 0) (mC (.int 0))) mNil)) mNil)) (mgN 4) mYes e__law_view_1))
def e__law_view_2 : ME := (mOpN oSum (mCons (mVar 3) mNil))
def b__law_view : MS := (mSeq (mSet 2 (mLst (.ow .sh) mNil))
    (mSeq (mFor (mItR (mCons (mOpN oLen (mCons (mVar 0) mNil)) mNil)) (mgN 3) l__law_view_1)
    (mRet (mTup (mCons (mMov 2) (mCons (mComp .sh [3] (mItL (mVar 0)) (mgN 3) mYes e__law_view_2) (mCons (mCall 1 m__law_column_sums (mCons (mVar 0) mNil)) mNil)))))))
def m__law_view : MF := mFn 2 3 b__law_view
/-- _law_copy -/
def e__law_copy_1 : ME := (mOpN oList (mCons (mVar 1) mNil))
def b__law_copy : MS := (mRet (mTup (mCons (mComp (.ow .sh) [1] (mItL (mOp2 oIx (mVar 0) (mC (.int 0)))) (mgN 1) mYes e__law_copy_1) (mCons (mOpN oList (mCons (mOp2 oIx (mVar 0) (mC (.int 1))) mNil)) (mCons (mOpN oList (mCons (mOp2 oIx (mVar 0) (mC (.int 2))) mNil)) mNil)))))
def m__law_copy : MF := mFn 1 1 b__law_copy
/-- _law_rests -/
def e__law_rests_1 : ME := (mOp2 oIx (mSh (mLst .sh (mCons (mVar 5) (mCons (mC (.int 0)) mNil)))) (mOpN oInt (mCons (mOp2 oIsN (mVar 5) (mC .non)) mNil)))
def e__law_rests_2 : ME := (mComp .sh [5] (mItL (mVar 4)) (mgN 5) mYes e__law_rests_1)
def e__law_rests_3 : ME := (mOp2 oSub (mOp2 oIx (mOp2 oIx (mVar 0) (mC (.int 1))) (mVar 4)) (mOpN oSum (mCons (mOp2 oIx (mVar 1) (mVar 4)) mNil)))
def e__law_rests_4 : ME := (mOp2 oSub (mOp2 oIx (mOp2 oIx (mVar 0) (mC (.int 2))) (mVar 6)) (mOp2 oIx (mVar 3) (mVar 6)))
def b__law_rests : MS := (mSeq (mSet 1 (mSh (mComp (.ow .sh) [4] (mItL (mOp2 oIx (mVar 0) (mC (.int 0)))) (mgN 4) mYes e__law_rests_2)))
    (mSeq (mSet 2 (mComp .sh [4] (mItR (mCons (mOpN oLen (mCons (mVar 1) mNil)) mNil)) (mgN 4) mYes e__law_rests_3))
    (mSeq (mSet 3 (mSh (mCall 1 m__law_column_sums (mCons (mVar 1) mNil))))
    (mRet (mTup (mCons (mMov 2) (mCons (mComp .sh [6] (mItR (mCons (mOpN oLen (mCons (mVar 3) mNil)) mNil)) (mgN 6) mYes e__law_rests_4) mNil)))))))
def m__law_rests : MF := mFn 1 6 b__law_rests
/-- _law_whole -/
def b__law_whole : MS := (mRet (mAndV (mOpN oIsi (mCons (mVar 0) (mCons (mC (.ty "int")) mNil))) (mNotV (mOpN oIsi (mCons (mVar 0) (mCons (mC (.ty "bool")) mNil))))))
def m__law_whole : MF := mFn 1 0 b__law_whole
/-- _law_odd -/
def t__law_odd_v1_1 : MT := (mAnd (mTst (mOp2 oLt (mOp2 oIx (mVar 7) (mC (.int 0))) (mC (.int 2)))) (mTst (mOp2 oNotIn (mVar 7) (mVar 0))))
def e__law_odd_v1_1 : ME := (mVar 7)
def e__law_odd_v1_2 : ME := (mTup (mCons (mOp2 oEq (mOp2 oIx (mVar 7) (mC (.int 0))) (mC (.int 1))) (mCons (mOp2 oIx (mVar 7) (mC (.int 1))) mNil)))
def b__law_odd_v1 : MS := (mSeq (mSet 3 (mOpN oLen (mCons (mVar 1) mNil)))
    (mSeq (mSet 4 (mOpN oLen (mCons (mOp2 oIx (mVar 1) (mC (.int 0))) mNil)))
    (mSeq (mSet 5 (mSh (mLst .sh (mCons (mTup (mCons (mVar 3) (mCons (mC (.int 0)) mNil))) (mCons (mTup (mCons (mC (.int 0)) (mCons (mVar 4) mNil))) (mCons (mTup (mCons (mOp2 oSub (mC (.int 0)) (mC (.int 1))) (mCons (mC (.int 0)) mNil))) (mCons (mTup (mCons (mC (.int 0)) (mCons (mOp2 oSub (mC (.int 0)) (mC (.int 1))) mNil))) (mCons (mSh (mLst .sh (mCons (mC (.int 0)) (mCons (mC (.int 0)) mNil)))) (mCons (mTup (mCons (mC (.int 0)) (mCons (mC (.int 0)) (mCons (mC (.int 0)) mNil)))) (mCons (mTup (mCons (mC (.bl false)) (mCons (mC (.int 0)) mNil))) (mCons (mTup (mCons (mC (.int 0)) (mCons (mC (.bl true)) mNil))) (mCons (mC .non) (mCons (mC (.str "00")) (mCons (mTup (mCons (mC (.int 0)) mNil)) mNil))))))))))))))
    (mSeq (mSet 5 (mSh (mOp2 oCat (mOp2 oCat (mVar 5) (mLst .sh (mCons (mTup mNil) (mCons (mTup (mCons (mC (.str "0")) (mCons (mC (.int 0)) mNil))) (mCons (mTup (mCons (mC (.int 0)) (mCons (mC .non) mNil))) (mCons (mTup (mCons (mC (.bl true)) (mCons (mC (.int 0)) mNil))) (mCons (mTup (mCons (mC (.int 0)) (mCons (mC (.bl false)) mNil))) mNil))))))) (mOp2 oRep (mSl (mVar 0) mONo (mOSome (mC (.int 1)))) (mC (.int 4))))))
    (mSeq (mSet 6 (mComp .sh [7] (mItL (mCall 1 m__law_all (mCons (mVar 1) mNil))) (mgN 7) t__law_odd_v1_1 e__law_odd_v1_1))
    (mSeq (mSet 5 (mSh (mOp2 oCat (mVar 5) (mComp .sh [7] (mItL (mSl (mVar 6) mONo (mOSome (mC (.int 5))))) (mgN 7) mYes e__law_odd_v1_2))))
    (mRet (mOp2 oIx (mVar 5) (mOp2 oMod (mVar 2) (mOpN oLen (mCons (mVar 5) mNil)))))))))))
def m__law_odd_v1 : MF := mFn 3 5 b__law_odd_v1
/-- _law_classes -/
def b__law_classes_v1 (a : Addr) (c : Nat) : MS := (mSeq (mIf (mOr (mTst (mIsE a (([some 4, some 2, some 5, some 6] : List (Option Nat)).any (subO c)) (mVar 0))) (mNot (mTst (mIsE a (subO c (none)) (mVar 0))))) (mRet (mLst .sh mNil)) mNext)
    (mRet (mLst .sh (mCons (mIsE a (subO c (some 1)) (mVar 0)) (mCons (mIsE a (subO c (some 3)) (mVar 0)) mNil)))))
def m__law_classes_v1 (a : Addr) (c : Nat) : MF := mFn 1 0 (b__law_classes_v1 a c)
/-- _law_plain -/
def e__law_plain_1 : ME := (mOpN oIsi (mCons (mVar 2) (mCons (mC (.ty "list")) mNil)))
def e__law_plain_2 : ME := (mCall 1 m__law_whole (mCons (mVar 3) mNil))
def e__law_plain_3 : ME := (mOrV (mOp2 oIsN (mVar 2) (mC .non)) (mCall 1 m__law_whole (mCons (mVar 2) mNil)))
def l__law_plain_1 : MS := (mIf (mOr (mNot (mTst (mOpN oIsi (mCons (mVar 1) (mCons (mC (.ty "list")) mNil))))) (mNot (mTst (mOpN oAll (mCons (mComp .sh [2] (mItL (mVar 1)) (mgN 2) mYes e__law_plain_3) mNil))))) (mRet (mC (.bl false))) mNext)
def b__law_plain : MS := (mSeq (mIf (mOr (mNot (mTst (mOpN oIsi (mCons (mVar 0) (mCons (mC (.ty "tuple")) mNil))))) (mOr (mTst (mOp2 oNe (mOpN oLen (mCons (mVar 0) mNil)) (mC (.int 3)))) (mNot (mTst (mOpN oAll (mCons (mComp .sh [2] (mItT (mVar 0)) (mgN 2) mYes e__law_plain_1) mNil)))))) (mRet (mC (.bl false))) mNext)
    (mSeq (mIf (mNot (mTst (mOpN oAll (mCons (mComp .sh [3] (mItL (mOp2 oAdd (mOp2 oIx (mVar 0) (mC (.int 1))) (mOp2 oIx (mVar 0) (mC (.int 2))))) (mgN 3) mYes e__law_plain_2) mNil)))) (mRet (mC (.bl false))) mNext)
    (mSeq (mFor (mItL (mOp2 oIx (mVar 0) (mC (.int 0)))) (mgN 1) l__law_plain_1)
    (mRet (mC (.bl true))))))
def m__law_plain : MF := mFn 1 3 b__law_plain
/-- crossing -/
def e_crossing_1 : ME := (mTup (mCons (mTup (mCons (mOp2 oIx (mVar 1) (mC (.int 1))) (mCons (mVar 2) mNil))) (mCons (mTup (mCons (mC (.str "column")) (mCons (mVar 2) mNil))) mNil)))
def e_crossing_2 : ME := (mTup (mCons (mTup (mCons (mVar 3) (mCons (mOp2 oIx (mVar 1) (mC (.int 1))) mNil))) (mCons (mTup (mCons (mC (.str "row")) (mCons (mVar 3) mNil))) mNil)))
def b_crossing : MS := (mSeq (mIf (mTst (mOp2 oEq (mOp2 oIx (mVar 1) (mC (.int 0))) (mC (.str "row")))) (mRet (mComp .sh [2] (mItR (mCons (mOpN oLen (mCons (mOp2 oIx (mVar 0) (mC (.int 0))) mNil)) mNil)) (mgN 2) mYes e_crossing_1)) mNext)
    (mRet (mComp .sh [3] (mItR (mCons (mOpN oLen (mCons (mVar 0) mNil)) mNil)) (mgN 3) mYes e_crossing_2)))
def m_crossing : MF := mFn 2 2 b_crossing
/-- way_to -/
def l_way_to_1 : MS := (mSeq (mAsg (mgT 2 (mgCons (mgN 3) (mgCons (mgN 4) mgNil))) (mOp2 oIx (mVar 0) (mVar 1)))
    (mSeq (mApp 2 (mTup (mCons (mVar 4) (mCons (mOp2 oEq (mOp2 oIx (mVar 3) (mC (.int 0))) (mC (.str "row"))) mNil))))
    (mSet 1 (mVar 3))))
def w_way_to_1 : MT := (mTst (mOp2 oNotN (mOp2 oIx (mVar 0) (mVar 1)) (mC .non)))
def b_way_to : MS := (mSeq (mSet 2 (mLst .sh mNil))
    (mSeq (mWhile (fun _ => 0) w_way_to_1 l_way_to_1)
    (mRet (mMov 2))))
def m_way_to : MF := mFn 2 3 b_way_to
/-- least_on -/
def t_least_on_1 : MT := (mTst (mOp2 oEq (mVar 4) (mVar 2)))
def e_least_on_1 : ME := (mOp2 oIx (mOp2 oIx (mVar 0) (mOp2 oIx (mVar 3) (mC (.int 0)))) (mOp2 oIx (mVar 3) (mC (.int 1))))
def b_least_on : MS := (mRet (mOpN oMin (mCons (mComp .sh [3, 4] (mItL (mVar 1)) (mgT 2 (mgCons (mgN 3) (mgCons (mgN 4) mgNil))) t_least_on_1 e_least_on_1) mNil)))
def m_least_on : MF := mFn 3 2 b_least_on
/-- move -/
def l_move_1 : MS := (mIf (mTst (mOp2 oEq (mVar 5) (mVar 2))) (mAh 0 (mSetG 0 (mOp2 oSub (mOp2 oIx (mOp2 oIx (mVar 0) (mOp2 oIx (mVar 4) (mC (.int 0)))) (mOp2 oIx (mVar 4) (mC (.int 1)))) (mVar 3)) (mOp2 oIx (mVar 4) (mC (.int 0))) (mOp2 oIx (mVar 4) (mC (.int 1))))) (mAh 0 (mSetG 0 (mOp2 oAdd (mOp2 oIx (mOp2 oIx (mVar 0) (mOp2 oIx (mVar 4) (mC (.int 0)))) (mOp2 oIx (mVar 4) (mC (.int 1)))) (mVar 3)) (mOp2 oIx (mVar 4) (mC (.int 0))) (mOp2 oIx (mVar 4) (mC (.int 1))))))
def b_move : MS := (mFor (mItL (mVar 1)) (mgT 2 (mgCons (mgN 4) (mgCons (mgN 5) mgNil))) l_move_1)
def m_move : MFA := mFnA 4 2 0 (.ow (.ow .sh)) (fun _ => b_move)
/-- nearest_end -/
def l_nearest_end_1 : MS := (mIf (mAnd (mTst (mOp2 oEq (mOp2 oIx (mVar 2) (mC (.int 0))) (mC (.str "column")))) (mTst (mOp2 oGt (mOp2 oIx (mVar 1) (mOp2 oIx (mVar 2) (mC (.int 1)))) (mC (.int 0))))) (mRet (mVar 2)) mNext)
def b_nearest_end : MS := (mSeq (mFor (mItL (mVar 0)) (mgN 2) l_nearest_end_1)
    (mRet (mC .non)))
def m_nearest_end : MF := mFn 2 1 b_nearest_end
/-- begun_at -/
def l_begun_at_1 : MS := (mSet 1 (mOp2 oIx (mOp2 oIx (mVar 0) (mVar 1)) (mC (.int 0))))
def w_begun_at_1 : MT := (mTst (mOp2 oNotN (mOp2 oIx (mVar 0) (mVar 1)) (mC .non)))
def b_begun_at : MS := (mSeq (mWhile (fun _ => 0) w_begun_at_1 l_begun_at_1)
    (mRet (mOp2 oIx (mVar 1) (mC (.int 1)))))
def m_begun_at : MF := mFn 2 0 b_begun_at
/-- filled -/
def b_filled_k05 : MS := (mSeq (mSet 1 (mSh (mCall 1 m_hidden_places (mCons (mVar 0) mNil)))) mStk)
def m_filled_k05 : MF := mFn 1 15 b_filled_k05
/-- need_hidden -/
def b_need_hidden_k05 : MS := (mSeq (mSet 2 (mSh (mCall 1 m_hidden_places (mCons (mVar 0) mNil)))) mStk)
def m_need_hidden_k05 : MF := mFn 2 1 b_need_hidden_k05
/-- wall_at -/
def b_wall_at : MS := (mRet (mTup (mCons (mOp2 oIx (mOp2 oIx (mOp2 oIx (mVar 0) (mC (.int 0))) (mOp2 oIx (mVar 1) (mC (.int 0)))) (mOp2 oIx (mVar 1) (mC (.int 1)))) (mCons (mOp2 oIx (mOp2 oIx (mVar 0) (mC (.int 1))) (mC (.int 0))) (mCons (mOp2 oIx (mOp2 oIx (mVar 0) (mC (.int 1))) (mC (.int 1))) mNil)))))
def m_wall_at : MF := mFn 2 0 b_wall_at
/-- ends -/
def b_ends_k05 : MS := (mSeq (mSet 2 (mCall 2 m_need_hidden_k05 (mCons (mVar 0) (mCons (mVar 1) mNil)))) mStk)
def m_ends_k05 : MF := mFn 2 2 b_ends_k05
/-- walls -/
def b_walls_k05 : MS := (mSeq (mSet 2 (mCall 2 m_need_hidden_k05 (mCons (mVar 0) (mCons (mVar 1) mNil)))) mStk)
def m_walls_k05 : MF := mFn 2 4 b_walls_k05
/-- given_away -/
def b_given_away_k05 : MS := (mSeq (mSet 2 (mSh (mCall 1 m_hidden_places (mCons (mVar 0) mNil)))) mStk)
def m_given_away_k05 : MF := mFn 2 3 b_given_away_k05
/-- _law_mix -/
def b__law_mix_v1 : MS := (mSeq (mSet 2 (mC (.int 0)))
    (mSeq (mIf (mTst (mOp2 oGt (mOpN oLen (mCons (mVar 0) mNil)) (mC (.int 0)))) (mSet 2 (mOp2 oAdd (mOp2 oIx (mVar 0) (mOp2 oMod (mVar 1) (mOpN oLen (mCons (mVar 0) mNil)))) (mOp2 oDiv (mVar 1) (mOpN oLen (mCons (mVar 0) mNil))))) mNext)
    (mSeq (mSet 3 (mOp2 oMod (mOp2 oMul (mOp2 oAdd (mVar 2) (mOp2 oMul (mC (.int 7919)) (mOp2 oAdd (mVar 1) (mC (.int 1))))) (mC (.int 48271))) (mC (.int 2147483647))))
    (mRet (mOp2 oMod (mOp2 oMul (mVar 3) (mVar 3)) (mC (.int 2147483629)))))))
def m__law_mix_v1 : MF := mFn 2 2 b__law_mix_v1
/-- _law_count -/
def b__law_count_v1 : MS := (mSeq (mSet 2 (mCall 2 m__law_mix_v1 (mCons (mVar 0) (mCons (mVar 1) mNil))))
    (mSeq (mSet 3 (mOp2 oDiv (mVar 2) (mC (.int 8))))
    (mSeq (mIf (mTst (mOp2 oEq (mOp2 oMod (mVar 2) (mC (.int 8))) (mC (.int 0)))) (mRet (mC (.int 0))) mNext)
    (mSeq (mSet 4 (mSh (mLst .sh (mCons (mOp2 oMod (mVar 3) (mC (.int 3))) (mCons (mOp2 oMod (mVar 3) (mC (.int 5))) (mCons (mOp2 oMod (mVar 3) (mC (.int 12))) (mCons (mOp2 oIx (mSh (mLst .sh (mCons (mC (.int 0)) (mCons (mC (.int 1)) (mCons (mC (.int 2)) (mCons (mC (.int 40)) mNil)))))) (mOp2 oMod (mVar 3) (mC (.int 4)))) (mCons (mOp2 oMod (mVar 3) (mC (.int 1000))) (mCons (mOp2 oAdd (mOp2 oMul (mVar 3) (mOp2 oPow (mC (.int 10)) (mC (.int 11)))) (mOp2 oMod (mVar 3) (mC (.int 7)))) mNil)))))))))
    (mRet (mOp2 oIx (mVar 4) (mOp2 oMod (mCall 2 m__law_mix_v1 (mCons (mVar 0) (mCons (mC (.int 2)) mNil))) (mC (.int 6)))))))))
def m__law_count_v1 : MF := mFn 2 3 b__law_count_v1
/-- _law_view -/
def e__law_view_v1_1 : ME := (mOp2 oIx (mSh (mLst .sh (mCons (mOp2 oIx (mOp2 oIx (mVar 0) (mVar 3)) (mVar 4)) (mCons (mC .non) mNil)))) (mOpN oInt (mCons (mOp2 oIn (mTup (mCons (mVar 3) (mCons (mVar 4) mNil))) (mVar 1)) mNil)))
def l__law_view_v1_1 : MS := (mApp 2 (mComp .sh [4] (mItR (mCons (mOpN oLen (mCons (mOp2 oIx (mVar 0) (mC (.int 0))) mNil)) mNil)) (mgN 4) mYes e__law_view_v1_1))
def e__law_view_v1_2 : ME := (mOpN oSum (mCons (mVar 3) mNil))
def b__law_view_v1 : MS := (mSeq (mSet 2 (mLst (.ow .sh) mNil))
    (mSeq (mFor (mItR (mCons (mOpN oLen (mCons (mVar 0) mNil)) mNil)) (mgN 3) l__law_view_v1_1)
    (mRet (mTup (mCons (mMov 2) (mCons (mComp .sh [3] (mItL (mVar 0)) (mgN 3) mYes e__law_view_v1_2) (mCons (mCall 1 m__law_column_sums (mCons (mVar 0) mNil)) mNil)))))))
def m__law_view_v1 : MF := mFn 2 3 b__law_view_v1
/-- _law_rests -/
def e__law_rests_v1_1 : ME := (mOp2 oIx (mSh (mLst .sh (mCons (mVar 5) (mCons (mC (.int 0)) mNil)))) (mOpN oInt (mCons (mOp2 oIsN (mVar 5) (mC .non)) mNil)))
def e__law_rests_v1_2 : ME := (mComp .sh [5] (mItL (mVar 4)) (mgN 5) mYes e__law_rests_v1_1)
def e__law_rests_v1_3 : ME := (mOp2 oSub (mOp2 oIx (mOp2 oIx (mVar 0) (mC (.int 1))) (mVar 4)) (mOpN oSum (mCons (mOp2 oIx (mVar 1) (mVar 4)) mNil)))
def e__law_rests_v1_4 : ME := (mOp2 oSub (mOp2 oIx (mOp2 oIx (mVar 0) (mC (.int 2))) (mVar 6)) (mOp2 oIx (mVar 3) (mVar 6)))
def b__law_rests_v1 : MS := (mSeq (mSet 1 (mSh (mComp (.ow .sh) [4] (mItL (mOp2 oIx (mVar 0) (mC (.int 0)))) (mgN 4) mYes e__law_rests_v1_2)))
    (mSeq (mSet 2 (mComp .sh [4] (mItR (mCons (mOpN oLen (mCons (mVar 1) mNil)) mNil)) (mgN 4) mYes e__law_rests_v1_3))
    (mSeq (mSet 3 (mSh (mCall 1 m__law_column_sums (mCons (mVar 1) mNil))))
    (mRet (mTup (mCons (mMov 2) (mCons (mComp .sh [6] (mItR (mCons (mOpN oLen (mCons (mVar 3) mNil)) mNil)) (mgN 6) mYes e__law_rests_v1_4) mNil)))))))
def m__law_rests_v1 : MF := mFn 1 6 b__law_rests_v1
/-- _law_odd -/
def b__law_odd_v2 : MS := (mSeq (mSet 1 (mSh (mLst .sh (mCons (mC (.bl true)) (mCons (mC (.bl false)) (mCons (mC .non) (mCons (mOp2 oSub (mC (.int 0)) (mC (.int 1))) (mCons (mC (.str "1")) (mCons (mSh (mLst .sh (mCons (mC (.int 1)) mNil))) (mCons (mTup (mCons (mC (.int 1)) mNil)) (mCons (mC (.dK [] [])) (mCons (mOp2 oSub (mC (.int 0)) (mOp2 oPow (mC (.int 10)) (mC (.int 30)))) mNil))))))))))))
    (mRet (mOp2 oIx (mVar 1) (mOp2 oMod (mVar 0) (mC (.int 9))))))
def m__law_odd_v2 : MF := mFn 1 1 b__law_odd_v2
/-- _law_other -/
def b__law_other_v1 : MS := (mSeq (mSet 2 (mSh (mLst .sh (mCons (mSh (mOpN oList (mCons (mVar 0) mNil))) (mCons (mSlT (mVar 0) mONo (mOSome (mC (.int 2)))) (mCons (mOp2 oCatT (mVar 0) (mSh (mTup (mCons (mLst .sh mNil) mNil)))) (mCons (mC .non) (mCons (mC (.int 7)) (mCons (mC (.str "view")) (mCons (mC (.dK [] [])) (mCons (mTup mNil) (mCons (mTup (mCons (mOp2 oIx (mVar 0) (mC (.int 0))) (mCons (mOpN oTuple (mCons (mOp2 oIx (mVar 0) (mC (.int 1))) mNil)) (mCons (mOp2 oIx (mVar 0) (mC (.int 2))) mNil)))) mNil))))))))))))
    (mSeq (mSet 2 (mSh (mOp2 oCat (mVar 2) (mLst .sh (mCons (mTup (mCons (mOpN oTuple (mCons (mOp2 oIx (mVar 0) (mC (.int 0))) mNil)) (mCons (mOp2 oIx (mVar 0) (mC (.int 1))) (mCons (mOp2 oIx (mVar 0) (mC (.int 2))) mNil)))) (mCons (mSh (mTup (mCons (mLst .sh mNil) (mCons (mLst .sh mNil) (mCons (mLst .sh mNil) mNil))))) (mCons (mSh (mTup (mCons (mLst (.ow .sh) (mCons (mLst .sh mNil) mNil)) (mCons (mLst .sh (mCons (mC (.int 0)) mNil)) (mCons (mLst .sh mNil) mNil))))) (mCons (mSh (mTup (mCons (mOp2 oIx (mVar 0) (mC (.int 0))) (mCons (mOp2 oIx (mVar 0) (mC (.int 2))) (mCons (mOp2 oIx (mVar 0) (mC (.int 1))) (mCons (mLst .sh mNil) mNil)))))) mNil))))))))
    (mRet (mOp2 oIx (mVar 2) (mOp2 oMod (mVar 1) (mC (.int 13)))))))
def m__law_other_v1 : MF := mFn 2 1 b__law_other_v1
/-- _law_sums -/
def s__law_sums_v1_1 : MS := (mSet 5 (mOp2 oAdd (mC (.int 1)) (mOp2 oMod (mVar 4) (mC (.int 2)))))
def s__law_sums_v1_2 : MS := (mSet 6 (mOp2 oIx (mSh (mLst .sh (mCons (mVar 2) (mCons (mVar 3) mNil)))) (mOp2 oSub (mVar 5) (mC (.int 1)))))
def s__law_sums_v1_3 : MS := (mIf (mTst (mOp2 oEq (mVar 1) (mC (.int 4)))) (mSeq (mSet 7 (mOp2 oIx (mOp2 oIx (mSh (mCall 1 m__law_rests_v1 (mCons (mVar 0) mNil))) (mOp2 oSub (mVar 5) (mC (.int 1)))) (mVar 6)))
    (mSeq (mStP 0 (mOp2 oSub (mOp2 oSub (mOp2 oIx (mOp2 oIx (mVar 0) (mVar 5)) (mVar 6)) (mVar 7)) (mC (.int 1))) (mVar 5) (mVar 6))
    (mSeq (mStP 0 (mOp2 oAdd (mOp2 oAdd (mOp2 oIx (mOp2 oIx (mVar 0) (mVar 5)) (mOp2 oSub (mVar 6) (mC (.int 1)))) (mVar 7)) (mC (.int 1))) (mVar 5) (mOp2 oSub (mVar 6) (mC (.int 1))))
    (mRet (mMov 0))))) mNext)
def s__law_sums_v1_4 : MS := (mStP 0 (mOp2 oAdd (mOp2 oIx (mOp2 oIx (mVar 0) (mVar 5)) (mVar 6)) (mVar 4)) (mVar 5) (mVar 6))
def s__law_sums_v1_5 : MS := (mIf (mTst (mOp2 oEq (mVar 1) (mC (.int 5)))) (mStP 0 (mOp2 oAdd (mOp2 oIx (mOp2 oIx (mVar 0) (mOp2 oSub (mC (.int 3)) (mVar 5))) (mOp2 oIx (mSh (mLst .sh (mCons (mVar 2) (mCons (mVar 3) mNil)))) (mOp2 oSub (mC (.int 2)) (mVar 5)))) (mVar 4)) (mOp2 oSub (mC (.int 3)) (mVar 5)) (mOp2 oIx (mSh (mLst .sh (mCons (mVar 2) (mCons (mVar 3) mNil)))) (mOp2 oSub (mC (.int 2)) (mVar 5)))) mNext)
def s__law_sums_v1_6 : MS := (mRet (mMov 0))
def b__law_sums_v1 : MS := (mSeq s__law_sums_v1_1
    (mSeq s__law_sums_v1_2
    (mSeq s__law_sums_v1_3
    (mSeq s__law_sums_v1_4
    (mSeq s__law_sums_v1_5
    s__law_sums_v1_6)))))
def m__law_sums_v1 : MFM := mFnM 5 3 b__law_sums_v1
/-- _law_spoilt -/
def e__law_spoilt_v1_1 : ME := (mOp2 oRep (mLst .sh (mCons (mC .non) mNil)) (mVar 8))
def s__law_spoilt_v1_1 : MS := (mSet 2 (mOp2 oMod (mCall 2 m__law_mix_v1 (mCons (mVar 0) (mCons (mC (.int 3)) mNil))) (mC (.int 12))))
def s__law_spoilt_v1_2 : MS := (mSet 3 (mOp2 oMod (mCall 2 m__law_mix_v1 (mCons (mVar 0) (mCons (mC (.int 4)) mNil))) (mOpN oLen (mCons (mOp2 oIx (mVar 1) (mC (.int 1))) mNil))))
def s__law_spoilt_v1_3 : MS := (mSet 4 (mOp2 oMod (mCall 2 m__law_mix_v1 (mCons (mVar 0) (mCons (mC (.int 5)) mNil))) (mOpN oLen (mCons (mOp2 oIx (mVar 1) (mC (.int 2))) mNil))))
def s__law_spoilt_v1_4 : MS := (mSet 5 (mCall 2 m__law_mix_v1 (mCons (mVar 0) (mCons (mC (.int 7)) mNil))))
def s__law_spoilt_v1_5 : MS := (mIf (mTst (mOp2 oLt (mVar 2) (mC (.int 2)))) (mRet (mMov 1)) mNext)
def s__law_spoilt_v1_6 : MS := (mIf (mTst (mOp2 oLt (mVar 2) (mC (.int 6)))) (mRetM 5 m__law_sums_v1 (mCons (mMov 1) (mCons (mVar 2) (mCons (mVar 3) (mCons (mVar 4) (mCons (mOp2 oAdd (mC (.int 1)) (mOp2 oMod (mVar 5) (mC (.int 10)))) mNil)))))) mNext)
def s__law_spoilt_v1_7 : MS := (mIf (mTst (mOp2 oEq (mVar 2) (mC (.int 6)))) (mStQ 1 (mCall 1 m__law_odd_v2 (mCons (mVar 5) mNil)) (mC (.int 0)) (mVar 3) (mVar 4)) mNext)
def s__law_spoilt_v1_8 : MS := (mIf (mTst (mOp2 oEq (mVar 2) (mC (.int 7)))) (mStP 1 (mCall 1 m__law_odd_v2 (mCons (mOp2 oDiv (mVar 5) (mC (.int 2))) mNil)) (mOp2 oAdd (mC (.int 1)) (mOp2 oMod (mVar 5) (mC (.int 2)))) (mOp2 oIx (mSh (mLst .sh (mCons (mVar 3) (mCons (mVar 4) mNil)))) (mOp2 oMod (mVar 5) (mC (.int 2))))) mNext)
def s__law_spoilt_v1_9 : MS := (mIf (mAnd (mTst (mOp2 oEq (mVar 2) (mC (.int 8)))) (mTst (mOp2 oEq (mOp2 oMod (mVar 5) (mC (.int 2))) (mC (.int 0))))) (mShP 1 0 (mPopP 1 (mOp2 oMod (mOp2 oDiv (mVar 5) (mC (.int 2))) (mC (.int 3))))) (mIf (mTst (mOp2 oEq (mVar 2) (mC (.int 8)))) (mApP 1 (mOp2 oAdd (mC (.int 1)) (mOp2 oMod (mOp2 oDiv (mVar 5) (mC (.int 2))) (mC (.int 2)))) (mC (.int 0))) mNext))
def s__law_spoilt_v1_10 : MS := (mIf (mTst (mOp2 oEq (mVar 2) (mC (.int 9)))) (mRet (mCall 2 m__law_other_v1 (mCons (mFrz 1) (mCons (mVar 5) mNil)))) mNext)
def s__law_spoilt_v1_11 : MS := (mIf (mTst (mOp2 oEq (mVar 2) (mC (.int 10)))) (mSeq (mSet 6 (mSh (mLst .sh (mCons (mOpN oTuple (mCons (mOp2 oIx (mOp2 oIx (mVar 1) (mC (.int 0))) (mVar 3)) mNil)) (mCons (mC .non) (mCons (mC (.str "ab")) (mCons (mC (.int 7)) (mCons (mSh (mSl (mOp2 oIx (mOp2 oIx (mVar 1) (mC (.int 0))) (mVar 3)) mONo (mOSome (mOp1 oNeg (mC (.int 1)))))) (mCons (mSh (mOp2 oCat (mOp2 oIx (mOp2 oIx (mVar 1) (mC (.int 0))) (mVar 3)) (mLst .sh (mCons (mC .non) mNil)))) (mCons (mSh (mLst .sh mNil)) (mCons (mC (.dK [] [])) mNil)))))))))))
    (mShP 1 0 (mStP 1 (mOp2 oIx (mVar 6) (mOp2 oMod (mVar 5) (mC (.int 8)))) (mC (.int 0)) (mVar 3)))) mNext)
def s__law_spoilt_v1_12 : MS := (mIf (mTst (mOp2 oEq (mVar 2) (mC (.int 11)))) (mSeq (mAsg (mgT 2 (mgCons (mgN 7) (mgCons (mgN 8) mgNil))) (mOp2 oIx (mSh (mLst .sh (mCons (mTup (mCons (mOp2 oAdd (mC (.int 8)) (mOp2 oMod (mOp2 oDiv (mVar 5) (mC (.int 2))) (mC (.int 2)))) (mCons (mOpN oLen (mCons (mOp2 oIx (mVar 1) (mC (.int 2))) mNil)) mNil))) (mCons (mTup (mCons (mOpN oLen (mCons (mOp2 oIx (mVar 1) (mC (.int 1))) mNil)) (mCons (mOp2 oAdd (mC (.int 8)) (mOp2 oMod (mOp2 oDiv (mVar 5) (mC (.int 2))) (mC (.int 2)))) mNil))) mNil)))) (mOp2 oMod (mVar 5) (mC (.int 2)))))
    (mRet (mTup (mCons (mComp (.ow .sh) [9] (mItR (mCons (mVar 7) mNil)) (mgN 9) mYes e__law_spoilt_v1_1) (mCons (mOp2 oRep (mLst .sh (mCons (mC (.int 0)) mNil)) (mVar 7)) (mCons (mOp2 oRep (mLst .sh (mCons (mC (.int 0)) mNil)) (mVar 8)) mNil)))))) mNext)
def s__law_spoilt_v1_13 : MS := (mRet (mMov 1))
def b__law_spoilt_v1 : MS := (mSeq s__law_spoilt_v1_1
    (mSeq s__law_spoilt_v1_2
    (mSeq s__law_spoilt_v1_3
    (mSeq s__law_spoilt_v1_4
    (mSeq s__law_spoilt_v1_5
    (mSeq s__law_spoilt_v1_6
    (mSeq s__law_spoilt_v1_7
    (mSeq s__law_spoilt_v1_8
    (mSeq s__law_spoilt_v1_9
    (mSeq s__law_spoilt_v1_10
    (mSeq s__law_spoilt_v1_11
    (mSeq s__law_spoilt_v1_12
    s__law_spoilt_v1_13))))))))))))
def m__law_spoilt_v1 : MFM := mFnM 2 8 b__law_spoilt_v1
/-- _law_number -/
def b__law_number : MS := (mRet (mAndV (mOpN oIsi (mCons (mVar 0) (mCons (mC (.ty "int")) mNil))) (mAndV (mNotV (mOpN oIsi (mCons (mVar 0) (mCons (mC (.ty "bool")) mNil)))) (mOp2 oGe (mVar 0) (mC (.int 0))))))
def m__law_number : MF := mFn 1 0 b__law_number
/-- _law_cells -/
def e__law_cells_1 : ME := (mOrV (mOp2 oIsN (mVar 2) (mC .non)) (mCall 1 m__law_number (mCons (mVar 2) mNil)))
def l__law_cells_1 : MS := (mSeq (mIf (mOr (mNot (mTst (mOpN oIsi (mCons (mVar 1) (mCons (mC (.ty "list")) mNil))))) (mOr (mNot (mChain (fun i j => decide (i ≤ j)) (fun i j => decide (i ≤ j)) (mC (.int 1)) (mOpN oLen (mCons (mVar 1) mNil)) (mC (.int 8)))) (mTst (mOp2 oNe (mOpN oLen (mCons (mVar 1) mNil)) (mOpN oLen (mCons (mOp2 oIx (mVar 0) (mC (.int 0))) mNil)))))) (mRet (mC (.bl false))) mNext)
    (mIf (mNot (mTst (mOpN oAll (mCons (mComp .sh [2] (mItL (mVar 1)) (mgN 2) mYes e__law_cells_1) mNil)))) (mRet (mC (.bl false))) mNext))
def b__law_cells : MS := (mSeq (mIf (mOr (mNot (mTst (mOpN oIsi (mCons (mVar 0) (mCons (mC (.ty "list")) mNil))))) (mNot (mChain (fun i j => decide (i ≤ j)) (fun i j => decide (i ≤ j)) (mC (.int 1)) (mOpN oLen (mCons (mVar 0) mNil)) (mC (.int 8))))) (mRet (mC (.bl false))) mNext)
    (mSeq (mFor (mItL (mVar 0)) (mgN 1) l__law_cells_1)
    (mRet (mC (.bl true)))))
def m__law_cells : MF := mFn 1 2 b__law_cells
/-- _law_is_view -/
def e__law_is_view_1 : ME := (mCall 1 m__law_number (mCons (mVar 5) mNil))
def l__law_is_view_1 : MS := (mIf (mOr (mNot (mTst (mOpN oIsi (mCons (mVar 1) (mCons (mC (.ty "list")) mNil))))) (mOr (mTst (mOp2 oNe (mOpN oLen (mCons (mVar 1) mNil)) (mVar 2))) (mNot (mTst (mOpN oAll (mCons (mComp .sh [5] (mItL (mVar 1)) (mgN 5) mYes e__law_is_view_1) mNil)))))) (mRet (mC (.bl false))) mNext)
def b__law_is_view : MS := (mSeq (mIf (mOr (mNot (mTst (mOpN oIsi (mCons (mVar 0) (mCons (mC (.ty "tuple")) mNil))))) (mOr (mTst (mOp2 oNe (mOpN oLen (mCons (mVar 0) mNil)) (mC (.int 3)))) (mNot (mTst (mCall 1 m__law_cells (mCons (mOp2 oIx (mVar 0) (mC (.int 0))) mNil)))))) (mRet (mC (.bl false))) mNext)
    (mSeq (mFor (mItL (mLst .sh (mCons (mTup (mCons (mOp2 oIx (mVar 0) (mC (.int 1))) (mCons (mOpN oLen (mCons (mOp2 oIx (mVar 0) (mC (.int 0))) mNil)) mNil))) (mCons (mTup (mCons (mOp2 oIx (mVar 0) (mC (.int 2))) (mCons (mOpN oLen (mCons (mOp2 oIx (mOp2 oIx (mVar 0) (mC (.int 0))) (mC (.int 0))) mNil)) mNil))) mNil)))) (mgT 2 (mgCons (mgN 1) (mgCons (mgN 2) mgNil))) l__law_is_view_1)
    (mSeq (mAsg (mgT 2 (mgCons (mgN 3) (mgCons (mgN 4) mgNil))) (mCall 1 m__law_rests_v1 (mCons (mVar 0) mNil)))
    (mRet (mAndV (mOp2 oGe (mOpN oMin (mCons (mOp2 oCat (mVar 3) (mVar 4)) mNil)) (mC (.int 0))) (mOp2 oEq (mOpN oSum (mCons (mVar 3) mNil)) (mOpN oSum (mCons (mVar 4) mNil))))))))
def m__law_is_view : MF := mFn 1 5 b__law_is_view
/-- _law_alone -/
def b__law_alone_v1 (a : Addr) (c : Nat) : MS := (mSeq (mSet 1 (mIsE a (([some 4, some 3, some 1, some 5, some 6] : List (Option Nat)).any (subO c)) (mVar 0)))
    (mRet (mAndV (mIsE a (subO c (some 2)) (mVar 0)) (mAndV (mIsE a (subO c (none)) (mVar 0)) (mNotV (mVar 1))))))
def m__law_alone_v1 (a : Addr) (c : Nat) : MF := mFn 1 1 (b__law_alone_v1 a c)
/-- _law_refused -/
def b__law_refused_v3 : MS := (mSeq (mTry (mIf (mTst (mOp2 oEq (mVar 0) (mC (.int 0)))) (mDrop (mCall 1 m_hidden_places (mCons (mVar 1) mNil))) (mIf (mTst (mOp2 oEq (mVar 0) (mC (.int 1)))) (mDrop (mCall 1 m_filled_k05 (mCons (mVar 1) mNil))) (mIf (mTst (mOp2 oEq (mVar 0) (mC (.int 2)))) (mDrop (mCall 2 m_ends_k05 (mCons (mVar 1) (mCons (mTup (mCons (mC (.int 0)) (mCons (mC (.int 0)) mNil))) mNil)))) (mIf (mTst (mOp2 oEq (mVar 0) (mC (.int 3)))) (mDrop (mCall 2 m_walls_k05 (mCons (mVar 1) (mCons (mTup (mCons (mC (.int 0)) (mCons (mC (.int 0)) mNil))) mNil)))) (mIf (mTst (mOp2 oEq (mVar 0) (mC (.int 4)))) (mDrop (mCall 1 m_rests (mCons (mVar 1) mNil))) (mDrop (mCall 2 m_given_away_k05 (mCons (mVar 1) (mCons (mC (.int 0)) mNil))))))))) [⟨0, some 2, okP, (fun a c => mCalm (mRet (mCall 1 (mCalmF (m__law_alone_v1 a c)) (mCons (mVar 2) mNil))))⟩])
    (mRet (mC (.bl false))))
def m__law_refused_v3 : MF := mFn 2 1 b__law_refused_v3
/-- law -/
def e_law_v4_1 : ME := (mCall 2 m__law_refused_v3 (mCons (mVar 6) (mCons (mVar 3) mNil)))
def s_law_v4_1 : MS := (mSet 1 (mSh (mCall 3 m__law_table (mCons (mVar 0) (mCons (mOp2 oAdd (mC (.int 1)) (mOp2 oMod (mCall 2 m__law_mix_v1 (mCons (mVar 0) (mCons (mC (.int 0)) mNil))) (mC (.int 8)))) (mCons (mOp2 oAdd (mC (.int 1)) (mOp2 oMod (mCall 2 m__law_mix_v1 (mCons (mVar 0) (mCons (mC (.int 1)) mNil))) (mC (.int 8)))) mNil))))))
def s_law_v4_2 : MS := (mSet 2 (mSh (mCall 2 m__law_places (mCons (mVar 0) (mCons (mVar 1) mNil)))))
def s_law_v4_3 : MS := (mSet 3 (mSh (mCallM m__law_spoilt_v1 2 m__law_view_v1 (mVar 0) (mCons (mVar 1) (mCons (mVar 2) mNil)))))
def s_law_v4_4 : MS := (mSet 4 (mCall 1 m__law_is_view (mCons (mVar 3) mNil)))
def s_law_v4_5 : MS := (mSet 5 (mCall 1 m_is_view (mCons (mVar 3) mNil)))
def s_law_v4_6 : MS := (mIf (mOr (mNot (mTst (mOpN oIsi (mCons (mVar 5) (mCons (mC (.ty "bool")) mNil))))) (mOr (mTst (mOp2 oNeT (mVar 5) (mVar 4))) (mTst (mOp2 oNeT (mVar 3) (mCallM m__law_spoilt_v1 2 m__law_view_v1 (mVar 0) (mCons (mVar 1) (mCons (mVar 2) mNil))))))) (mRet (mC (.bl false))) mNext)
def s_law_v4_7 : MS := (mRet (mOrV (mVar 4) (mOpN oAll (mCons (mComp .sh [6] (mItR (mCons (mC (.int 6)) mNil)) (mgN 6) mYes e_law_v4_1) mNil))))
def b_law_v4 : MS := (mSeq s_law_v4_1
    (mSeq s_law_v4_2
    (mSeq s_law_v4_3
    (mSeq s_law_v4_4
    (mSeq s_law_v4_5
    (mSeq s_law_v4_6
    s_law_v4_7))))))
def m_law_v4 : MF := mFn 1 6 b_law_v4
/-- has_view -/
def l_has_view_1 : MS := (mIf (mAnd (mTst (mOp2 oNotN (mOp2 oIx (mOp2 oIx (mOp2 oIx (mVar 1) (mC (.int 0))) (mVar 2)) (mVar 3)) (mC .non))) (mTst (mOp2 oNe (mOp2 oIx (mOp2 oIx (mOp2 oIx (mVar 1) (mC (.int 0))) (mVar 2)) (mVar 3)) (mOp2 oIx (mOp2 oIx (mVar 0) (mVar 2)) (mVar 3))))) (mRet (mC (.bl false))) mNext)
def b_has_view : MS := (mSeq (mDrop (mCall 1 m_need_table (mCons (mVar 0) mNil)))
    (mSeq (mDrop (mCall 1 m_need_view (mCons (mVar 1) mNil)))
    (mSeq (mIf (mOr (mTst (mOp2 oNe (mOpN oLen (mCons (mVar 0) mNil)) (mOpN oLen (mCons (mOp2 oIx (mVar 1) (mC (.int 0))) mNil)))) (mTst (mOp2 oNe (mOpN oLen (mCons (mOp2 oIx (mVar 0) (mC (.int 0))) mNil)) (mOpN oLen (mCons (mOp2 oIx (mOp2 oIx (mVar 1) (mC (.int 0))) (mC (.int 0))) mNil))))) (mRet (mC (.bl false))) mNext)
    (mSeq (mFor (mItL (mCall 1 m_all_places (mCons (mVar 0) mNil))) (mgT 2 (mgCons (mgN 2) (mgCons (mgN 3) mgNil))) l_has_view_1)
    (mRet (mAndV (mOp2 oEq (mCall 1 m_row_sums (mCons (mVar 0) mNil)) (mOp2 oIx (mVar 1) (mC (.int 1)))) (mOp2 oEq (mCall 1 m_column_sums (mCons (mVar 0) mNil)) (mOp2 oIx (mVar 1) (mC (.int 2))))))))))
def m_has_view : MF := mFn 2 2 b_has_view
/-- _law_has -/
def l__law_has_1 : MS := (mIf (mOr (mNot (mTst (mCall 1 m__law_whole (mCons (mVar 4) mNil)))) (mOr (mTst (mOp2 oLt (mVar 4) (mC (.int 0)))) (mAnd (mTst (mOp2 oNotN (mVar 5) (mC .non))) (mTst (mOp2 oNe (mVar 5) (mVar 4)))))) (mRet (mC (.bl false))) mNext)
def l__law_has_2 : MS := (mSeq (mIf (mOr (mNot (mTst (mOpN oIsi (mCons (mVar 2) (mCons (mC (.ty "list")) mNil))))) (mTst (mOp2 oNe (mOpN oLen (mCons (mVar 2) mNil)) (mOpN oLen (mCons (mVar 3) mNil))))) (mRet (mC (.bl false))) mNext)
    (mFor (mItZ (mCons (mVar 2) (mCons (mVar 3) mNil))) (mgT 2 (mgCons (mgN 4) (mgCons (mgN 5) mgNil))) l__law_has_1))
def e__law_has_1 : ME := (mOpN oSum (mCons (mVar 2) mNil))
def b__law_has : MS := (mSeq (mIf (mOr (mNot (mTst (mOpN oIsi (mCons (mVar 0) (mCons (mC (.ty "list")) mNil))))) (mTst (mOp2 oNe (mOpN oLen (mCons (mVar 0) mNil)) (mOpN oLen (mCons (mOp2 oIx (mVar 1) (mC (.int 0))) mNil))))) (mRet (mC (.bl false))) mNext)
    (mSeq (mFor (mItZ (mCons (mVar 0) (mCons (mOp2 oIx (mVar 1) (mC (.int 0))) mNil))) (mgT 2 (mgCons (mgN 2) (mgCons (mgN 3) mgNil))) l__law_has_2)
    (mRet (mAndV (mOp2 oEq (mComp .sh [2] (mItL (mVar 0)) (mgN 2) mYes e__law_has_1) (mOp2 oIx (mVar 1) (mC (.int 1)))) (mOp2 oEq (mCall 1 m__law_column_sums (mCons (mVar 0) mNil)) (mOp2 oIx (mVar 1) (mC (.int 2))))))))
def m__law_has : MF := mFn 2 4 b__law_has
/-- _law_rectangle -/
def b__law_rectangle : MS := (mSeq (mSet 3 (mOp2 oMod (mCall 2 m__law_mix (mCons (mVar 0) (mCons (mVar 2) mNil))) (mOpN oLen (mCons (mVar 1) mNil))))
    (mSeq (mSet 4 (mOp2 oMod (mCall 2 m__law_mix (mCons (mVar 0) (mCons (mOp2 oAdd (mVar 2) (mC (.int 1))) mNil))) (mOpN oLen (mCons (mVar 1) mNil))))
    (mSeq (mSet 5 (mOp2 oMod (mCall 2 m__law_mix (mCons (mVar 0) (mCons (mOp2 oAdd (mVar 2) (mC (.int 2))) mNil))) (mOpN oLen (mCons (mOp2 oIx (mVar 1) (mC (.int 0))) mNil))))
    (mSeq (mSet 6 (mOp2 oMod (mCall 2 m__law_mix (mCons (mVar 0) (mCons (mOp2 oAdd (mVar 2) (mC (.int 3))) mNil))) (mOpN oLen (mCons (mOp2 oIx (mVar 1) (mC (.int 0))) mNil))))
    (mSeq (mSet 7 (mOpN oMin3 (mCons (mOp2 oIx (mOp2 oIx (mVar 1) (mVar 3)) (mVar 5)) (mCons (mOp2 oIx (mOp2 oIx (mVar 1) (mVar 4)) (mVar 6)) (mCons (mOp2 oAdd (mC (.int 1)) (mOp2 oMod (mCall 2 m__law_mix (mCons (mVar 0) (mCons (mOp2 oAdd (mVar 2) (mC (.int 4))) mNil))) (mC (.int 3)))) mNil)))))
    (mSeq (mAh 1 (mSetG 1 (mOp2 oSub (mOp2 oIx (mOp2 oIx (mVar 1) (mVar 3)) (mVar 5)) (mVar 7)) (mVar 3) (mVar 5)))
    (mSeq (mAh 1 (mSetG 1 (mOp2 oSub (mOp2 oIx (mOp2 oIx (mVar 1) (mVar 4)) (mVar 6)) (mVar 7)) (mVar 4) (mVar 6)))
    (mSeq (mAh 1 (mSetG 1 (mOp2 oAdd (mOp2 oIx (mOp2 oIx (mVar 1) (mVar 3)) (mVar 6)) (mVar 7)) (mVar 3) (mVar 6)))
    (mAh 1 (mSetG 1 (mOp2 oAdd (mOp2 oIx (mOp2 oIx (mVar 1) (mVar 4)) (mVar 5)) (mVar 7)) (mVar 4) (mVar 5)))))))))))
def m__law_rectangle : MFA := mFnA 3 5 1 (.ow (.ow .sh)) (fun _ => b__law_rectangle)
/-- _law_other -/
def e__law_other_v2_1 : ME := (mOpN oList (mCons (mVar 5) mNil))
def l__law_other_v2_1 : MS := (mIO 3 3 1 (.ow .sh) m__law_rectangle (mCons (mVar 0) (mCons (mMov 3) (mCons (mOp2 oAdd (mC (.int 10)) (mOp2 oMul (mC (.int 5)) (mVar 4))) mNil))))
def e__law_other_v2_2 : ME := (mOp2 oIx (mVar 5) (mVar 6))
def e__law_other_v2_3 : ME := (mComp .sh [5] (mItL (mVar 1)) (mgN 5) mYes e__law_other_v2_2)
def s__law_other_v2_1 : MS := (mSet 2 (mOp2 oMod (mCall 2 m__law_mix (mCons (mVar 0) (mCons (mC (.int 3)) mNil))) (mC (.int 8))))
def s__law_other_v2_2 : MS := (mSet 3 (mComp (.ow .sh) [5] (mItL (mVar 1)) (mgN 5) mYes e__law_other_v2_1))
def s__law_other_v2_3 : MS := (mIf (mTst (mOp2 oLt (mVar 2) (mC (.int 5)))) (mFor (mItR (mCons (mOp2 oIx (mSh (mLst .sh (mCons (mC (.int 0)) (mCons (mC (.int 1)) (mCons (mC (.int 1)) (mCons (mC (.int 2)) (mCons (mC (.int 2)) mNil))))))) (mVar 2)) mNil)) (mgN 4) l__law_other_v2_1) mNext)
def s__law_other_v2_4 : MS := (mSet 5 (mOp2 oMod (mCall 2 m__law_mix (mCons (mVar 0) (mCons (mC (.int 4)) mNil))) (mOpN oLen (mCons (mVar 3) mNil))))
def s__law_other_v2_5 : MS := (mSet 6 (mOp2 oMod (mCall 2 m__law_mix (mCons (mVar 0) (mCons (mC (.int 5)) mNil))) (mOpN oLen (mCons (mOp2 oIx (mVar 3) (mC (.int 0))) mNil))))
def s__law_other_v2_6 : MS := (mIf (mAnd (mTst (mOp2 oEq (mVar 2) (mC (.int 5)))) (mTst (mOp2 oEq (mOp2 oMod (mCall 2 m__law_mix (mCons (mVar 0) (mCons (mC (.int 7)) mNil))) (mC (.int 2))) (mC (.int 0))))) (mSetG 3 (mOp2 oMod (mOp2 oDiv (mCall 2 m__law_mix (mCons (mVar 0) (mCons (mC (.int 7)) mNil))) (mC (.int 2))) (mC (.int 5))) (mVar 5) (mVar 6)) (mIf (mAnd (mTst (mOp2 oEq (mVar 2) (mC (.int 5)))) (mTst (mOp2 oGt (mOp2 oIx (mOp2 oIx (mVar 3) (mVar 5)) (mVar 6)) (mC (.int 0))))) (mSeq (mSet 7 (mOp2 oIx (mSh (mLst .sh (mCons (mTup (mCons (mVar 5) (mCons (mOp2 oSub (mVar 6) (mC (.int 1))) mNil))) (mCons (mTup (mCons (mOp2 oSub (mVar 5) (mC (.int 1))) (mCons (mVar 6) mNil))) mNil)))) (mOp2 oMod (mOp2 oDiv (mCall 2 m__law_mix (mCons (mVar 0) (mCons (mC (.int 7)) mNil))) (mC (.int 2))) (mC (.int 2)))))
    (mSeq (mSetG 3 (mOp2 oSub (mOp2 oIx (mOp2 oIx (mVar 3) (mVar 5)) (mVar 6)) (mC (.int 1))) (mVar 5) (mVar 6))
    (mSetG 3 (mOp2 oAdd (mOp2 oIx (mOp2 oIx (mVar 3) (mOp2 oIx (mVar 7) (mC (.int 0)))) (mOp2 oIx (mVar 7) (mC (.int 1)))) (mC (.int 1))) (mOp2 oIx (mVar 7) (mC (.int 0))) (mOp2 oIx (mVar 7) (mC (.int 1)))))) mNext))
def s__law_other_v2_7 : MS := (mIf (mAnd (mTst (mOp2 oEq (mVar 2) (mC (.int 6)))) (mTst (mOp2 oLt (mOpN oLen (mCons (mVar 3) mNil)) (mC (.int 8))))) (mApp 3 (mOp2 oRep (mLst .sh (mCons (mC (.int 0)) mNil)) (mOpN oLen (mCons (mOp2 oIx (mVar 3) (mC (.int 0))) mNil)))) mNext)
def s__law_other_v2_8 : MS := (mIf (mTst (mOp2 oEq (mVar 2) (mC (.int 7)))) (mSet 3 (mComp (.ow .sh) [6] (mItR (mCons (mOpN oLen (mCons (mOp2 oIx (mVar 1) (mC (.int 0))) mNil)) mNil)) (mgN 6) mYes e__law_other_v2_3)) mNext)
def s__law_other_v2_9 : MS := (mRet (mMov 3))
def b__law_other_v2 : MS := (mSeq s__law_other_v2_1
    (mSeq s__law_other_v2_2
    (mSeq s__law_other_v2_3
    (mSeq s__law_other_v2_4
    (mSeq s__law_other_v2_5
    (mSeq s__law_other_v2_6
    (mSeq s__law_other_v2_7
    (mSeq s__law_other_v2_8
    s__law_other_v2_9))))))))
def m__law_other_v2 : MF := mFn 2 6 b__law_other_v2
/-- _law_refused -/
def b__law_refused_v4 : MS := (mSeq (mTry (mDrop (mCall 2 m_has_view (mCons (mVar 0) (mCons (mVar 1) mNil)))) [⟨1, some 2, okP, (fun a c => mCalm (mRet (mOp2 oIx (mSh (mLst .sh (mCons (mC (.str "table")) (mCons (mC (.str "both")) mNil)))) (mOpN oInt (mCons (mIsE a (subO c (some 2)) (mVar 2)) mNil)))))⟩, ⟨0, some 2, okP, (fun a c => mCalm (mRet (mOp2 oIx (mSh (mLst .sh (mCons (mC (.str "other")) (mCons (mC (.str "view")) mNil)))) (mOpN oInt (mCons (mIsE a (subO c (some 2)) (mVar 2)) mNil)))))⟩])
    (mRet (mC (.str "none"))))
def m__law_refused_v4 : MF := mFn 2 1 b__law_refused_v4
/-- law -/
def e_law_v5_1 : ME := (mOpN oList (mCons (mVar 10) mNil))
def l_law_v5_1 : MS := (mSeq (mSet 8 (mCall 2 m_has_view (mCons (mVar 5) (mCons (mVar 3) mNil))))
    (mIf (mOr (mNot (mTst (mOpN oIsi (mCons (mVar 8) (mCons (mC (.ty "bool")) mNil))))) (mOr (mTst (mOp2 oNe (mVar 8) (mVar 6))) (mOr (mTst (mOp2 oNe (mVar 5) (mVar 4))) (mTst (mOp2 oNe (mVar 3) (mCall 2 m__law_view (mCons (mVar 1) (mCons (mVar 2) mNil)))))))) (mRet (mC (.bl false))) mNext))
def s_law_v5_1 : MS := (mSet 1 (mSh (mCall 3 m__law_table (mCons (mVar 0) (mCons (mOp2 oAdd (mC (.int 1)) (mOp2 oMod (mCall 2 m__law_mix (mCons (mVar 0) (mCons (mC (.int 0)) mNil))) (mC (.int 8)))) (mCons (mOp2 oAdd (mC (.int 1)) (mOp2 oMod (mCall 2 m__law_mix (mCons (mVar 0) (mCons (mC (.int 1)) mNil))) (mC (.int 8)))) mNil))))))
def s_law_v5_2 : MS := (mSet 2 (mSh (mCall 2 m__law_places (mCons (mVar 0) (mCons (mVar 1) mNil)))))
def s_law_v5_3 : MS := (mSet 3 (mSh (mCall 2 m__law_view (mCons (mVar 1) (mCons (mVar 2) mNil)))))
def s_law_v5_4 : MS := (mSet 4 (mSh (mCall 2 m__law_other_v2 (mCons (mVar 0) (mCons (mVar 1) mNil)))))
def s_law_v5_5 : MS := (mSet 5 (mComp (.ow .sh) [10] (mItL (mVar 4)) (mgN 10) mYes e_law_v5_1))
def s_law_v5_6 : MS := (mSet 6 (mCall 2 m__law_has (mCons (mVar 4) (mCons (mCall 2 m__law_view (mCons (mVar 1) (mCons (mVar 2) mNil))) mNil))))
def s_law_v5_7 : MS := (mFor (mItR (mCons (mC (.int 2)) mNil)) (mgN 7) l_law_v5_1)
def s_law_v5_8 : MS := (mSet 9 (mOp2 oIx (mSh (mLst .sh (mCons (mC .non) (mCons (mTup mNil) (mCons (mSh (mLst .sh mNil)) (mCons (mSlT (mVar 3) mONo (mOSome (mC (.int 2)))) mNil)))))) (mOp2 oMod (mCall 2 m__law_mix (mCons (mVar 0) (mCons (mC (.int 9)) mNil))) (mC (.int 4)))))
def s_law_v5_9 : MS := (mRet (mAndV (mOp2 oEq (mCall 2 m__law_refused_v4 (mCons (mVar 5) (mCons (mVar 9) mNil))) (mC (.str "view"))) (mOp2 oEq (mCall 2 m__law_refused_v4 (mCons (mLst .sh (mCons (mFrz 5) (mCons (mSh (mLst .sh mNil)) mNil))) (mCons (mVar 9) mNil))) (mC (.str "table")))))
def b_law_v5 : MS := (mSeq s_law_v5_1
    (mSeq s_law_v5_2
    (mSeq s_law_v5_3
    (mSeq s_law_v5_4
    (mSeq s_law_v5_5
    (mSeq s_law_v5_6
    (mSeq s_law_v5_7
    (mSeq s_law_v5_8
    s_law_v5_9))))))))
def m_law_v5 : MF := mFn 1 10 b_law_v5
/-- _law_drawn -/
def b__law_drawn : MS := (mSeq (mSet 1 (mOp2 oAdd (mC (.int 4)) (mOp2 oMod (mCall 2 m__law_mix (mCons (mVar 0) (mCons (mC (.int 5)) mNil))) (mC (.int 5)))))
    (mRet (mCall 3 m__law_table (mCons (mVar 0) (mCons (mOp2 oAdd (mC (.int 1)) (mOp2 oMod (mCall 2 m__law_mix (mCons (mVar 0) (mCons (mC (.int 0)) mNil))) (mVar 1))) (mCons (mOp2 oAdd (mC (.int 1)) (mOp2 oMod (mCall 2 m__law_mix (mCons (mVar 0) (mCons (mC (.int 1)) mNil))) (mVar 1))) mNil))))))
def m__law_drawn : MF := mFn 1 1 b__law_drawn
/-- _law_numbers -/
def e__law_numbers_1 : ME := (mCall 1 (mCalmF m__law_whole) (mCons (mVar 2) mNil))
def t__law_numbers_1 : MT := (mTst (mOp2 oIn (mVar 3) (mVar 0)))
def e__law_numbers_2 : ME := (mVar 3)
def b__law_numbers : MS := (mSeq (mIf (mOr (mNot (mTst (mOpN oIsi (mCons (mVar 0) (mCons (mC (.ty "list")) mNil))))) (mNot (mTst (mOpN oAll (mCons (mComp .sh [2] (mItL (mVar 0)) (mgN 2) mYes e__law_numbers_1) mNil))))) (mRet (mC (.bl false))) mNext)
    (mRet (mOp2 oEq (mVar 0) (mComp .sh [3] (mItR (mCons (mVar 1) mNil)) (mgN 3) t__law_numbers_1 e__law_numbers_2))))
def m__law_numbers : MF := mFn 2 2 b__law_numbers
/-- _law_hidden -/
def t__law_hidden_1 : MT := (mTst (mOp2 oIsN (mOp2 oIx (mOp2 oIx (mOp2 oIx (mVar 0) (mC (.int 0))) (mOp2 oIx (mVar 1) (mC (.int 0)))) (mOp2 oIx (mVar 1) (mC (.int 1)))) (mC .non)))
def e__law_hidden_1 : ME := (mVar 1)
def b__law_hidden : MS := (mRet (mComp .sh [1] (mItL (mCall 1 (mCalmF m__law_all) (mCons (mOp2 oIx (mVar 0) (mC (.int 0))) mNil))) (mgN 1) t__law_hidden_1 e__law_hidden_1))
def m__law_hidden : MF := mFn 1 1 b__law_hidden
/-- _law_gap -/
def e__law_gap_1 : ME := (mOp2 oIx (mVar 3) (mVar 5))
def e__law_gap_2 : ME := (mOp2 oIx (mVar 4) (mVar 6))
def b__law_gap : MS := (mSeq (mAsg (mgT 2 (mgCons (mgN 3) (mgCons (mgN 4) mgNil))) (mCall 1 (mCalmF m__law_rests) (mCons (mVar 0) mNil)))
    (mRet (mOp2 oSub (mOpN oSum (mCons (mComp .sh [5] (mItL (mVar 1)) (mgN 5) mYes e__law_gap_1) mNil)) (mOpN oSum (mCons (mComp .sh [6] (mItL (mVar 2)) (mgN 6) mYes e__law_gap_2) mNil)))))
def m__law_gap : MF := mFn 3 4 b__law_gap
/-- _law_shared -/
def l__law_shared_1 : MS := (mSeq (mSet 7 (mVar 5))
    (mSeq (mIf (mTst (mOp2 oLt (mVar 6) (mOp2 oSub (mVar 2) (mC (.int 1))))) (mSeq (mSet 7 (mOp2 oMod (mCall 2 m__law_mix (mCons (mVar 0) (mCons (mOp2 oAdd (mVar 1) (mVar 6)) mNil))) (mOp2 oAdd (mVar 5) (mC (.int 1)))))
    (mIf (mTst (mOp2 oEq (mOp2 oMod (mOp2 oDiv (mCall 2 m__law_mix (mCons (mVar 0) (mCons (mOp2 oAdd (mVar 1) (mVar 6)) mNil))) (mC (.int 8192))) (mC (.int 3))) (mC (.int 0)))) (mSet 7 (mOp2 oIx (mSh (mLst .sh (mCons (mC (.int 0)) (mCons (mVar 5) mNil)))) (mOp2 oMod (mOp2 oDiv (mCall 2 m__law_mix (mCons (mVar 0) (mCons (mOp2 oAdd (mVar 1) (mVar 6)) mNil))) (mC (.int 24576))) (mC (.int 2))))) mNext)) mNext)
    (mSeq (mApp 4 (mVar 7))
    (mSet 5 (mOp2 oSub (mVar 5) (mVar 7))))))
def b__law_shared : MS := (mSeq (mSet 4 (mLst .sh mNil))
    (mSeq (mSet 5 (mVar 3))
    (mSeq (mFor (mItR (mCons (mVar 2) mNil)) (mgN 6) l__law_shared_1)
    (mSeq (mSet 8 (mOp2 oMod (mCall 2 m__law_mix (mCons (mVar 0) (mCons (mOp2 oAdd (mVar 1) (mVar 2)) mNil))) (mVar 2)))
    (mRet (mOp2 oCat (mSl (mVar 4) (mOSome (mVar 8)) mONo) (mSl (mVar 4) mONo (mOSome (mVar 8)))))))))
def m__law_shared : MF := mFn 4 5 b__law_shared
/-- _law_any_view -/
def e__law_any_view_1 : ME := (mOp2 oAdd (mOp2 oSub (mOp2 oIx (mOp2 oIx (mVar 3) (mC (.int 1))) (mVar 9)) (mOp2 oIx (mVar 4) (mVar 9))) (mOp2 oIx (mVar 7) (mVar 9)))
def e__law_any_view_2 : ME := (mOp2 oAdd (mOp2 oSub (mOp2 oIx (mOp2 oIx (mVar 3) (mC (.int 2))) (mVar 10)) (mOp2 oIx (mVar 5) (mVar 10))) (mOp2 oIx (mVar 8) (mVar 10)))
def b__law_any_view : MS := (mSeq (mSet 1 (mSh (mCall 1 m__law_drawn (mCons (mVar 0) mNil))))
    (mSeq (mSet 2 (mSh (mCall 2 m__law_places (mCons (mVar 0) (mCons (mVar 1) mNil)))))
    (mSeq (mSet 3 (mSh (mCall 2 m__law_view (mCons (mVar 1) (mCons (mVar 2) mNil)))))
    (mSeq (mIf (mTst (mOp2 oEq (mOp2 oMod (mCall 2 m__law_mix (mCons (mVar 0) (mCons (mC (.int 7)) mNil))) (mC (.int 2))) (mC (.int 0)))) (mRet (mVar 3)) mNext)
    (mSeq (mAsg (mgT 2 (mgCons (mgN 4) (mgCons (mgN 5) mgNil))) (mCall 1 m__law_rests (mCons (mVar 3) mNil)))
    (mSeq (mSet 6 (mOp2 oIx (mSh (mLst .sh (mCons (mOpN oSum (mCons (mVar 4) mNil)) (mCons (mOp2 oAdd (mC (.int 1)) (mOp2 oMod (mCall 2 m__law_mix (mCons (mVar 0) (mCons (mC (.int 9)) mNil))) (mC (.int 9)))) (mCons (mOp2 oAdd (mC (.int 1)) (mOp2 oMod (mCall 2 m__law_mix (mCons (mVar 0) (mCons (mC (.int 9)) mNil))) (mOp2 oPow (mC (.int 10)) (mC (.int 9))))) mNil))))) (mOp2 oMod (mOp2 oDiv (mCall 2 m__law_mix (mCons (mVar 0) (mCons (mC (.int 7)) mNil))) (mC (.int 2))) (mC (.int 3)))))
    (mSeq (mSet 7 (mSh (mCall 4 m__law_shared (mCons (mVar 0) (mCons (mC (.int 20)) (mCons (mOpN oLen (mCons (mVar 4) mNil)) (mCons (mVar 6) mNil)))))))
    (mSeq (mSet 8 (mSh (mCall 4 m__law_shared (mCons (mVar 0) (mCons (mC (.int 40)) (mCons (mOpN oLen (mCons (mVar 5) mNil)) (mCons (mVar 6) mNil)))))))
    (mSeq (mSet 3 (mSh (mTup (mCons (mOp2 oIx (mVar 3) (mC (.int 0))) (mCons (mComp .sh [9] (mItR (mCons (mOpN oLen (mCons (mVar 7) mNil)) mNil)) (mgN 9) mYes e__law_any_view_1) (mCons (mOp2 oIx (mVar 3) (mC (.int 2))) mNil))))))
    (mRet (mTup (mCons (mOp2 oIx (mVar 3) (mC (.int 0))) (mCons (mOp2 oIx (mVar 3) (mC (.int 1))) (mCons (mComp .sh [10] (mItR (mCons (mOpN oLen (mCons (mVar 8) mNil)) mNil)) (mgN 10) mYes e__law_any_view_2) mNil))))))))))))))
def m__law_any_view : MF := mFn 1 10 b__law_any_view
/-- need_hidden -/
def b_need_hidden : MS := (mSeq (mSet 2 (mSh (mCall 1 m_hidden_places (mCons (mVar 0) mNil))))
    (mSeq (mIf (mOr (mNot (mTst (mOpN oIsi (mCons (mVar 1) (mCons (mC (.ty "tuple")) mNil))))) (mOr (mTst (mOp2 oNe (mOpN oLen (mCons (mVar 1) mNil)) (mC (.int 2)))) (mTst (mOp2 oNotIn (mVar 1) (mVar 2))))) (mRaise 3) mNext)
    (mSeq (mIf (mOr (mTst (mOpN oIsi (mCons (mOp2 oIx (mVar 1) (mC (.int 0))) (mCons (mC (.ty "bool")) mNil)))) (mTst (mOpN oIsi (mCons (mOp2 oIx (mVar 1) (mC (.int 1))) (mCons (mC (.ty "bool")) mNil))))) (mRaise 3) mNext)
    (mRet (mVar 2)))))
def m_need_hidden : MF := mFn 2 1 b_need_hidden
/-- _law_most -/
def b__law_most : MS := (mSeq (mSet 1 (mCall 2 m__law_mix (mCons (mVar 0) (mCons (mC (.int 5)) mNil))))
    (mRet (mOp2 oAdd (mOp2 oAdd (mC (.int 4)) (mOpN oInt (mCons (mOp2 oEq (mOp2 oMod (mVar 1) (mC (.int 9))) (mC (.int 0))) mNil))) (mOpN oInt (mCons (mOp2 oEq (mOp2 oMod (mVar 1) (mC (.int 45))) (mC (.int 0))) mNil)))))
def m__law_most : MF := mFn 1 1 b__law_most
/-- _law_drawn -/
def b__law_drawn_v1 : MS := (mSeq (mSet 1 (mCall 1 m__law_most (mCons (mVar 0) mNil)))
    (mRet (mCall 3 m__law_table (mCons (mVar 0) (mCons (mOp2 oAdd (mC (.int 1)) (mOp2 oMod (mCall 2 m__law_mix (mCons (mVar 0) (mCons (mC (.int 0)) mNil))) (mVar 1))) (mCons (mOp2 oAdd (mC (.int 1)) (mOp2 oMod (mCall 2 m__law_mix (mCons (mVar 0) (mCons (mC (.int 1)) mNil))) (mVar 1))) mNil))))))
def m__law_drawn_v1 : MF := mFn 1 1 b__law_drawn_v1
/-- _law_fence -/
def l__law_fence_1 : MS := (mSeq (mIf (mAnd (mTst (mVar 3)) (mAnd (mTst (mOp2 oIn (mVar 8) (mVar 6))) (mTst (mOp2 oNotIn (mVar 7) (mVar 5))))) (mRet (mC (.bl false))) mNext)
    (mIf (mAnd (mNot (mTst (mVar 3))) (mAnd (mTst (mOp2 oIn (mVar 7) (mVar 5))) (mAnd (mTst (mOp2 oNotIn (mVar 8) (mVar 6))) (mTst (mOp2 oNe (mTup (mCons (mVar 7) (mCons (mVar 8) mNil))) (mVar 1)))))) (mRet (mC (.bl false))) mNext))
def b__law_fence : MS := (mSeq (mIf (mOr (mNot (mTst (mOpN oIsi (mCons (mVar 2) (mCons (mC (.ty "tuple")) mNil))))) (mOr (mTst (mOp2 oNe (mOpN oLen (mCons (mVar 2) mNil)) (mC (.int 3)))) (mNot (mTst (mCall 1 m__law_whole (mCons (mOp2 oIx (mVar 2) (mC (.int 0))) mNil)))))) (mRet (mC (.bl false))) mNext)
    (mSeq (mAsg (mgT 3 (mgCons (mgN 4) (mgCons (mgN 5) (mgCons (mgN 6) mgNil)))) (mVar 2))
    (mSeq (mIf (mOr (mNot (mTst (mCall 2 m__law_numbers (mCons (mVar 5) (mCons (mOpN oLen (mCons (mOp2 oIx (mVar 0) (mC (.int 1))) mNil)) mNil))))) (mNot (mTst (mCall 2 m__law_numbers (mCons (mVar 6) (mCons (mOpN oLen (mCons (mOp2 oIx (mVar 0) (mC (.int 2))) mNil)) mNil)))))) (mRet (mC (.bl false))) mNext)
    (mSeq (mIf (mAnd (mNot (mTst (mVar 3))) (mTst (mOp2 oEq (mVar 2) (mTup (mCons (mC (.int 0)) (mCons (mLst .sh mNil) (mCons (mLst .sh mNil) mNil))))))) (mRet (mC (.bl true))) mNext)
    (mSeq (mIf (mOr (mTst (mOp2 oNotIn (mOp2 oIx (mVar 1) (mC (.int 0))) (mVar 5))) (mTst (mOp2 oIn (mOp2 oIx (mVar 1) (mC (.int 1))) (mVar 6)))) (mRet (mC (.bl false))) mNext)
    (mSeq (mFor (mItL (mCall 1 m__law_hidden (mCons (mVar 0) mNil))) (mgT 2 (mgCons (mgN 7) (mgCons (mgN 8) mgNil))) l__law_fence_1)
    (mRet (mOp2 oEq (mVar 4) (mCall 3 m__law_gap (mCons (mVar 0) (mCons (mVar 5) (mCons (mVar 6) mNil))))))))))))
def m__law_fence : MF := mFn 4 5 b__law_fence
/-- _law_bad -/
def t__law_bad_1 : MT := (mTst (mOp2 oNotN (mOp2 oIx (mOp2 oIx (mOp2 oIx (mVar 1) (mC (.int 0))) (mOp2 oIx (mVar 5) (mC (.int 0)))) (mOp2 oIx (mVar 5) (mC (.int 1)))) (mC .non)))
def e__law_bad_1 : ME := (mVar 5)
def b__law_bad : MS := (mSeq (mSet 2 (mCall 2 m__law_mix (mCons (mVar 0) (mCons (mC (.int 71)) mNil))))
    (mSeq (mSet 3 (mComp .sh [5] (mItL (mCall 1 m__law_all (mCons (mOp2 oIx (mVar 1) (mC (.int 0))) mNil))) (mgN 5) t__law_bad_1 e__law_bad_1))
    (mSeq (mSet 4 (mSh (mOp2 oCat (mVar 3) (mLst .sh (mCons (mTup (mCons (mOpN oLen (mCons (mOp2 oIx (mVar 1) (mC (.int 1))) mNil)) (mCons (mC (.int 0)) mNil))) (mCons (mTup (mCons (mC (.int 0)) (mCons (mOp2 oSub (mC (.int 0)) (mC (.int 1))) mNil))) (mCons (mSh (mLst .sh (mCons (mC (.int 0)) (mCons (mC (.int 0)) mNil)))) (mCons (mC .non) (mCons (mC (.str "00")) (mCons (mTup (mCons (mC (.int 0)) mNil)) (mCons (mTup (mCons (mC (.int 0)) (mCons (mC (.int 0)) (mCons (mC (.int 0)) mNil)))) (mCons (mTup (mCons (mC (.bl false)) (mCons (mC (.bl false)) mNil))) (mCons (mC (.int 0)) (mCons (mTup mNil) mNil))))))))))))))
    (mRet (mOp2 oIx (mVar 4) (mOp2 oMod (mVar 2) (mOpN oLen (mCons (mVar 4) mNil))))))))
def m__law_bad : MF := mFn 2 4 b__law_bad
/-- _law_right -/
def l__law_right_1 : MS := (mSeq (mIf (mOr (mNot (mTst (mCall 2 m__law_has (mCons (mOp2 oIx (mVar 2) (mVar 4)) (mCons (mVar 0) mNil))))) (mNot (mTst (mCall 4 m__law_fence (mCons (mVar 0) (mCons (mVar 1) (mCons (mOp2 oIx (mVar 3) (mVar 4)) (mCons (mOp2 oEq (mVar 4) (mC (.int 1))) mNil)))))))) (mRet (mC (.bl false))) mNext)
    (mIf (mTst (mOp2 oNe (mOp2 oIx (mOp2 oIx (mOp2 oIx (mVar 2) (mVar 4)) (mOp2 oIx (mVar 1) (mC (.int 0)))) (mOp2 oIx (mVar 1) (mC (.int 1)))) (mOp2 oIx (mOp2 oIx (mVar 3) (mVar 4)) (mC (.int 0))))) (mRet (mC (.bl false))) mNext))
def b__law_right : MS := (mSeq (mIf (mOr (mNot (mTst (mOpN oIsi (mCons (mVar 2) (mCons (mC (.ty "tuple")) mNil))))) (mOr (mTst (mOp2 oNe (mOpN oLen (mCons (mVar 2) mNil)) (mC (.int 2)))) (mOr (mNot (mTst (mOpN oIsi (mCons (mVar 3) (mCons (mC (.ty "tuple")) mNil))))) (mTst (mOp2 oNe (mOpN oLen (mCons (mVar 3) mNil)) (mC (.int 2))))))) (mRet (mC (.bl false))) mNext)
    (mSeq (mFor (mItR (mCons (mC (.int 2)) mNil)) (mgN 4) l__law_right_1)
    (mRet (mC (.bl true)))))
def m__law_right : MF := mFn 4 1 b__law_right
/-- _law_all -/
def e__law_all_v1_1 : ME := (mTup (mCons (mVar 2) (mCons (mVar 3) mNil)))
def l__law_all_v1_1 : MS := (mSet 1 (mSh (mOp2 oCat (mVar 1) (mComp .sh [3] (mItR (mCons (mOpN oLen (mCons (mOp2 oIx (mVar 0) (mC (.int 0))) mNil)) mNil)) (mgN 3) mYes e__law_all_v1_1))))
def b__law_all_v1 : MS := (mSeq (mSet 1 (mSh (mLst .sh mNil)))
    (mSeq (mFor (mItR (mCons (mOpN oLen (mCons (mVar 0) mNil)) mNil)) (mgN 2) l__law_all_v1_1)
    (mRet (mVar 1))))
def m__law_all_v1 : MF := mFn 1 3 b__law_all_v1
/-- _law_places -/
def t__law_places_v1_1 : MT := (mTst (mOp2 oGt (mOp2 oMod (mCall 2 m__law_mix (mCons (mVar 0) (mCons (mOp2 oAdd (mC (.int 80)) (mVar 4)) mNil))) (mC (.int 5))) (mVar 2)))
def e__law_places_v1_1 : ME := (mOp2 oIx (mVar 3) (mVar 4))
def b__law_places_v1 : MS := (mSeq (mSet 2 (mOp2 oSub (mOp2 oMod (mCall 2 m__law_mix (mCons (mVar 0) (mCons (mC (.int 6)) mNil))) (mC (.int 5))) (mC (.int 1))))
    (mSeq (mSet 3 (mCall 1 m__law_all_v1 (mCons (mVar 1) mNil)))
    (mRet (mComp .sh [4] (mItR (mCons (mOpN oLen (mCons (mVar 3) mNil)) mNil)) (mgN 4) t__law_places_v1_1 e__law_places_v1_1))))
def m__law_places_v1 : MF := mFn 2 3 b__law_places_v1
/-- _law_column_sums -/
def e__law_column_sums_v1_1 : ME := (mOp2 oIx (mVar 2) (mVar 1))
def e__law_column_sums_v1_2 : ME := (mOpN oSum (mCons (mComp .sh [2] (mItL (mVar 0)) (mgN 2) mYes e__law_column_sums_v1_1) mNil))
def b__law_column_sums_v1 : MS := (mRet (mComp .sh [1] (mItR (mCons (mOpN oLen (mCons (mOp2 oIx (mVar 0) (mC (.int 0))) mNil)) mNil)) (mgN 1) mYes e__law_column_sums_v1_2))
def m__law_column_sums_v1 : MF := mFn 1 2 b__law_column_sums_v1
/-- _law_view -/
def e__law_view_v2_1 : ME := (mOp2 oIx (mSh (mLst .sh (mCons (mOp2 oIx (mOp2 oIx (mVar 0) (mVar 3)) (mVar 4)) (mCons (mC .non) mNil)))) (mOpN oInt (mCons (mOp2 oIn (mTup (mCons (mVar 3) (mCons (mVar 4) mNil))) (mVar 1)) mNil)))
def l__law_view_v2_1 : MS := (mApp 2 (mComp .sh [4] (mItR (mCons (mOpN oLen (mCons (mOp2 oIx (mVar 0) (mC (.int 0))) mNil)) mNil)) (mgN 4) mYes e__law_view_v2_1))
def e__law_view_v2_2 : ME := (mOpN oSum (mCons (mVar 3) mNil))
def b__law_view_v2 : MS := (mSeq (mSet 2 (mLst (.ow .sh) mNil))
    (mSeq (mFor (mItR (mCons (mOpN oLen (mCons (mVar 0) mNil)) mNil)) (mgN 3) l__law_view_v2_1)
    (mRet (mTup (mCons (mMov 2) (mCons (mComp .sh [3] (mItL (mVar 0)) (mgN 3) mYes e__law_view_v2_2) (mCons (mCall 1 m__law_column_sums_v1 (mCons (mVar 0) mNil)) mNil)))))))
def m__law_view_v2 : MF := mFn 2 3 b__law_view_v2
/-- _law_rests -/
def e__law_rests_v2_1 : ME := (mOp2 oIx (mSh (mLst .sh (mCons (mVar 5) (mCons (mC (.int 0)) mNil)))) (mOpN oInt (mCons (mOp2 oIsN (mVar 5) (mC .non)) mNil)))
def e__law_rests_v2_2 : ME := (mComp .sh [5] (mItL (mVar 4)) (mgN 5) mYes e__law_rests_v2_1)
def e__law_rests_v2_3 : ME := (mOp2 oSub (mOp2 oIx (mOp2 oIx (mVar 0) (mC (.int 1))) (mVar 4)) (mOpN oSum (mCons (mOp2 oIx (mVar 1) (mVar 4)) mNil)))
def e__law_rests_v2_4 : ME := (mOp2 oSub (mOp2 oIx (mOp2 oIx (mVar 0) (mC (.int 2))) (mVar 6)) (mOp2 oIx (mVar 3) (mVar 6)))
def b__law_rests_v2 : MS := (mSeq (mSet 1 (mSh (mComp (.ow .sh) [4] (mItL (mOp2 oIx (mVar 0) (mC (.int 0)))) (mgN 4) mYes e__law_rests_v2_2)))
    (mSeq (mSet 2 (mComp .sh [4] (mItR (mCons (mOpN oLen (mCons (mVar 1) mNil)) mNil)) (mgN 4) mYes e__law_rests_v2_3))
    (mSeq (mSet 3 (mSh (mCall 1 m__law_column_sums_v1 (mCons (mVar 1) mNil))))
    (mRet (mTup (mCons (mMov 2) (mCons (mComp .sh [6] (mItR (mCons (mOpN oLen (mCons (mVar 3) mNil)) mNil)) (mgN 6) mYes e__law_rests_v2_4) mNil)))))))
def m__law_rests_v2 : MF := mFn 1 6 b__law_rests_v2
/-- _law_put -/
def e__law_put_1 : ME := (mOp2 oIx (mSh (mLst .sh (mCons (mOp2 oIx (mVar 0) (mVar 2)) (mCons (mOp2 oIx (mVar 1) (mVar 2)) mNil)))) (mOpN oInt (mCons (mOp2 oIsN (mOp2 oIx (mVar 0) (mVar 2)) (mC .non)) mNil)))
def b__law_put : MS := (mRet (mComp .sh [2] (mItR (mCons (mOpN oLen (mCons (mVar 0) mNil)) mNil)) (mgN 2) mYes e__law_put_1))
def m__law_put : MF := mFn 2 1 b__law_put
/-- _law_turned -/
def e__law_turned_v1_1 : ME := (mOp2 oIx (mVar 4) (mVar 3))
def e__law_turned_v1_2 : ME := (mComp .sh [4] (mItL (mOp2 oIx (mVar 0) (mC (.int 0)))) (mgN 4) mYes e__law_turned_v1_1)
def b__law_turned_v1 : MS := (mSeq (mIf (mNot (mTst (mVar 1))) (mRet (mVar 0)) mNext)
    (mSeq (mSet 2 (mComp (.ow .sh) [3] (mItR (mCons (mOpN oLen (mCons (mOp2 oIx (mOp2 oIx (mVar 0) (mC (.int 0))) (mC (.int 0))) mNil)) mNil)) (mgN 3) mYes e__law_turned_v1_2))
    (mRet (mTup (mCons (mMov 2) (mCons (mOpN oList (mCons (mOp2 oIx (mVar 0) (mC (.int 2))) mNil)) (mCons (mOpN oList (mCons (mOp2 oIx (mVar 0) (mC (.int 1))) mNil)) mNil)))))))
def m__law_turned_v1 : MF := mFn 2 3 b__law_turned_v1
/-- _law_most -/
def b__law_most_v1 : MS := (mSeq (mSet 1 (mCall 2 m__law_mix (mCons (mVar 0) (mCons (mC (.int 5)) mNil))))
    (mRet (mOp2 oAdd (mC (.int 4)) (mOpN oInt (mCons (mOp2 oEq (mOp2 oMod (mVar 1) (mC (.int 9))) (mC (.int 0))) mNil)))))
def m__law_most_v1 : MF := mFn 1 1 b__law_most_v1
/-- _law_width -/
def b__law_width : MS := (mSeq (mSet 1 (mCall 2 m__law_mix (mCons (mVar 0) (mCons (mC (.int 4)) mNil))))
    (mSeq (mSet 2 (mOp2 oDiv (mVar 1) (mC (.int 8))))
    (mRet (mOp2 oAdd (mC (.int 1)) (mOp2 oIx (mSh (mLst .sh (mCons (mOp2 oMod (mVar 2) (mC (.int 3))) (mCons (mOp2 oMod (mVar 2) (mC (.int 3))) (mCons (mOp2 oMod (mVar 2) (mC (.int 3))) (mCons (mOp2 oMod (mVar 2) (mC (.int 2))) (mCons (mOp2 oMod (mVar 2) (mC (.int 5))) (mCons (mOp2 oMod (mVar 2) (mC (.int 8))) (mCons (mOp2 oMod (mVar 2) (mC (.int 60))) (mCons (mOp2 oMod (mVar 2) (mOp2 oPow (mC (.int 10)) (mC (.int 9)))) mNil)))))))))) (mOp2 oMod (mVar 1) (mC (.int 8))))))))
def m__law_width : MF := mFn 1 2 b__law_width
/-- without -/
def t_without_1 : MT := (mTst (mOp2 oNe (mVar 2) (mVar 1)))
def e_without_1 : ME := (mVar 2)
def b_without : MS := (mRet (mComp .sh [2] (mItL (mVar 0)) (mgN 2) t_without_1 e_without_1))
def m_without : MF := mFn 2 1 b_without
/-- _law_sides -/
def b__law_sides : MS := (mSeq (mSet 1 (mCall 2 m__law_mix (mCons (mVar 0) (mCons (mC (.int 5)) mNil))))
    (mSeq (mSet 2 (mOp2 oAdd (mC (.int 2)) (mOp2 oMod (mCall 2 m__law_mix (mCons (mVar 0) (mCons (mC (.int 0)) mNil))) (mC (.int 3)))))
    (mSeq (mSet 3 (mOp2 oAdd (mC (.int 2)) (mOp2 oMod (mCall 2 m__law_mix (mCons (mVar 0) (mCons (mC (.int 1)) mNil))) (mC (.int 3)))))
    (mSeq (mIf (mTst (mOp2 oEq (mOp2 oMod (mVar 1) (mC (.int 9))) (mC (.int 0)))) (mAsg (mgT 2 (mgCons (mgN 2) (mgCons (mgN 3) mgNil))) (mOp2 oIx (mSh (mLst .sh (mCons (mTup (mCons (mC (.int 5)) (mCons (mOp2 oAdd (mC (.int 2)) (mOp2 oMod (mVar 3) (mC (.int 2)))) mNil))) (mCons (mTup (mCons (mOp2 oAdd (mC (.int 2)) (mOp2 oMod (mVar 2) (mC (.int 2)))) (mCons (mC (.int 5)) mNil))) mNil)))) (mOp2 oMod (mOp2 oDiv (mVar 1) (mC (.int 9))) (mC (.int 2))))) mNext)
    (mSeq (mIf (mTst (mOp2 oEq (mOp2 oMod (mOp2 oDiv (mVar 1) (mC (.int 64))) (mC (.int 9))) (mC (.int 0)))) (mAsg (mgT 2 (mgCons (mgN 2) (mgCons (mgN 3) mgNil))) (mOp2 oIx (mSh (mLst .sh (mCons (mTup (mCons (mC (.int 1)) (mCons (mOp2 oAdd (mC (.int 1)) (mOp2 oMod (mOp2 oDiv (mVar 1) (mC (.int 1152))) (mC (.int 8)))) mNil))) (mCons (mTup (mCons (mOp2 oAdd (mC (.int 1)) (mOp2 oMod (mOp2 oDiv (mVar 1) (mC (.int 1152))) (mC (.int 8)))) (mCons (mC (.int 1)) mNil))) mNil)))) (mOp2 oMod (mOp2 oDiv (mVar 1) (mC (.int 576))) (mC (.int 2))))) mNext)
    (mRet (mTup (mCons (mVar 2) (mCons (mVar 3) mNil)))))))))
def m__law_sides : MF := mFn 1 3 b__law_sides
/-- _law_hide_count -/
def b__law_hide_count : MS := (mSeq (mSet 2 (mCall 2 m__law_mix (mCons (mVar 0) (mCons (mVar 1) mNil))))
    (mSeq (mSet 3 (mOp2 oDiv (mVar 2) (mC (.int 8))))
    (mSeq (mIf (mTst (mOp2 oEq (mOp2 oMod (mOp2 oDiv (mCall 2 m__law_mix (mCons (mVar 0) (mCons (mC (.int 2)) mNil))) (mC (.int 6))) (mC (.int 9))) (mC (.int 0)))) (mRet (mCall 2 m__law_count (mCons (mVar 0) (mCons (mVar 1) mNil)))) mNext)
    (mSeq (mSet 4 (mSh (mLst .sh (mCons (mC (.int 0)) (mCons (mOp2 oAdd (mC (.int 1)) (mOp2 oMod (mVar 3) (mC (.int 4)))) (mCons (mOp2 oAdd (mC (.int 1)) (mOp2 oMod (mVar 3) (mC (.int 4)))) (mCons (mOp2 oAdd (mC (.int 5)) (mOp2 oMod (mVar 3) (mC (.int 9)))) (mCons (mOp2 oAdd (mC (.int 5)) (mOp2 oMod (mVar 3) (mC (.int 9)))) (mCons (mOp2 oAdd (mC (.int 5)) (mOp2 oMod (mVar 3) (mC (.int 16)))) (mCons (mOp2 oAdd (mC (.int 4)) (mOp2 oMod (mVar 3) (mC (.int 9)))) (mCons (mOp2 oMod (mVar 3) (mC (.int 40))) mNil)))))))))))
    (mRet (mOp2 oIx (mVar 4) (mOp2 oMod (mVar 2) (mC (.int 8)))))))))
def m__law_hide_count : MF := mFn 2 3 b__law_hide_count
/-- _law_drawn -/
def e__law_drawn_v2_1 : ME := (mCall 2 m__law_hide_count (mCons (mVar 0) (mCons (mOp2 oAdd (mOp2 oAdd (mC (.int 8)) (mOp2 oMul (mVar 2) (mVar 4))) (mVar 6)) mNil)))
def l__law_drawn_v2_1 : MS := (mApp 3 (mComp .sh [6] (mItR (mCons (mVar 2) mNil)) (mgN 6) mYes e__law_drawn_v2_1))
def b__law_drawn_v2 : MS := (mSeq (mAsg (mgT 2 (mgCons (mgN 1) (mgCons (mgN 2) mgNil))) (mCall 1 m__law_sides (mCons (mVar 0) mNil)))
    (mSeq (mSet 3 (mLst (.ow .sh) mNil))
    (mSeq (mFor (mItR (mCons (mVar 1) mNil)) (mgN 4) l__law_drawn_v2_1)
    (mSeq (mSet 5 (mCall 2 m__law_mix (mCons (mVar 0) (mCons (mC (.int 79)) mNil))))
    (mSeq (mIf (mTst (mOp2 oGt (mOp2 oMod (mVar 5) (mC (.int 4))) (mC (.int 0)))) (mSetG 3 (mOp2 oAdd (mC (.int 1)) (mOp2 oMod (mOp2 oDiv (mVar 5) (mC (.int 4))) (mC (.int 2)))) (mOp2 oMod (mCall 2 m__law_mix (mCons (mVar 0) (mCons (mC (.int 77)) mNil))) (mVar 1)) (mOp2 oMod (mCall 2 m__law_mix (mCons (mVar 0) (mCons (mC (.int 78)) mNil))) (mVar 2))) mNext)
    (mRet (mMov 3)))))))
def m__law_drawn_v2 : MF := mFn 1 6 b__law_drawn_v2
/-- _law_bound -/
def b__law_bound_v1 : MS := (mSeq (mSet 1 (mCall 2 m__law_mix (mCons (mVar 0) (mCons (mC (.int 3)) mNil))))
    (mSeq (mIf (mTst (mOp2 oEq (mOp2 oMod (mVar 1) (mC (.int 12))) (mC (.int 0)))) (mRet (mOp2 oAdd (mC (.int 1)) (mOp2 oMod (mOp2 oDiv (mVar 1) (mC (.int 12))) (mOp2 oPow (mC (.int 10)) (mC (.int 9)))))) mNext)
    (mRet (mOp2 oAdd (mC (.int 1)) (mOp2 oMod (mOp2 oDiv (mVar 1) (mC (.int 12))) (mC (.int 4)))))))
def m__law_bound_v1 : MF := mFn 1 1 b__law_bound_v1
/-- _law_width -/
def b__law_width_v1 : MS := (mSeq (mSet 2 (mCall 2 m__law_mix (mCons (mVar 0) (mCons (mC (.int 4)) mNil))))
    (mSeq (mSet 3 (mOp2 oDiv (mVar 2) (mC (.int 8))))
    (mSeq (mIf (mTst (mOp2 oGt (mOp2 oMul (mOpN oLen (mCons (mVar 1) mNil)) (mOpN oLen (mCons (mOp2 oIx (mVar 1) (mC (.int 0))) mNil))) (mC (.int 9)))) (mRet (mOp2 oAdd (mC (.int 1)) (mOp2 oMod (mVar 3) (mC (.int 3))))) mNext)
    (mRet (mOp2 oAdd (mC (.int 1)) (mOp2 oIx (mSh (mLst .sh (mCons (mOp2 oMod (mVar 3) (mC (.int 3))) (mCons (mOp2 oMod (mVar 3) (mC (.int 3))) (mCons (mOp2 oMod (mVar 3) (mC (.int 3))) (mCons (mOp2 oMod (mVar 3) (mC (.int 2))) (mCons (mOp2 oMod (mVar 3) (mC (.int 5))) (mCons (mOp2 oMod (mVar 3) (mC (.int 8))) (mCons (mOp2 oMod (mVar 3) (mC (.int 60))) (mCons (mOp2 oMod (mVar 3) (mOp2 oPow (mC (.int 10)) (mC (.int 9)))) mNil)))))))))) (mOp2 oMod (mVar 2) (mC (.int 8)))))))))
def m__law_width_v1 : MF := mFn 2 2 b__law_width_v1
/-- _law_view -/
def e__law_view_v3_1 : ME := (mOp2 oIx (mSh (mLst .sh (mCons (mOp2 oIx (mOp2 oIx (mVar 0) (mVar 3)) (mVar 4)) (mCons (mC .non) mNil)))) (mOpN oInt (mCons (mOp2 oIn (mTup (mCons (mVar 3) (mCons (mVar 4) mNil))) (mVar 1)) mNil)))
def l__law_view_v3_1 : MS := (mApp 2 (mComp .sh [4] (mItR (mCons (mOpN oLen (mCons (mOp2 oIx (mVar 0) (mC (.int 0))) mNil)) mNil)) (mgN 4) mYes e__law_view_v3_1))
def e__law_view_v3_2 : ME := (mOpN oSum (mCons (mVar 3) mNil))
def b__law_view_v3 : MS := (mSeq (mSet 2 (mLst (.ow .sh) mNil))
    (mSeq (mFor (mItR (mCons (mOpN oLen (mCons (mVar 0) mNil)) mNil)) (mgN 3) l__law_view_v3_1)
    (mRet (mTup (mCons (mMov 2) (mCons (mComp .sh [3] (mItL (mVar 0)) (mgN 3) mYes e__law_view_v3_2) (mCons (mCall 1 m__law_column_sums_v1 (mCons (mVar 0) mNil)) mNil)))))))
def m__law_view_v3 : MF := mFn 2 3 b__law_view_v3
/-- _law_small -/
def t__law_small_1 : MT := (mChain (fun i j => decide (i ≤ j)) (fun i j => decide (i ≤ j)) (mC (.int 1)) (mOp2 oIx (mOp2 oIx (mVar 0) (mOp2 oIx (mVar 2) (mC (.int 0)))) (mOp2 oIx (mVar 2) (mC (.int 1)))) (mVar 1))
def e__law_small_1 : ME := (mVar 2)
def b__law_small : MS := (mRet (mComp .sh [2] (mItL (mCall 1 m__law_all_v1 (mCons (mVar 0) mNil))) (mgN 2) t__law_small_1 e__law_small_1))
def m__law_small : MF := mFn 2 1 b__law_small
/-- _law_has -/
def l__law_has_v1_1 : MS := (mIf (mOr (mNot (mTst (mCall 1 m__law_whole (mCons (mVar 4) mNil)))) (mOr (mTst (mOp2 oLt (mVar 4) (mC (.int 0)))) (mAnd (mTst (mOp2 oNotN (mVar 5) (mC .non))) (mTst (mOp2 oNe (mVar 5) (mVar 4)))))) (mRet (mC (.bl false))) mNext)
def l__law_has_v1_2 : MS := (mSeq (mIf (mOr (mNot (mTst (mOpN oIsi (mCons (mVar 2) (mCons (mC (.ty "list")) mNil))))) (mTst (mOp2 oNe (mOpN oLen (mCons (mVar 2) mNil)) (mOpN oLen (mCons (mVar 3) mNil))))) (mRet (mC (.bl false))) mNext)
    (mFor (mItZ (mCons (mVar 2) (mCons (mVar 3) mNil))) (mgT 2 (mgCons (mgN 4) (mgCons (mgN 5) mgNil))) l__law_has_v1_1))
def e__law_has_v1_1 : ME := (mOpN oSum (mCons (mVar 2) mNil))
def b__law_has_v1 : MS := (mSeq (mIf (mOr (mNot (mTst (mOpN oIsi (mCons (mVar 0) (mCons (mC (.ty "list")) mNil))))) (mTst (mOp2 oNe (mOpN oLen (mCons (mVar 0) mNil)) (mOpN oLen (mCons (mOp2 oIx (mVar 1) (mC (.int 0))) mNil))))) (mRet (mC (.bl false))) mNext)
    (mSeq (mFor (mItZ (mCons (mVar 0) (mCons (mOp2 oIx (mVar 1) (mC (.int 0))) mNil))) (mgT 2 (mgCons (mgN 2) (mgCons (mgN 3) mgNil))) l__law_has_v1_2)
    (mRet (mAndV (mOp2 oEq (mComp .sh [2] (mItL (mVar 0)) (mgN 2) mYes e__law_has_v1_1) (mOp2 oIx (mVar 1) (mC (.int 1)))) (mOp2 oEq (mCall 1 m__law_column_sums_v1 (mCons (mVar 0) mNil)) (mOp2 oIx (mVar 1) (mC (.int 2))))))))
def m__law_has_v1 : MF := mFn 2 4 b__law_has_v1
/-- _law_places_told -/
def t__law_places_told_1 : MT := (mTst (mOp2 oIn (mVar 2) (mVar 0)))
def e__law_places_told_1 : ME := (mVar 2)
def l__law_places_told_1 : MS := (mIf (mOr (mNot (mTst (mOpN oIsi (mCons (mVar 2) (mCons (mC (.ty "tuple")) mNil))))) (mOr (mNot (mTst (mCall 1 m__law_whole (mCons (mOp2 oIx (mVar 2) (mC (.int 0))) mNil)))) (mNot (mTst (mCall 1 m__law_whole (mCons (mOp2 oIx (mVar 2) (mC (.int 1))) mNil)))))) (mRet (mC (.bl false))) mNext)
def b__law_places_told : MS := (mSeq (mIf (mOr (mNot (mTst (mOpN oIsi (mCons (mVar 0) (mCons (mC (.ty "list")) mNil))))) (mTst (mOp2 oNe (mVar 0) (mComp .sh [2] (mItL (mCall 1 m__law_all_v1 (mCons (mVar 1) mNil))) (mgN 2) t__law_places_told_1 e__law_places_told_1)))) (mRet (mC (.bl false))) mNext)
    (mSeq (mFor (mItL (mVar 0)) (mgN 2) l__law_places_told_1)
    (mRet (mC (.bl true)))))
def m__law_places_told : MF := mFn 2 1 b__law_places_told
/-- _law_pair -/
def b__law_pair : MS := (mSeq (mIf (mOr (mNot (mTst (mOpN oIsi (mCons (mVar 2) (mCons (mC (.ty "tuple")) mNil))))) (mOr (mTst (mOp2 oNe (mOpN oLen (mCons (mVar 2) mNil)) (mC (.int 3)))) (mTst (mOp2 oNotIn (mOp2 oIx (mVar 2) (mC (.int 0))) (mVar 1))))) (mRet (mC (.bl false))) mNext)
    (mSeq (mSet 4 (mSh (mCall 2 m__law_view_v3 (mCons (mVar 0) (mCons (mVar 1) mNil)))))
    (mSeq (mIf (mOr (mNot (mTst (mCall 2 m__law_has_v1 (mCons (mOp2 oIx (mVar 2) (mC (.int 1))) (mCons (mVar 4) mNil))))) (mNot (mTst (mCall 2 m__law_has_v1 (mCons (mOp2 oIx (mVar 2) (mC (.int 2))) (mCons (mVar 4) mNil)))))) (mRet (mC (.bl false))) mNext)
    (mSeq (mAsg (mgT 2 (mgCons (mgN 5) (mgCons (mgN 6) mgNil))) (mOp2 oIx (mVar 2) (mC (.int 0))))
    (mRet (mOp2 oGe (mOpN oAbs (mCons (mOp2 oSub (mOp2 oIx (mOp2 oIx (mOp2 oIx (mVar 2) (mC (.int 1))) (mVar 5)) (mVar 6)) (mOp2 oIx (mOp2 oIx (mOp2 oIx (mVar 2) (mC (.int 2))) (mVar 5)) (mVar 6))) mNil)) (mVar 3)))))))
def m__law_pair : MF := mFn 4 3 b__law_pair
/-- _law_right -/
def e__law_right_v1_1 : ME := (mOpN oIsi (mCons (mVar 9) (mCons (mC (.ty "list")) mNil)))
def e__law_right_v1_2 : ME := (mOp2 oIn (mVar 10) (mVar 4))
def t__law_right_v1_1 : MT := (mOr (mTst (mOp2 oIn (mVar 10) (mVar 4))) (mTst (mOp2 oIn (mVar 10) (mVar 5))))
def e__law_right_v1_3 : ME := (mVar 10)
def e__law_right_v1_4 : ME := (mOp2 oIx (mVar 11) (mC (.int 0)))
def e__law_right_v1_5 : ME := (mCall 4 m__law_pair (mCons (mVar 0) (mCons (mVar 8) (mCons (mVar 11) (mCons (mVar 2) mNil)))))
def b__law_right_v1 : MS := (mSeq (mIf (mOr (mNot (mTst (mOpN oIsi (mCons (mVar 3) (mCons (mC (.ty "tuple")) mNil))))) (mOr (mTst (mOp2 oNe (mOpN oLen (mCons (mVar 3) mNil)) (mC (.int 4)))) (mNot (mTst (mOpN oAll (mCons (mComp .sh [9] (mItL (mVar 3)) (mgN 9) mYes e__law_right_v1_1) mNil)))))) (mRet (mC (.bl false))) mNext)
    (mSeq (mAsg (mgT 4 (mgCons (mgN 4) (mgCons (mgN 5) (mgCons (mgN 6) (mgCons (mgN 7) mgNil))))) (mVar 3))
    (mSeq (mIf (mOr (mNot (mTst (mCall 2 m__law_places_told (mCons (mVar 4) (mCons (mVar 0) mNil))))) (mNot (mTst (mCall 2 m__law_places_told (mCons (mVar 5) (mCons (mVar 0) mNil)))))) (mRet (mC (.bl false))) mNext)
    (mSeq (mIf (mOr (mTst (mOp2 oNe (mVar 4) (mCall 2 m__law_small (mCons (mVar 0) (mCons (mVar 1) mNil))))) (mTst (mOpN oAny (mCons (mComp .sh [10] (mItL (mVar 5)) (mgN 10) mYes e__law_right_v1_2) mNil)))) (mRet (mC (.bl false))) mNext)
    (mSeq (mSet 8 (mSh (mComp .sh [10] (mItL (mCall 1 m__law_all_v1 (mCons (mVar 0) mNil))) (mgN 10) t__law_right_v1_1 e__law_right_v1_3)))
    (mSeq (mIf (mOr (mTst (mOp2 oNe (mComp .sh [11] (mItL (mVar 6)) (mgN 11) mYes e__law_right_v1_4) (mVar 8))) (mAnd (mTst (mOp2 oEq (mVar 4) (mLst .sh mNil))) (mTst (mOp2 oNe (mOp2 oAdd (mVar 5) (mVar 7)) (mLst .sh mNil))))) (mRet (mC (.bl false))) mNext)
    (mRet (mOpN oAll (mCons (mComp .sh [11] (mItL (mVar 6)) (mgN 11) mYes e__law_right_v1_5) mNil)))))))))
def m__law_right_v1 : MF := mFn 4 8 b__law_right_v1
/-- _law_step -/
def b__law_step : MS := (mSeq (mIf (mOr (mNot (mTst (mOpN oIsi (mCons (mVar 2) (mCons (mC (.ty "tuple")) mNil))))) (mOr (mTst (mOp2 oNe (mOpN oLen (mCons (mVar 2) mNil)) (mC (.int 3)))) (mTst (mOp2 oNotIn (mOp2 oIx (mVar 2) (mC (.int 0))) (mVar 1))))) (mRet (mC (.bl false))) mNext)
    (mSeq (mSet 4 (mSh (mCall 2 m__law_view_v3 (mCons (mVar 0) (mCons (mVar 1) mNil)))))
    (mSeq (mIf (mOr (mNot (mTst (mCall 4 m__law_fence (mCons (mVar 4) (mCons (mOp2 oIx (mVar 2) (mC (.int 0))) (mCons (mOp2 oIx (mVar 2) (mC (.int 1))) (mCons (mC (.bl false)) mNil))))))) (mNot (mTst (mCall 4 m__law_fence (mCons (mVar 4) (mCons (mOp2 oIx (mVar 2) (mC (.int 0))) (mCons (mOp2 oIx (mVar 2) (mC (.int 2))) (mCons (mC (.bl true)) mNil)))))))) (mRet (mC (.bl false))) mNext)
    (mRet (mOp2 oLt (mOp2 oSub (mOp2 oIx (mOp2 oIx (mVar 2) (mC (.int 2))) (mC (.int 0))) (mOp2 oIx (mOp2 oIx (mVar 2) (mC (.int 1))) (mC (.int 0)))) (mVar 3))))))
def m__law_step : MF := mFn 4 1 b__law_step
/-- _law_is_place -/
def b__law_is_place : MS := (mRet (mAndV (mOpN oIsi (mCons (mVar 0) (mCons (mC (.ty "tuple")) mNil))) (mAndV (mOp2 oEq (mOpN oLen (mCons (mVar 0) mNil)) (mC (.int 2))) (mAndV (mCall 1 m__law_whole (mCons (mOp2 oIx (mVar 0) (mC (.int 0))) mNil)) (mCall 1 m__law_whole (mCons (mOp2 oIx (mVar 0) (mC (.int 1))) mNil))))))
def m__law_is_place : MF := mFn 1 0 b__law_is_place
/-- _law_drawn -/
def e__law_drawn_v3_1 : ME := (mCall 2 m__law_hide_count (mCons (mVar 0) (mCons (mOp2 oAdd (mOp2 oAdd (mC (.int 8)) (mOp2 oMul (mVar 2) (mVar 4))) (mVar 6)) mNil)))
def l__law_drawn_v3_1 : MS := (mApp 3 (mComp .sh [6] (mItR (mCons (mVar 2) mNil)) (mgN 6) mYes e__law_drawn_v3_1))
def b__law_drawn_v3 : MS := (mSeq (mAsg (mgT 2 (mgCons (mgN 1) (mgCons (mgN 2) mgNil))) (mCall 1 m__law_sides (mCons (mVar 0) mNil)))
    (mSeq (mIf (mTst (mOp2 oEq (mOp2 oMod (mCall 2 m__law_mix (mCons (mVar 0) (mCons (mC (.int 7)) mNil))) (mC (.int 5))) (mC (.int 0)))) (mAsg (mgT 2 (mgCons (mgN 1) (mgCons (mgN 2) mgNil))) (mOp2 oIx (mSh (mLst .sh (mCons (mTup (mCons (mC (.int 1)) (mCons (mVar 2) mNil))) (mCons (mTup (mCons (mVar 1) (mCons (mC (.int 1)) mNil))) mNil)))) (mOp2 oMod (mOp2 oDiv (mCall 2 m__law_mix (mCons (mVar 0) (mCons (mC (.int 7)) mNil))) (mC (.int 5))) (mC (.int 2))))) mNext)
    (mSeq (mSet 3 (mLst (.ow .sh) mNil))
    (mSeq (mFor (mItR (mCons (mVar 1) mNil)) (mgN 4) l__law_drawn_v3_1)
    (mSeq (mSet 5 (mCall 2 m__law_mix (mCons (mVar 0) (mCons (mC (.int 79)) mNil))))
    (mSeq (mIf (mTst (mOp2 oGt (mOp2 oMod (mVar 5) (mC (.int 4))) (mC (.int 0)))) (mSetG 3 (mOp2 oAdd (mC (.int 1)) (mOp2 oMod (mOp2 oDiv (mVar 5) (mC (.int 4))) (mC (.int 2)))) (mOp2 oMod (mCall 2 m__law_mix (mCons (mVar 0) (mCons (mC (.int 77)) mNil))) (mVar 1)) (mOp2 oMod (mCall 2 m__law_mix (mCons (mVar 0) (mCons (mC (.int 78)) mNil))) (mVar 2))) mNext)
    (mRet (mMov 3))))))))
def m__law_drawn_v3 : MF := mFn 1 6 b__law_drawn_v3
/-- _law_width -/
def e__law_width_v2_1 : ME := (mOpN oMax (mCons (mVar 4) mNil))
def b__law_width_v2 : MS := (mSeq (mSet 2 (mCall 2 m__law_mix (mCons (mVar 0) (mCons (mC (.int 4)) mNil))))
    (mSeq (mSet 3 (mOpN oMax (mCons (mComp .sh [4] (mItL (mVar 1)) (mgN 4) mYes e__law_width_v2_1) mNil)))
    (mSeq (mIf (mTst (mOp2 oGt (mOp2 oMul (mOpN oLen (mCons (mVar 1) mNil)) (mOpN oLen (mCons (mOp2 oIx (mVar 1) (mC (.int 0))) mNil))) (mC (.int 9)))) (mRet (mOp2 oAdd (mC (.int 1)) (mOp2 oMod (mOp2 oDiv (mVar 2) (mC (.int 8))) (mC (.int 3))))) mNext)
    (mRet (mOp2 oIx (mSh (mLst .sh (mCons (mOp2 oAdd (mC (.int 1)) (mOp2 oMod (mOp2 oDiv (mVar 2) (mC (.int 8))) (mC (.int 3)))) (mCons (mOpN oMax2 (mCons (mC (.int 1)) (mCons (mVar 3) mNil))) (mCons (mOp2 oAdd (mC (.int 1)) (mVar 3)) (mCons (mOp2 oAdd (mC (.int 1)) (mOp2 oMod (mOp2 oDiv (mVar 2) (mC (.int 8))) (mOp2 oPow (mC (.int 10)) (mC (.int 9))))) mNil)))))) (mOp2 oMod (mVar 2) (mC (.int 4))))))))
def m__law_width_v2 : MF := mFn 2 3 b__law_width_v2
/-- _law_bad -/
def b__law_bad_v1 : MS := (mRet (mOp2 oIx (mSh (mLst .sh (mCons (mC (.int 0)) (mCons (mOp2 oSub (mOp2 oSub (mC (.int 0)) (mC (.int 1))) (mOp2 oDiv (mVar 0) (mC (.int 8)))) (mCons (mC (.bl true)) (mCons (mC (.bl false)) (mCons (mC .non) (mCons (mC (.str "1")) (mCons (mSh (mLst .sh (mCons (mC (.int 1)) mNil))) (mCons (mTup (mCons (mC (.int 1)) mNil)) mNil)))))))))) (mOp2 oMod (mVar 0) (mC (.int 8)))))
def m__law_bad_v1 : MF := mFn 1 0 b__law_bad_v1
/-- are_places -/
def e_are_places_1 : ME := (mCall 2 m_is_place (mCons (mVar 2) (mCons (mVar 1) mNil)))
def e_are_places_2 : ME := (mOp2 oLt (mVar 3) (mVar 4))
def b_are_places : MS := (mSeq (mIf (mOr (mNot (mTst (mOpN oIsi (mCons (mVar 0) (mCons (mC (.ty "list")) mNil))))) (mNot (mTst (mOpN oAll (mCons (mComp .sh [2] (mItL (mVar 0)) (mgN 2) mYes e_are_places_1) mNil))))) (mRet (mC (.bl false))) mNext)
    (mRet (mOpN oAll (mCons (mComp .sh [3, 4] (mItZ (mCons (mVar 0) (mCons (mSh (mSl (mVar 0) (mOSome (mC (.int 1))) mONo)) mNil))) (mgT 2 (mgCons (mgN 3) (mgCons (mgN 4) mgNil))) mYes e_are_places_2) mNil))))
def m_are_places : MF := mFn 2 3 b_are_places
/-- are_numbers -/
def l_are_numbers_1 : MS := (mIf (mOr (mNot (mTst (mOpN oIsi (mCons (mVar 2) (mCons (mC (.ty "int")) mNil))))) (mOr (mTst (mOpN oIsi (mCons (mVar 2) (mCons (mC (.ty "bool")) mNil)))) (mNot (mChain (fun i j => decide (i ≤ j)) (fun i j => decide (i < j)) (mC (.int 0)) (mVar 2) (mVar 1))))) (mRet (mC (.bl false))) mNext)
def e_are_numbers_1 : ME := (mOp2 oLt (mVar 3) (mVar 4))
def b_are_numbers : MS := (mSeq (mIf (mNot (mTst (mOpN oIsi (mCons (mVar 0) (mCons (mC (.ty "list")) mNil))))) (mRet (mC (.bl false))) mNext)
    (mSeq (mFor (mItL (mVar 0)) (mgN 2) l_are_numbers_1)
    (mRet (mOpN oAll (mCons (mComp .sh [3, 4] (mItZ (mCons (mVar 0) (mCons (mSh (mSl (mVar 0) (mOSome (mC (.int 1))) mONo)) mNil))) (mgT 2 (mgCons (mgN 3) (mgCons (mgN 4) mgNil))) mYes e_are_numbers_1) mNil)))))
def m_are_numbers : MF := mFn 2 3 b_are_numbers
/-- are_tuples -/
def e_are_tuples_1 : ME := (mAndV (mOpN oIsi (mCons (mVar 2) (mCons (mC (.ty "tuple")) mNil))) (mOp2 oEq (mOpN oLen (mCons (mVar 2) mNil)) (mVar 1)))
def b_are_tuples : MS := (mRet (mAndV (mOpN oIsi (mCons (mVar 0) (mCons (mC (.ty "list")) mNil))) (mOpN oAll (mCons (mComp .sh [2] (mItL (mVar 0)) (mgN 2) mYes e_are_tuples_1) mNil))))
def m_are_tuples : MF := mFn 2 1 b_are_tuples
/-- is_wall -/
def l_is_wall_1 : MS := (mSeq (mIf (mAnd (mTst (mVar 4)) (mAnd (mTst (mOp2 oIn (mVar 9) (mVar 7))) (mTst (mOp2 oNotIn (mVar 8) (mVar 6))))) (mRet (mC (.bl false))) mNext)
    (mIf (mAnd (mNot (mTst (mVar 4))) (mAnd (mTst (mOp2 oIn (mVar 8) (mVar 6))) (mAnd (mTst (mOp2 oNotIn (mVar 9) (mVar 7))) (mTst (mOp2 oNe (mTup (mCons (mVar 8) (mCons (mVar 9) mNil))) (mVar 2)))))) (mRet (mC (.bl false))) mNext))
def e_is_wall_1 : ME := (mOp2 oIx (mVar 10) (mVar 8))
def e_is_wall_2 : ME := (mOp2 oIx (mVar 11) (mVar 9))
def b_is_wall : MS := (mSeq (mIf (mOr (mNot (mTst (mOpN oIsi (mCons (mVar 3) (mCons (mC (.ty "tuple")) mNil))))) (mOr (mTst (mOp2 oNe (mOpN oLen (mCons (mVar 3) mNil)) (mC (.int 3)))) (mOr (mNot (mTst (mOpN oIsi (mCons (mOp2 oIx (mVar 3) (mC (.int 0))) (mCons (mC (.ty "int")) mNil))))) (mTst (mOpN oIsi (mCons (mOp2 oIx (mVar 3) (mC (.int 0))) (mCons (mC (.ty "bool")) mNil))))))) (mRet (mC (.bl false))) mNext)
    (mSeq (mAsg (mgT 3 (mgCons (mgN 5) (mgCons (mgN 6) (mgCons (mgN 7) mgNil)))) (mVar 3))
    (mSeq (mIf (mOr (mNot (mTst (mCall 2 m_are_numbers (mCons (mVar 6) (mCons (mOpN oLen (mCons (mOp2 oIx (mVar 0) (mC (.int 1))) mNil)) mNil))))) (mNot (mTst (mCall 2 m_are_numbers (mCons (mVar 7) (mCons (mOpN oLen (mCons (mOp2 oIx (mVar 0) (mC (.int 2))) mNil)) mNil)))))) (mRet (mC (.bl false))) mNext)
    (mSeq (mIf (mAnd (mNot (mTst (mVar 4))) (mAnd (mTst (mOp2 oEq (mVar 5) (mC (.int 0)))) (mAnd (mTst (mOp2 oEq (mVar 6) (mLst .sh mNil))) (mTst (mOp2 oEq (mVar 7) (mLst .sh mNil)))))) (mRet (mC (.bl true))) mNext)
    (mSeq (mIf (mOr (mTst (mOp2 oNotIn (mOp2 oIx (mVar 2) (mC (.int 0))) (mVar 6))) (mTst (mOp2 oIn (mOp2 oIx (mVar 2) (mC (.int 1))) (mVar 7)))) (mRet (mC (.bl false))) mNext)
    (mSeq (mFor (mItL (mVar 1)) (mgT 2 (mgCons (mgN 8) (mgCons (mgN 9) mgNil))) l_is_wall_1)
    (mSeq (mAsg (mgT 2 (mgCons (mgN 10) (mgCons (mgN 11) mgNil))) (mCall 1 m_rests (mCons (mVar 0) mNil)))
    (mRet (mOp2 oEq (mVar 5) (mOp2 oSub (mOpN oSum (mCons (mComp .sh [8] (mItL (mVar 6)) (mgN 8) mYes e_is_wall_1) mNil)) (mOpN oSum (mCons (mComp .sh [9] (mItL (mVar 7)) (mgN 9) mYes e_is_wall_2) mNil))))))))))))
def m_is_wall : MF := mFn 5 7 b_is_wall
/-- _law_hide_count -/
def b__law_hide_count_v1 : MS := (mSeq (mSet 2 (mCall 2 m__law_mix (mCons (mVar 0) (mCons (mVar 1) mNil))))
    (mSeq (mSet 3 (mOp2 oDiv (mVar 2) (mC (.int 8))))
    (mSeq (mIf (mTst (mOp2 oEq (mOp2 oMod (mOp2 oDiv (mCall 2 m__law_mix (mCons (mVar 0) (mCons (mC (.int 2)) mNil))) (mC (.int 6))) (mC (.int 9))) (mC (.int 0)))) (mRet (mOp2 oAdd (mOp2 oMul (mVar 3) (mOp2 oPow (mC (.int 10)) (mC (.int 11)))) (mOp2 oMod (mVar 3) (mC (.int 7))))) mNext)
    (mSeq (mSet 4 (mSh (mLst .sh (mCons (mC (.int 0)) (mCons (mOp2 oAdd (mC (.int 1)) (mOp2 oMod (mVar 3) (mC (.int 4)))) (mCons (mOp2 oAdd (mC (.int 1)) (mOp2 oMod (mVar 3) (mC (.int 4)))) (mCons (mOp2 oAdd (mC (.int 5)) (mOp2 oMod (mVar 3) (mC (.int 9)))) (mCons (mOp2 oAdd (mC (.int 5)) (mOp2 oMod (mVar 3) (mC (.int 9)))) (mCons (mOp2 oAdd (mC (.int 5)) (mOp2 oMod (mVar 3) (mC (.int 16)))) (mCons (mOp2 oAdd (mC (.int 4)) (mOp2 oMod (mVar 3) (mC (.int 9)))) (mCons (mOp2 oMod (mVar 3) (mC (.int 40))) mNil)))))))))))
    (mRet (mOp2 oIx (mVar 4) (mOp2 oMod (mVar 2) (mC (.int 8)))))))))
def m__law_hide_count_v1 : MF := mFn 2 3 b__law_hide_count_v1
/-- _law_drawn -/
def e__law_drawn_v4_1 : ME := (mCall 2 m__law_hide_count_v1 (mCons (mVar 0) (mCons (mOp2 oAdd (mOp2 oAdd (mC (.int 8)) (mOp2 oMul (mVar 2) (mVar 4))) (mVar 6)) mNil)))
def l__law_drawn_v4_1 : MS := (mApp 3 (mComp .sh [6] (mItR (mCons (mVar 2) mNil)) (mgN 6) mYes e__law_drawn_v4_1))
def b__law_drawn_v4 : MS := (mSeq (mAsg (mgT 2 (mgCons (mgN 1) (mgCons (mgN 2) mgNil))) (mCall 1 m__law_sides (mCons (mVar 0) mNil)))
    (mSeq (mSet 3 (mLst (.ow .sh) mNil))
    (mSeq (mFor (mItR (mCons (mVar 1) mNil)) (mgN 4) l__law_drawn_v4_1)
    (mSeq (mSet 5 (mCall 2 m__law_mix (mCons (mVar 0) (mCons (mC (.int 79)) mNil))))
    (mSeq (mIf (mTst (mOp2 oGt (mOp2 oMod (mVar 5) (mC (.int 4))) (mC (.int 0)))) (mSetG 3 (mOp2 oAdd (mC (.int 1)) (mOp2 oMod (mOp2 oDiv (mVar 5) (mC (.int 4))) (mC (.int 2)))) (mOp2 oMod (mCall 2 m__law_mix (mCons (mVar 0) (mCons (mC (.int 77)) mNil))) (mVar 1)) (mOp2 oMod (mCall 2 m__law_mix (mCons (mVar 0) (mCons (mC (.int 78)) mNil))) (mVar 2))) mNext)
    (mRet (mMov 3)))))))
def m__law_drawn_v4 : MF := mFn 1 6 b__law_drawn_v4
/-- _law_all -/
def e__law_all_v2_1 : ME := (mTup (mCons (mVar 2) (mCons (mVar 3) mNil)))
def l__law_all_v2_1 : MS := (mSet 1 (mSh (mOp2 oCat (mVar 1) (mComp .sh [3] (mItR (mCons (mOpN oLen (mCons (mOp2 oIx (mVar 0) (mC (.int 0))) mNil)) mNil)) (mgN 3) mYes e__law_all_v2_1))))
def b__law_all_v2 : MS := (mSeq (mSet 1 (mSh (mLst .sh mNil)))
    (mSeq (mFor (mItR (mCons (mOpN oLen (mCons (mVar 0) mNil)) mNil)) (mgN 2) l__law_all_v2_1)
    (mRet (mVar 1))))
def m__law_all_v2 : MF := mFn 1 3 b__law_all_v2
/-- _law_column_sums -/
def e__law_column_sums_v2_1 : ME := (mOp2 oIx (mVar 2) (mVar 1))
def e__law_column_sums_v2_2 : ME := (mOpN oSum (mCons (mComp .sh [2] (mItL (mVar 0)) (mgN 2) mYes e__law_column_sums_v2_1) mNil))
def b__law_column_sums_v2 : MS := (mRet (mComp .sh [1] (mItR (mCons (mOpN oLen (mCons (mOp2 oIx (mVar 0) (mC (.int 0))) mNil)) mNil)) (mgN 1) mYes e__law_column_sums_v2_2))
def m__law_column_sums_v2 : MF := mFn 1 2 b__law_column_sums_v2
/-- _law_view -/
def e__law_view_v4_1 : ME := (mOp2 oIx (mSh (mLst .sh (mCons (mOp2 oIx (mOp2 oIx (mVar 0) (mVar 3)) (mVar 4)) (mCons (mC .non) mNil)))) (mOpN oInt (mCons (mOp2 oIn (mTup (mCons (mVar 3) (mCons (mVar 4) mNil))) (mVar 1)) mNil)))
def l__law_view_v4_1 : MS := (mApp 2 (mComp .sh [4] (mItR (mCons (mOpN oLen (mCons (mOp2 oIx (mVar 0) (mC (.int 0))) mNil)) mNil)) (mgN 4) mYes e__law_view_v4_1))
def e__law_view_v4_2 : ME := (mOpN oSum (mCons (mVar 3) mNil))
def b__law_view_v4 : MS := (mSeq (mSet 2 (mLst (.ow .sh) mNil))
    (mSeq (mFor (mItR (mCons (mOpN oLen (mCons (mVar 0) mNil)) mNil)) (mgN 3) l__law_view_v4_1)
    (mRet (mTup (mCons (mMov 2) (mCons (mComp .sh [3] (mItL (mVar 0)) (mgN 3) mYes e__law_view_v4_2) (mCons (mCall 1 m__law_column_sums_v2 (mCons (mVar 0) mNil)) mNil)))))))
def m__law_view_v4 : MF := mFn 2 3 b__law_view_v4
/-- _law_rests -/
def e__law_rests_v3_1 : ME := (mOp2 oIx (mSh (mLst .sh (mCons (mVar 5) (mCons (mC (.int 0)) mNil)))) (mOpN oInt (mCons (mOp2 oIsN (mVar 5) (mC .non)) mNil)))
def e__law_rests_v3_2 : ME := (mComp .sh [5] (mItL (mVar 4)) (mgN 5) mYes e__law_rests_v3_1)
def e__law_rests_v3_3 : ME := (mOp2 oSub (mOp2 oIx (mOp2 oIx (mVar 0) (mC (.int 1))) (mVar 4)) (mOpN oSum (mCons (mOp2 oIx (mVar 1) (mVar 4)) mNil)))
def e__law_rests_v3_4 : ME := (mOp2 oSub (mOp2 oIx (mOp2 oIx (mVar 0) (mC (.int 2))) (mVar 6)) (mOp2 oIx (mVar 3) (mVar 6)))
def b__law_rests_v3 : MS := (mSeq (mSet 1 (mSh (mComp (.ow .sh) [4] (mItL (mOp2 oIx (mVar 0) (mC (.int 0)))) (mgN 4) mYes e__law_rests_v3_2)))
    (mSeq (mSet 2 (mComp .sh [4] (mItR (mCons (mOpN oLen (mCons (mVar 1) mNil)) mNil)) (mgN 4) mYes e__law_rests_v3_3))
    (mSeq (mSet 3 (mSh (mCall 1 m__law_column_sums_v2 (mCons (mVar 1) mNil))))
    (mRet (mTup (mCons (mMov 2) (mCons (mComp .sh [6] (mItR (mCons (mOpN oLen (mCons (mVar 3) mNil)) mNil)) (mgN 6) mYes e__law_rests_v3_4) mNil)))))))
def m__law_rests_v3 : MF := mFn 1 6 b__law_rests_v3
/-- _law_has -/
def l__law_has_v2_1 : MS := (mIf (mOr (mNot (mTst (mCall 1 m__law_whole (mCons (mVar 4) mNil)))) (mOr (mTst (mOp2 oLt (mVar 4) (mC (.int 0)))) (mAnd (mTst (mOp2 oNotN (mVar 5) (mC .non))) (mTst (mOp2 oNe (mVar 5) (mVar 4)))))) (mRet (mC (.bl false))) mNext)
def l__law_has_v2_2 : MS := (mSeq (mIf (mOr (mNot (mTst (mOpN oIsi (mCons (mVar 2) (mCons (mC (.ty "list")) mNil))))) (mTst (mOp2 oNe (mOpN oLen (mCons (mVar 2) mNil)) (mOpN oLen (mCons (mVar 3) mNil))))) (mRet (mC (.bl false))) mNext)
    (mFor (mItZ (mCons (mVar 2) (mCons (mVar 3) mNil))) (mgT 2 (mgCons (mgN 4) (mgCons (mgN 5) mgNil))) l__law_has_v2_1))
def e__law_has_v2_1 : ME := (mOpN oSum (mCons (mVar 2) mNil))
def b__law_has_v2 : MS := (mSeq (mIf (mOr (mNot (mTst (mOpN oIsi (mCons (mVar 0) (mCons (mC (.ty "list")) mNil))))) (mTst (mOp2 oNe (mOpN oLen (mCons (mVar 0) mNil)) (mOpN oLen (mCons (mOp2 oIx (mVar 1) (mC (.int 0))) mNil))))) (mRet (mC (.bl false))) mNext)
    (mSeq (mFor (mItZ (mCons (mVar 0) (mCons (mOp2 oIx (mVar 1) (mC (.int 0))) mNil))) (mgT 2 (mgCons (mgN 2) (mgCons (mgN 3) mgNil))) l__law_has_v2_2)
    (mRet (mAndV (mOp2 oEq (mComp .sh [2] (mItL (mVar 0)) (mgN 2) mYes e__law_has_v2_1) (mOp2 oIx (mVar 1) (mC (.int 1)))) (mOp2 oEq (mCall 1 m__law_column_sums_v2 (mCons (mVar 0) mNil)) (mOp2 oIx (mVar 1) (mC (.int 2))))))))
def m__law_has_v2 : MF := mFn 2 4 b__law_has_v2
/-- _law_gap -/
def e__law_gap_v1_1 : ME := (mOp2 oIx (mVar 3) (mVar 5))
def e__law_gap_v1_2 : ME := (mOp2 oIx (mVar 4) (mVar 6))
def b__law_gap_v1 : MS := (mSeq (mAsg (mgT 2 (mgCons (mgN 3) (mgCons (mgN 4) mgNil))) (mCall 1 m__law_rests_v3 (mCons (mVar 0) mNil)))
    (mRet (mOp2 oSub (mOpN oSum (mCons (mComp .sh [5] (mItL (mVar 1)) (mgN 5) mYes e__law_gap_v1_1) mNil)) (mOpN oSum (mCons (mComp .sh [6] (mItL (mVar 2)) (mgN 6) mYes e__law_gap_v1_2) mNil)))))
def m__law_gap_v1 : MF := mFn 3 4 b__law_gap_v1
/-- _law_fence -/
def l__law_fence_v1_1 : MS := (mSeq (mIf (mAnd (mTst (mVar 3)) (mAnd (mTst (mOp2 oIn (mVar 8) (mVar 6))) (mTst (mOp2 oNotIn (mVar 7) (mVar 5))))) (mRet (mC (.bl false))) mNext)
    (mIf (mAnd (mNot (mTst (mVar 3))) (mAnd (mTst (mOp2 oIn (mVar 7) (mVar 5))) (mAnd (mTst (mOp2 oNotIn (mVar 8) (mVar 6))) (mTst (mOp2 oNe (mTup (mCons (mVar 7) (mCons (mVar 8) mNil))) (mVar 1)))))) (mRet (mC (.bl false))) mNext))
def b__law_fence_v1 : MS := (mSeq (mIf (mOr (mNot (mTst (mOpN oIsi (mCons (mVar 2) (mCons (mC (.ty "tuple")) mNil))))) (mOr (mTst (mOp2 oNe (mOpN oLen (mCons (mVar 2) mNil)) (mC (.int 3)))) (mNot (mTst (mCall 1 m__law_whole (mCons (mOp2 oIx (mVar 2) (mC (.int 0))) mNil)))))) (mRet (mC (.bl false))) mNext)
    (mSeq (mAsg (mgT 3 (mgCons (mgN 4) (mgCons (mgN 5) (mgCons (mgN 6) mgNil)))) (mVar 2))
    (mSeq (mIf (mOr (mNot (mTst (mCall 2 m__law_numbers (mCons (mVar 5) (mCons (mOpN oLen (mCons (mOp2 oIx (mVar 0) (mC (.int 1))) mNil)) mNil))))) (mNot (mTst (mCall 2 m__law_numbers (mCons (mVar 6) (mCons (mOpN oLen (mCons (mOp2 oIx (mVar 0) (mC (.int 2))) mNil)) mNil)))))) (mRet (mC (.bl false))) mNext)
    (mSeq (mIf (mAnd (mNot (mTst (mVar 3))) (mTst (mOp2 oEq (mVar 2) (mTup (mCons (mC (.int 0)) (mCons (mLst .sh mNil) (mCons (mLst .sh mNil) mNil))))))) (mRet (mC (.bl true))) mNext)
    (mSeq (mIf (mOr (mTst (mOp2 oNotIn (mOp2 oIx (mVar 1) (mC (.int 0))) (mVar 5))) (mTst (mOp2 oIn (mOp2 oIx (mVar 1) (mC (.int 1))) (mVar 6)))) (mRet (mC (.bl false))) mNext)
    (mSeq (mFor (mItL (mCall 1 m__law_hidden (mCons (mVar 0) mNil))) (mgT 2 (mgCons (mgN 7) (mgCons (mgN 8) mgNil))) l__law_fence_v1_1)
    (mRet (mOp2 oEq (mVar 4) (mCall 3 m__law_gap_v1 (mCons (mVar 0) (mCons (mVar 5) (mCons (mVar 6) mNil))))))))))))
def m__law_fence_v1 : MF := mFn 4 5 b__law_fence_v1
/-- _law_pair -/
def b__law_pair_v1 : MS := (mSeq (mIf (mOr (mNot (mTst (mOpN oIsi (mCons (mVar 2) (mCons (mC (.ty "tuple")) mNil))))) (mOr (mTst (mOp2 oNe (mOpN oLen (mCons (mVar 2) mNil)) (mC (.int 3)))) (mNot (mTst (mOpN oIsi (mCons (mOp2 oIx (mVar 2) (mC (.int 1))) (mCons (mC (.ty "list")) mNil))))))) (mRet (mC (.bl false))) mNext)
    (mSeq (mSet 4 (mSh (mCall 2 m__law_view_v4 (mCons (mVar 0) (mCons (mVar 1) mNil)))))
    (mSeq (mIf (mOr (mNot (mTst (mCall 2 m__law_has_v2 (mCons (mOp2 oIx (mVar 2) (mC (.int 1))) (mCons (mVar 4) mNil))))) (mNot (mTst (mCall 2 m__law_has_v2 (mCons (mOp2 oIx (mVar 2) (mC (.int 2))) (mCons (mVar 4) mNil)))))) (mRet (mC (.bl false))) mNext)
    (mSeq (mAsg (mgT 2 (mgCons (mgN 5) (mgCons (mgN 6) mgNil))) (mOp2 oIx (mVar 2) (mC (.int 0))))
    (mSeq (mSet 7 (mOp2 oIx (mOp2 oIx (mOp2 oIx (mVar 2) (mC (.int 1))) (mVar 5)) (mVar 6)))
    (mRet (mOp2 oGe (mOpN oAbs (mCons (mOp2 oSub (mVar 7) (mOp2 oIx (mOp2 oIx (mOp2 oIx (mVar 2) (mC (.int 2))) (mVar 5)) (mVar 6))) mNil)) (mVar 3))))))))
def m__law_pair_v1 : MF := mFn 4 4 b__law_pair_v1
/-- _law_keyed -/
def l__law_keyed_1 : MS := (mSeq (mIf (mOr (mNot (mTst (mOpN oIsi (mCons (mVar 3) (mCons (mC (.ty "tuple")) mNil))))) (mTst (mOp2 oNe (mOpN oLen (mCons (mVar 3) mNil)) (mVar 1)))) (mRet (mC (.bl false))) mNext)
    (mIf (mOr (mNot (mTst (mCall 1 m__law_is_place (mCons (mOp2 oIx (mVar 3) (mC (.int 0))) mNil)))) (mTst (mOp2 oNe (mOp2 oIx (mVar 3) (mC (.int 0))) (mVar 4)))) (mRet (mC (.bl false))) mNext))
def b__law_keyed : MS := (mSeq (mIf (mOr (mNot (mTst (mOpN oIsi (mCons (mVar 0) (mCons (mC (.ty "list")) mNil))))) (mTst (mOp2 oNe (mOpN oLen (mCons (mVar 0) mNil)) (mOpN oLen (mCons (mVar 2) mNil))))) (mRet (mC (.bl false))) mNext)
    (mSeq (mFor (mItZ (mCons (mVar 0) (mCons (mVar 2) mNil))) (mgT 2 (mgCons (mgN 3) (mgCons (mgN 4) mgNil))) l__law_keyed_1)
    (mRet (mC (.bl true)))))
def m__law_keyed : MF := mFn 3 2 b__law_keyed
/-- _law_true -/
def b__law_true : MS := (mSeq (mIf (mAnd (mTst (mOpN oIsi (mCons (mVar 0) (mCons (mC (.ty "tuple")) mNil)))) (mAnd (mTst (mCall 1 m__law_whole (mCons (mOp2 oIx (mVar 0) (mC (.int 0))) mNil))) (mTst (mOp2 oLt (mOp2 oIx (mVar 0) (mC (.int 0))) (mC (.int 2)))))) (mRet (mOp2 oCat (mTup (mCons (mOp2 oEq (mOp2 oIx (mVar 0) (mC (.int 0))) (mC (.int 1))) mNil)) (mSl (mVar 0) (mOSome (mC (.int 1))) mONo))) mNext)
    (mRet (mVar 0)))
def m__law_true : MF := mFn 1 0 b__law_true
/-- _law_row -/
def b__law_row_v1 : MS := (mSeq (mIf (mTst (mOp2 oEq (mVar 0) (mLst .sh mNil))) (mRet (mLst .sh (mCons (mTup (mCons (mC (.int 0)) (mCons (mC (.int 0)) mNil))) mNil))) mNext)
    (mSeq (mSet 2 (mOp2 oMod (mOp2 oDiv (mVar 1) (mC (.int 8))) (mOpN oLen (mCons (mVar 0) mNil))))
    (mSeq (mSet 3 (mSh (mLst (.ow .sh) (mCons (mOp2 oCat (mSl (mVar 0) mONo (mOSome (mVar 2))) (mSl (mVar 0) (mOSome (mOp2 oAdd (mVar 2) (mC (.int 1)))) mONo)) (mCons (mOp2 oCat (mOp2 oCat (mSl (mVar 0) mONo (mOSome (mVar 2))) (mLst .sh (mCons (mOp2 oIx (mVar 0) (mVar 2)) mNil))) (mSl (mVar 0) (mOSome (mVar 2)) mONo)) mNil)))))
    (mSeq (mSet 3 (mSh (mOp2 oCat (mVar 3) (mLst (.ow .sh) (mCons (mOp2 oCat (mSl (mVar 0) (mOSome (mC (.int 1))) mONo) (mSl (mVar 0) mONo (mOSome (mC (.int 1))))) (mCons (mOp2 oCat (mVar 0) (mLst .sh (mCons (mTup (mCons (mC (.int 0)) (mCons (mC (.int 0)) mNil))) mNil))) (mCons (mOp2 oCat (mOp2 oCat (mSl (mVar 0) mONo (mOSome (mVar 2))) (mLst (.ow .sh) (mCons (mCall 1 m__law_true (mCons (mOp2 oIx (mVar 0) (mVar 2)) mNil)) mNil))) (mSl (mVar 0) (mOSome (mOp2 oAdd (mVar 2) (mC (.int 1)))) mONo)) mNil)))))))
    (mRet (mOp2 oIx (mVar 3) (mOp2 oMod (mVar 1) (mC (.int 5)))))))))
def m__law_row_v1 : MF := mFn 2 2 b__law_row_v1
/-- _law_beyond -/
def e__law_beyond_1 : ME := (mOp2 oAdd (mVar 6) (mOp2 oMul (mVar 2) (mOp2 oSub (mVar 6) (mVar 7))))
def l__law_beyond_1 : MS := (mApp 3 (mComp .sh [6, 7] (mItZ (mCons (mVar 4) (mCons (mVar 5) mNil))) (mgT 2 (mgCons (mgN 6) (mgCons (mgN 7) mgNil))) mYes e__law_beyond_1))
def b__law_beyond : MS := (mSeq (mSet 3 (mLst (.ow .sh) mNil))
    (mSeq (mFor (mItZ (mCons (mVar 0) (mCons (mVar 1) mNil))) (mgT 2 (mgCons (mgN 4) (mgCons (mgN 5) mgNil))) l__law_beyond_1)
    (mRet (mMov 3))))
def m__law_beyond : MF := mFn 3 5 b__law_beyond
/-- _law_pair_by -/
def e__law_pair_by_1 : ME := (mOpN oTuple (mCons (mVar 5) mNil))
def e__law_pair_by_2 : ME := (mOp2 oIx (mSh (mLst .sh (mCons (mVar 6) (mCons (mC (.bl true)) mNil)))) (mOpN oInt (mCons (mOp2 oEq (mVar 6) (mC (.int 1))) mNil)))
def e__law_pair_by_3 : ME := (mComp .sh [6] (mItL (mVar 5)) (mgN 6) mYes e__law_pair_by_2)
def b__law_pair_by : MS := (mSeq (mSet 2 (mSh (mLst .sh (mCons (mTup (mCons (mOp2 oIx (mVar 0) (mC (.int 0))) (mCons (mOp2 oIx (mVar 0) (mC (.int 2))) (mCons (mOp2 oIx (mVar 0) (mC (.int 1))) mNil)))) (mCons (mTup (mCons (mOp2 oIx (mVar 0) (mC (.int 0))) (mCons (mOp2 oIx (mVar 0) (mC (.int 1))) (mCons (mOp2 oIx (mVar 0) (mC (.int 1))) mNil)))) (mCons (mTup (mCons (mOp2 oIx (mVar 0) (mC (.int 0))) (mCons (mOp2 oIx (mVar 0) (mC (.int 1))) mNil))) (mCons (mSh (mOpN oList (mCons (mVar 0) mNil))) mNil)))))))
    (mSeq (mSet 2 (mSh (mOp2 oCat (mVar 2) (mLst .sh (mCons (mSh (mTup (mCons (mOp2 oIx (mVar 0) (mC (.int 0))) (mCons (mOp2 oCat (mSl (mOp2 oIx (mVar 0) (mC (.int 1))) (mOSome (mC (.int 1))) mONo) (mSl (mOp2 oIx (mVar 0) (mC (.int 1))) mONo (mOSome (mC (.int 1))))) (mCons (mOp2 oIx (mVar 0) (mC (.int 2))) mNil))))) (mCons (mTup (mCons (mOp2 oIx (mVar 0) (mC (.int 0))) (mCons (mOp2 oIx (mVar 0) (mC (.int 1))) (mCons (mOpN oTuple (mCons (mOp2 oIx (mVar 0) (mC (.int 2))) mNil)) mNil)))) mNil))))))
    (mSeq (mSet 2 (mSh (mOp2 oCat (mVar 2) (mLst (.tp [.sh, .sh, (.ow .sh)]) (mCons (mTup (mCons (mOp2 oIx (mVar 0) (mC (.int 0))) (mCons (mOp2 oIx (mVar 0) (mC (.int 1))) (mCons (mOp2 oCat (mSl (mOp2 oIx (mVar 0) (mC (.int 2))) (mOSome (mC (.int 1))) mONo) (mSl (mOp2 oIx (mVar 0) (mC (.int 2))) mONo (mOSome (mC (.int 1))))) mNil)))) mNil)))))
    (mSeq (mSet 3 (mSh (mCall 3 m__law_beyond (mCons (mOp2 oIx (mVar 0) (mC (.int 1))) (mCons (mOp2 oIx (mVar 0) (mC (.int 2))) (mCons (mOp2 oAdd (mC (.int 1)) (mOp2 oMod (mOp2 oDiv (mVar 1) (mC (.int 64))) (mC (.int 9)))) mNil))))))
    (mSeq (mSet 2 (mSh (mOp2 oCat (mVar 2) (mLst .sh (mCons (mTup (mCons (mOp2 oIx (mVar 0) (mC (.int 0))) (mCons (mVar 3) (mCons (mOp2 oIx (mVar 0) (mC (.int 2))) mNil)))) (mCons (mTup (mCons (mOp2 oIx (mVar 0) (mC (.int 0))) (mCons (mOp2 oIx (mVar 0) (mC (.int 1))) (mCons (mVar 3) mNil)))) (mCons (mSh (mOp2 oCat (mTup (mCons (mCall 1 m__law_true (mCons (mOp2 oIx (mVar 0) (mC (.int 0))) mNil)) mNil)) (mSl (mVar 0) (mOSome (mC (.int 1))) mONo))) mNil)))))))
    (mSeq (mSet 2 (mSh (mOp2 oCat (mVar 2) (mLst (.tp [.sh, (.ow .sh), .sh]) (mCons (mTup (mCons (mOp2 oIx (mVar 0) (mC (.int 0))) (mCons (mComp .sh [5] (mItL (mOp2 oIx (mVar 0) (mC (.int 1)))) (mgN 5) mYes e__law_pair_by_1) (mCons (mOp2 oIx (mVar 0) (mC (.int 2))) mNil)))) mNil)))))
    (mSeq (mSet 4 (mComp (.ow .sh) [5] (mItL (mOp2 oIx (mVar 0) (mC (.int 2)))) (mgN 5) mYes e__law_pair_by_3))
    (mSeq (mSet 2 (mSh (mOp2 oCat (mVar 2) (mLst .sh (mCons (mTup (mCons (mOp2 oIx (mVar 0) (mC (.int 0))) (mCons (mOp2 oIx (mVar 0) (mC (.int 1))) (mCons (mFrz 4) mNil)))) mNil)))))
    (mRet (mOp2 oIx (mVar 2) (mOp2 oMod (mVar 1) (mC (.int 12)))))))))))))
def m__law_pair_by : MF := mFn 2 5 b__law_pair_by
/-- _law_spoilt -/
def e__law_spoilt_v2_1 : ME := (mTup (mCons (mVar 9) (mCons (mVar 11) (mCons (mVar 10) mNil))))
def s__law_spoilt_v2_1 : MS := (mSet 3 (mOpN oMax2 (mCons (mC (.int 0)) (mCons (mOp2 oSub (mOp2 oMod (mCall 2 m__law_mix (mCons (mVar 0) (mCons (mVar 1) mNil))) (mC (.int 12))) (mC (.int 2))) mNil))))
def s__law_spoilt_v2_2 : MS := (mSet 4 (mCall 2 m__law_mix (mCons (mVar 0) (mCons (mOp2 oAdd (mVar 1) (mC (.int 1))) mNil))))
def s__law_spoilt_v2_3 : MS := (mSet 5 (mOpN oList (mCons (mVar 2) mNil)))
def s__law_spoilt_v2_4 : MS := (mIf (mTst (mOp2 oEq (mVar 3) (mC (.int 0)))) (mRet (mVar 2)) mNext)
def s__law_spoilt_v2_5 : MS := (mIf (mTst (mOp2 oEq (mVar 3) (mC (.int 1)))) (mSeq (mSetI 5 (mSh (mComp .sh [9, 10, 11] (mItL (mOp2 oIx (mVar 2) (mC (.int 2)))) (mgT 3 (mgCons (mgN 9) (mgCons (mgN 10) (mgCons (mgN 11) mgNil)))) mYes e__law_spoilt_v2_1)) (mC (.int 2)))
    (mRet (mOpN oTuple (mCons (mVar 5) mNil)))) mNext)
def s__law_spoilt_v2_6 : MS := (mIf (mAnd (mTst (mOp2 oLt (mVar 3) (mC (.int 7)))) (mTst (mOp2 oNe (mOp2 oIx (mVar 2) (mC (.int 2))) (mLst .sh mNil)))) (mSeq (mSet 6 (mOp2 oMod (mVar 4) (mOpN oLen (mCons (mOp2 oIx (mVar 2) (mC (.int 2))) mNil))))
    (mSeq (mSet 7 (mCall 2 m__law_pair_by (mCons (mOp2 oIx (mOp2 oIx (mVar 2) (mC (.int 2))) (mVar 6)) (mCons (mCall 2 m__law_mix (mCons (mVar 0) (mCons (mOp2 oAdd (mVar 1) (mC (.int 2))) mNil))) mNil))))
    (mSetI 5 (mSh (mOp2 oCat (mOp2 oCat (mSl (mOp2 oIx (mVar 2) (mC (.int 2))) mONo (mOSome (mVar 6))) (mLst .sh (mCons (mVar 7) mNil))) (mSl (mOp2 oIx (mVar 2) (mC (.int 2))) (mOSome (mOp2 oAdd (mVar 6) (mC (.int 1)))) mONo))) (mC (.int 2))))) (mIf (mTst (mOp2 oEq (mVar 3) (mC (.int 7)))) (mSetI 5 (mSh (mCall 2 m__law_row_v1 (mCons (mIxO 5 (mOp2 oMod (mVar 4) (mC (.int 4)))) (mCons (mOp2 oDiv (mVar 4) (mC (.int 4))) mNil)))) (mOp2 oMod (mVar 4) (mC (.int 4)))) (mIf (mTst (mOp2 oGt (mOp2 oMod (mOp2 oDiv (mVar 4) (mC (.int 4096))) (mC (.int 3))) (mC (.int 0)))) (mSetI 5 (mOp2 oIx (mSh (mLst .sh (mCons (mC .non) (mCons (mOpN oTuple (mCons (mIxO 5 (mOp2 oMod (mVar 4) (mC (.int 4)))) mNil)) (mCons (mSh (mLst .sh mNil)) (mCons (mC (.dK [] [])) (mCons (mC (.int 7)) (mCons (mSh (mLst .sh (mCons (mC .non) mNil))) (mCons (mSh (mLst .sh (mCons (mTup mNil) mNil))) (mCons (mC (.str "veil")) mNil)))))))))) (mOp2 oMod (mOp2 oDiv (mVar 4) (mC (.int 4))) (mC (.int 8)))) (mOp2 oMod (mVar 4) (mC (.int 4)))) (mSeq (mSetI 5 (mOp2 oIx (mVar 2) (mC (.int 1))) (mC (.int 0)))
    (mSetI 5 (mOp2 oIx (mVar 2) (mC (.int 0))) (mC (.int 1)))))))
def s__law_spoilt_v2_7 : MS := (mSet 8 (mSh (mOp2 oCat (mLst .sh (mCons (mFrz 5) (mCons (mC .non) (mCons (mSh (mSl (mOpN oTuple (mCons (mVar 5) mNil)) mONo (mOSome (mC (.int 3))))) mNil)))) (mOp2 oRep (mLst .sh (mCons (mOpN oTuple (mCons (mVar 5) mNil)) mNil)) (mC (.int 9))))))
def s__law_spoilt_v2_8 : MS := (mRet (mOp2 oIx (mVar 8) (mOp2 oMod (mOp2 oDiv (mVar 4) (mC (.int 64))) (mC (.int 12)))))
def b__law_spoilt_v2 : MS := (mSeq s__law_spoilt_v2_1
    (mSeq s__law_spoilt_v2_2
    (mSeq s__law_spoilt_v2_3
    (mSeq s__law_spoilt_v2_4
    (mSeq s__law_spoilt_v2_5
    (mSeq s__law_spoilt_v2_6
    (mSeq s__law_spoilt_v2_7
    s__law_spoilt_v2_8)))))))
def m__law_spoilt_v2 : MF := mFn 3 9 b__law_spoilt_v2
/-- _law_sides -/
def b__law_sides_v1 : MS := (mSeq (mSet 1 (mCall 2 m__law_mix (mCons (mVar 0) (mCons (mC (.int 5)) mNil))))
    (mSeq (mSet 2 (mOp2 oAdd (mC (.int 2)) (mOp2 oMod (mCall 2 m__law_mix (mCons (mVar 0) (mCons (mC (.int 0)) mNil))) (mC (.int 2)))))
    (mSeq (mSet 3 (mOp2 oAdd (mC (.int 2)) (mOp2 oMod (mCall 2 m__law_mix (mCons (mVar 0) (mCons (mC (.int 1)) mNil))) (mC (.int 2)))))
    (mSeq (mIf (mTst (mOp2 oEq (mOp2 oMod (mOp2 oDiv (mVar 1) (mC (.int 64))) (mC (.int 9))) (mC (.int 0)))) (mAsg (mgT 2 (mgCons (mgN 2) (mgCons (mgN 3) mgNil))) (mOp2 oIx (mSh (mLst .sh (mCons (mTup (mCons (mC (.int 1)) (mCons (mVar 3) mNil))) (mCons (mTup (mCons (mVar 2) (mCons (mC (.int 1)) mNil))) mNil)))) (mOp2 oMod (mOp2 oDiv (mVar 1) (mC (.int 576))) (mC (.int 2))))) mNext)
    (mRet (mTup (mCons (mVar 2) (mCons (mVar 3) mNil))))))))
def m__law_sides_v1 : MF := mFn 1 3 b__law_sides_v1
/-- _law_width -/
def b__law_width_v3 : MS := (mSeq (mSet 2 (mCall 2 m__law_mix (mCons (mVar 0) (mCons (mC (.int 4)) mNil))))
    (mSeq (mSet 3 (mOp2 oDiv (mVar 2) (mC (.int 8))))
    (mSeq (mIf (mTst (mOp2 oGt (mOp2 oMul (mOpN oLen (mCons (mVar 1) mNil)) (mOpN oLen (mCons (mOp2 oIx (mVar 1) (mC (.int 0))) mNil))) (mC (.int 6)))) (mRet (mOp2 oAdd (mC (.int 1)) (mOp2 oMod (mVar 3) (mC (.int 3))))) mNext)
    (mRet (mOp2 oAdd (mC (.int 1)) (mOp2 oIx (mSh (mLst .sh (mCons (mOp2 oMod (mVar 3) (mC (.int 3))) (mCons (mOp2 oMod (mVar 3) (mC (.int 3))) (mCons (mOp2 oMod (mVar 3) (mC (.int 3))) (mCons (mOp2 oMod (mVar 3) (mC (.int 2))) (mCons (mOp2 oMod (mVar 3) (mC (.int 5))) (mCons (mOp2 oMod (mVar 3) (mC (.int 8))) (mCons (mOp2 oMod (mVar 3) (mC (.int 60))) (mCons (mOp2 oMod (mVar 3) (mOp2 oPow (mC (.int 10)) (mC (.int 9)))) mNil)))))))))) (mOp2 oMod (mVar 2) (mC (.int 8)))))))))
def m__law_width_v3 : MF := mFn 2 2 b__law_width_v3
/-- _law_without -/
def t__law_without_1 : MT := (mTst (mOp2 oNe (mVar 2) (mVar 1)))
def e__law_without_1 : ME := (mVar 2)
def b__law_without : MS := (mRet (mComp .sh [2] (mItL (mVar 0)) (mgN 2) t__law_without_1 e__law_without_1))
def m__law_without : MF := mFn 2 1 b__law_without
/-- _law_hide_count -/
def b__law_hide_count_v2 : MS := (mSeq (mSet 2 (mCall 2 m__law_mix (mCons (mVar 0) (mCons (mVar 1) mNil))))
    (mSeq (mSet 3 (mOp2 oDiv (mVar 2) (mC (.int 8))))
    (mSeq (mIf (mTst (mOp2 oEq (mOp2 oMod (mOp2 oDiv (mCall 2 m__law_mix (mCons (mVar 0) (mCons (mC (.int 2)) mNil))) (mC (.int 6))) (mC (.int 9))) (mC (.int 0)))) (mRet (mOp2 oAdd (mOp2 oMul (mVar 3) (mOp2 oPow (mC (.int 10)) (mC (.int 11)))) (mOp2 oMod (mVar 3) (mC (.int 7))))) mNext)
    (mSeq (mSet 4 (mSh (mLst .sh (mCons (mC (.int 0)) (mCons (mOp2 oAdd (mC (.int 1)) (mOp2 oMod (mVar 3) (mC (.int 4)))) (mCons (mOp2 oAdd (mC (.int 1)) (mOp2 oMod (mVar 3) (mC (.int 4)))) (mCons (mOp2 oAdd (mC (.int 5)) (mOp2 oMod (mVar 3) (mC (.int 9)))) (mCons (mOp2 oAdd (mC (.int 5)) (mOp2 oMod (mVar 3) (mC (.int 9)))) (mCons (mOp2 oAdd (mC (.int 5)) (mOp2 oMod (mVar 3) (mC (.int 16)))) (mCons (mOp2 oAdd (mC (.int 4)) (mOp2 oMod (mVar 3) (mC (.int 9)))) (mCons (mOp2 oMod (mVar 3) (mC (.int 40))) mNil)))))))))))
    (mRet (mOp2 oIx (mVar 4) (mOp2 oMod (mVar 2) (mC (.int 8)))))))))
def m__law_hide_count_v2 : MF := mFn 2 3 b__law_hide_count_v2
/-- _law_has -/
def l__law_has_v3_1 : MS := (mIf (mOr (mNot (mTst (mCall 1 m__law_whole (mCons (mVar 4) mNil)))) (mOr (mTst (mOp2 oLt (mVar 4) (mC (.int 0)))) (mAnd (mTst (mOp2 oNotN (mVar 5) (mC .non))) (mTst (mOp2 oNe (mVar 5) (mVar 4)))))) (mRet (mC (.bl false))) mNext)
def l__law_has_v3_2 : MS := (mSeq (mIf (mOr (mNot (mTst (mOpN oIsi (mCons (mVar 2) (mCons (mC (.ty "list")) mNil))))) (mTst (mOp2 oNe (mOpN oLen (mCons (mVar 2) mNil)) (mOpN oLen (mCons (mVar 3) mNil))))) (mRet (mC (.bl false))) mNext)
    (mFor (mItZ (mCons (mVar 2) (mCons (mVar 3) mNil))) (mgT 2 (mgCons (mgN 4) (mgCons (mgN 5) mgNil))) l__law_has_v3_1))
def e__law_has_v3_1 : ME := (mOpN oSum (mCons (mVar 2) mNil))
def b__law_has_v3 : MS := (mSeq (mIf (mOr (mNot (mTst (mOpN oIsi (mCons (mVar 0) (mCons (mC (.ty "list")) mNil))))) (mTst (mOp2 oNe (mOpN oLen (mCons (mVar 0) mNil)) (mOpN oLen (mCons (mOp2 oIx (mVar 1) (mC (.int 0))) mNil))))) (mRet (mC (.bl false))) mNext)
    (mSeq (mFor (mItZ (mCons (mVar 0) (mCons (mOp2 oIx (mVar 1) (mC (.int 0))) mNil))) (mgT 2 (mgCons (mgN 2) (mgCons (mgN 3) mgNil))) l__law_has_v3_2)
    (mRet (mAndV (mOp2 oEq (mComp .sh [2] (mItL (mVar 0)) (mgN 2) mYes e__law_has_v3_1) (mOp2 oIx (mVar 1) (mC (.int 1)))) (mOp2 oEq (mCall 1 m__law_column_sums_v1 (mCons (mVar 0) mNil)) (mOp2 oIx (mVar 1) (mC (.int 2))))))))
def m__law_has_v3 : MF := mFn 2 4 b__law_has_v3
/-- _law_pair -/
def b__law_pair_v2 : MS := (mSeq (mIf (mOr (mNot (mTst (mOpN oIsi (mCons (mVar 2) (mCons (mC (.ty "tuple")) mNil))))) (mOr (mTst (mOp2 oNe (mOpN oLen (mCons (mVar 2) mNil)) (mC (.int 3)))) (mNot (mTst (mOpN oIsi (mCons (mOp2 oIx (mVar 2) (mC (.int 1))) (mCons (mC (.ty "list")) mNil))))))) (mRet (mC (.bl false))) mNext)
    (mSeq (mSet 4 (mSh (mCall 2 m__law_view_v3 (mCons (mVar 0) (mCons (mVar 1) mNil)))))
    (mSeq (mIf (mOr (mNot (mTst (mCall 2 m__law_has_v3 (mCons (mOp2 oIx (mVar 2) (mC (.int 1))) (mCons (mVar 4) mNil))))) (mNot (mTst (mCall 2 m__law_has_v3 (mCons (mOp2 oIx (mVar 2) (mC (.int 2))) (mCons (mVar 4) mNil)))))) (mRet (mC (.bl false))) mNext)
    (mSeq (mAsg (mgT 2 (mgCons (mgN 5) (mgCons (mgN 6) mgNil))) (mOp2 oIx (mVar 2) (mC (.int 0))))
    (mSeq (mSet 7 (mOp2 oIx (mOp2 oIx (mOp2 oIx (mVar 2) (mC (.int 1))) (mVar 5)) (mVar 6)))
    (mRet (mOp2 oGe (mOpN oAbs (mCons (mOp2 oSub (mVar 7) (mOp2 oIx (mOp2 oIx (mOp2 oIx (mVar 2) (mC (.int 2))) (mVar 5)) (mVar 6))) mNil)) (mVar 3))))))))
def m__law_pair_v2 : MF := mFn 4 4 b__law_pair_v2
/-- _law_some -/
def t__law_some_1 : MT := (mTst (mOp2 oGt (mOp2 oMod (mOp2 oMod (mOp2 oMul (mOp2 oAdd (mVar 1) (mOp2 oMul (mVar 2) (mC (.int 977)))) (mC (.int 48271))) (mC (.int 7919))) (mC (.int 3))) (mC (.int 0))))
def e__law_some_1 : ME := (mVar 2)
def b__law_some : MS := (mRet (mComp .sh [2] (mItR (mCons (mVar 0) mNil)) (mgN 2) t__law_some_1 e__law_some_1))
def m__law_some : MF := mFn 2 1 b__law_some
/-- _law_widest -/
def e__law_widest_1 : ME := (mOp2 oSub (mOp2 oIx (mOp2 oIx (mVar 4) (mC (.int 2))) (mC (.int 0))) (mOp2 oIx (mOp2 oIx (mVar 4) (mC (.int 1))) (mC (.int 0))))
def l__law_widest_1 : MS := (mSet 1 (mSh (mOp2 oCat (mVar 1) (mComp .sh [4] (mItL (mVar 3)) (mgN 4) mYes e__law_widest_1))))
def b__law_widest : MS := (mSeq (mSet 1 (mSh (mLst .sh (mCons (mC (.int 1)) mNil))))
    (mSeq (mFor (mItL (mOp2 oIx (mVar 0) (mC (.int 3)))) (mgT 2 (mgCons (mgN 2) (mgCons (mgN 3) mgNil))) l__law_widest_1)
    (mRet (mOpN oMax (mCons (mVar 1) mNil)))))
def m__law_widest : MF := mFn 1 4 b__law_widest
end Ve

set_option Elab.async false
set_option linter.all false
set_option maxRecDepth 100000
set_option maxHeartbeats 1000000
namespace Ve
open PySem L2
/-! ## draws -/
theorem mix_ok {ns : List Int} {k : Int} (hn : ns.length ≤ 63) (hk : 0 ≤ k) : m__law_mix [.fz ns, .int k] = some (.ok (.int (mix ns k), .sh)) := by
  cases hns : ns with
  | nil =>
    simp [mFn, mSeq, mSet, mRet, mDrop, mIf, mNext, mPass, sE, sT, putM, keepD, bnd, ret, lft, mC, mVar, mMov, mFrz, mSh, mOp2, mOp1, mOpN, mNil, mCons, mTst, mAnd, mOr, mNot, mAndV, mOrV, mNotV, mIfE, mYes_ap, mONo, mOSome, mCall, back, backO, backE, isSh, nbB_cons, nbB_nil, nb_none, nb_some, Md.nb, Md.nbs, Md.beq, Md.beqs, D.atm, D.atms, oI, oAdd, oSub, oMul, oDiv, oMod, oPow, oLt, oLe, oGt, oGe, oNeg, oIx, oLen, intOf, mChain, mLst, mTup, mgN, forT, compT, wipeS, itMd, elSh, D.isN, oIsN, oNotN, Md.okB, Md.okBs, lim1, lim2, lim3, lim4, lim0', m__law_mix, b__law_mix, mulOk_7919, mulOk_48271, mulOk_mod, mix, mixN, mixC]
  | cons c ms =>
    have hp : (0 : Int) < (ms.length : Int) + 1 := by omega
    have hp2 : (ms.length : Int) + 1 < 1073741824 := by rw [hns] at hn; simp at hn; omega
    have h0 : 0 ≤ k % ((ms.length : Int) + 1) := Int.emod_nonneg _ (by omega)
    have h1 : k % ((ms.length : Int) + 1) < ((c :: ms).length : Int) := by
      have := Int.emod_lt_of_pos k hp
      simpa using this
    have ha : atI (c :: ms) (k % ((ms.length : Int) + 1)) = some ((c :: ms).getD (k % ((ms.length : Int) + 1)).toNat 0) := atI_get' h0 h1
    simp [mFn, mSeq, mSet, mRet, mDrop, mIf, mNext, mPass, sE, sT, putM, keepD, bnd, ret, lft, mC, mVar, mMov, mFrz, mSh, mOp2, mOp1, mOpN, mNil, mCons, mTst, mAnd, mOr, mNot, mAndV, mOrV, mNotV, mIfE, mYes_ap, mONo, mOSome, mCall, back, backO, backE, isSh, nbB_cons, nbB_nil, nb_none, nb_some, Md.nb, Md.nbs, Md.beq, Md.beqs, D.atm, D.atms, oI, oAdd, oSub, oMul, oDiv, oMod, oPow, oLt, oLe, oGt, oGe, oNeg, oIx, oLen, intOf, mChain, mLst, mTup, mgN, forT, compT, wipeS, itMd, elSh, D.isN, oIsN, oNotN, Md.okB, Md.okBs, lim1, lim2, lim3, lim4, lim0', m__law_mix, b__law_mix, mulOk_7919, mulOk_48271, mulOk_mod, mix, mixN, mixC, ha, hp, hp2]
theorem count_ok {ns : List Int} {k : Int} (hn : ns.length ≤ 63) (hk : 0 ≤ k) : m__law_count [.fz ns, .int k] = some (.ok (.int (count ns k), .sh)) := by
  have e1 := mix_ok hn hk
  have e2 := mix_ok hn (show (0 : Int) ≤ 2 by decide)
  have h4 : ∀ a b c d : Int, atI [D.int a, .int b, .int c, .int d] (mix ns k / 8 % 4) = some (.int ([a, b, c, d].getD (mix ns k / 8 % 4).toNat 0)) := fun a b c d => atI_i4 (by omega) (by omega)
  have h6 : ∀ a b c d e f : Int, atI [D.int a, .int b, .int c, .int d, .int e, .int f] (mix ns 2 % 6) = some (.int ([a, b, c, d, e, f].getD (mix ns 2 % 6).toNat 0)) := fun a b c d e f => atI_i6 (by omega) (by omega)
  by_cases hm : mix ns k % 8 = 0
  · simp [mFn, mSeq, mSet, mRet, mDrop, mIf, mNext, mPass, sE, sT, putM, keepD, bnd, ret, lft, mC, mVar, mMov, mFrz, mSh, mOp2, mOp1, mOpN, mNil, mCons, mTst, mAnd, mOr, mNot, mAndV, mOrV, mNotV, mIfE, mYes_ap, mONo, mOSome, mCall, back, backO, backE, isSh, nbB_cons, nbB_nil, nb_none, nb_some, Md.nb, Md.nbs, Md.beq, Md.beqs, D.atm, D.atms, oI, oAdd, oSub, oMul, oDiv, oMod, oPow, oLt, oLe, oGt, oGe, oNeg, oIx, oLen, intOf, mChain, mLst, mTup, mgN, forT, compT, wipeS, itMd, elSh, D.isN, oIsN, oNotN, Md.okB, Md.okBs, lim1, lim2, lim3, lim4, lim0', m__law_count, b__law_count, e1, e2, oEq_int, hm, count]
  · simp [mFn, mSeq, mSet, mRet, mDrop, mIf, mNext, mPass, sE, sT, putM, keepD, bnd, ret, lft, mC, mVar, mMov, mFrz, mSh, mOp2, mOp1, mOpN, mNil, mCons, mTst, mAnd, mOr, mNot, mAndV, mOrV, mNotV, mIfE, mYes_ap, mONo, mOSome, mCall, back, backO, backE, isSh, nbB_cons, nbB_nil, nb_none, nb_some, Md.nb, Md.nbs, Md.beq, Md.beqs, D.atm, D.atms, oI, oAdd, oSub, oMul, oDiv, oMod, oPow, oLt, oLe, oGt, oGe, oNeg, oIx, oLen, intOf, mChain, mLst, mTup, mgN, forT, compT, wipeS, itMd, elSh, D.isN, oIsN, oNotN, Md.okB, Md.okBs, lim1, lim2, lim3, lim4, lim0', m__law_count, b__law_count, e1, e2, h4, h6, oEq_int, hm, count, mulOk_1e11, lim]
/-! ## tables -/
/-- a table of so many columns -/
structure Tb (g : List (List Int)) (w : Nat) : Prop where
  h1 : 1 ≤ g.length
  h8 : g.length ≤ 8
  w1 : 1 ≤ w
  w8 : w ≤ 8
  row : ∀ r ∈ g, r.length = w
  nn : ∀ r ∈ g, ∀ x ∈ r, (0 : Int) ≤ x
def isNum : D → Bool
  | .int i => decide (0 ≤ i)
  | _ => false
theorem is_number_ok {d : D} (h : d.tyN.isSome = true) : m_is_number [d] = some (.ok (.bl (isNum d), .sh)) := by
  cases d <;> simp [D.tyN] at h <;> simp [mFn, mSeq, mSet, mRet, mDrop, mIf, mNext, mPass, sE, sT, putM, keepD, bnd, ret, lft, mC, mVar, mMov, mFrz, mSh, mOp2, mOp1, mOpN, mNil, mCons, mTst, mAnd, mOr, mNot, mAndV, mOrV, mNotV, mIfE, mYes_ap, mONo, mOSome, mCall, back, backO, backE, isSh, nbB_cons, nbB_nil, nb_none, nb_some, Md.nb, Md.nbs, Md.beq, Md.beqs, D.atm, D.atms, oI, oAdd, oSub, oMul, oDiv, oMod, oPow, oLt, oLe, oGt, oGe, oNeg, oIx, oLen, intOf, mChain, mLst, mTup, mgN, forT, compT, wipeS, itMd, elSh, D.isN, oIsN, oNotN, Md.okB, Md.okBs, lim1, lim2, lim3, lim4, lim0', m_is_number, b_is_number, oIsi, D.tyN, kb_NoneType_int, kb_bool_int, kb_int_int, kb_str_int, kb_list_int, kb_tuple_int, kb_dict_int, kb_NoneType_bool, kb_bool_bool, kb_int_bool, kb_str_bool, kb_list_bool, kb_tuple_bool, kb_dict_bool, isNum]
/-- a list of as many things, 1 to 8 -/
def rowOk (n : Nat) : D → Bool
  | .lst cs => decide (1 ≤ cs.length) && decide (cs.length ≤ 8) && decide (cs.length = n)
  | _ => false
def lenD : D → Nat
  | .lst cs => cs.length
  | _ => 0
def isGrid : D → Bool
  | .lst (r0 :: rest) => decide (rest.length + 1 ≤ 8) && (r0 :: rest).all (rowOk (lenD r0))
  | _ => false
theorem l_grid {rows : List D} {x : Ent} {d : D} {n : Nat} {r0 : D} (h0 : rows[0]? = some r0) (hd : d.tyN.isSome = true) (hn : ∀ cs, r0 = .lst cs → cs.length = n) (hr : (∃ cs, r0 = .lst cs) ∨ ¬ ∃ cs, d = .lst cs) :
    forT (mgN 1) l_is_grid_1 d [some (.lst rows, .sh), x] = if rowOk n d then some (.nx [some (.lst rows, .sh), some (d, .sh)]) else some (.rt (.bl false, .sh) [some (.lst rows, .sh), some (d, .sh)]) := by
  have hi : atI rows 0 = some r0 := by rw [atI_nat' (by decide)]; exact h0
  cases d with
  | lst cs =>
    obtain ⟨c0, rfl⟩ : ∃ cs, r0 = .lst cs := by
      rcases hr with h | h
      · exact h
      · exact absurd ⟨cs, rfl⟩ h
    have hn0 := hn c0 rfl
    by_cases h1 : 1 ≤ cs.length
    · have h1' : (1 : Int) ≤ (cs.length : Int) := by omega
      by_cases h8 : cs.length ≤ 8
      · have h8' : (cs.length : Int) ≤ 8 := by omega
        by_cases he : cs.length = n
        · subst he
          simp [mFn, mSeq, mSet, mRet, mDrop, mIf, mNext, mPass, sE, sT, putM, keepD, bnd, ret, lft, mC, mVar, mMov, mFrz, mSh, mOp2, mOp1, mOpN, mNil, mCons, mTst, mAnd, mOr, mNot, mAndV, mOrV, mNotV, mIfE, mYes_ap, mONo, mOSome, mCall, back, backO, backE, isSh, nbB_cons, nbB_nil, nb_none, nb_some, Md.nb, Md.nbs, Md.beq, Md.beqs, D.atm, D.atms, oI, oAdd, oSub, oMul, oDiv, oMod, oPow, oLt, oLe, oGt, oGe, oNeg, oIx, oLen, intOf, mChain, mLst, mTup, mgN, forT, compT, wipeS, itMd, elSh, D.isN, oIsN, oNotN, Md.okB, Md.okBs, lim1, lim2, lim3, lim4, lim0', l_is_grid_1, oIsi, D.tyN, kb_list_list, rowOk, hi, oNe_int, h1, h1', h8, h8', hn0]
        · have he' : ¬ (cs.length : Int) = (c0.length : Int) := by omega
          have he2 : ¬ cs.length = c0.length := by omega
          simp [mFn, mSeq, mSet, mRet, mDrop, mIf, mNext, mPass, sE, sT, putM, keepD, bnd, ret, lft, mC, mVar, mMov, mFrz, mSh, mOp2, mOp1, mOpN, mNil, mCons, mTst, mAnd, mOr, mNot, mAndV, mOrV, mNotV, mIfE, mYes_ap, mONo, mOSome, mCall, back, backO, backE, isSh, nbB_cons, nbB_nil, nb_none, nb_some, Md.nb, Md.nbs, Md.beq, Md.beqs, D.atm, D.atms, oI, oAdd, oSub, oMul, oDiv, oMod, oPow, oLt, oLe, oGt, oGe, oNeg, oIx, oLen, intOf, mChain, mLst, mTup, mgN, forT, compT, wipeS, itMd, elSh, D.isN, oIsN, oNotN, Md.okB, Md.okBs, lim1, lim2, lim3, lim4, lim0', l_is_grid_1, oIsi, D.tyN, kb_list_list, rowOk, hi, oNe_int, h1, h1', h8, h8', he, he', he2]
      · have h8' : ¬ (cs.length : Int) ≤ 8 := by omega
        simp [mFn, mSeq, mSet, mRet, mDrop, mIf, mNext, mPass, sE, sT, putM, keepD, bnd, ret, lft, mC, mVar, mMov, mFrz, mSh, mOp2, mOp1, mOpN, mNil, mCons, mTst, mAnd, mOr, mNot, mAndV, mOrV, mNotV, mIfE, mYes_ap, mONo, mOSome, mCall, back, backO, backE, isSh, nbB_cons, nbB_nil, nb_none, nb_some, Md.nb, Md.nbs, Md.beq, Md.beqs, D.atm, D.atms, oI, oAdd, oSub, oMul, oDiv, oMod, oPow, oLt, oLe, oGt, oGe, oNeg, oIx, oLen, intOf, mChain, mLst, mTup, mgN, forT, compT, wipeS, itMd, elSh, D.isN, oIsN, oNotN, Md.okB, Md.okBs, lim1, lim2, lim3, lim4, lim0', l_is_grid_1, oIsi, D.tyN, kb_list_list, rowOk, hi, oNe_int, h1, h1', h8, h8']
    · have h1' : ¬ (1 : Int) ≤ (cs.length : Int) := by omega
      simp [mFn, mSeq, mSet, mRet, mDrop, mIf, mNext, mPass, sE, sT, putM, keepD, bnd, ret, lft, mC, mVar, mMov, mFrz, mSh, mOp2, mOp1, mOpN, mNil, mCons, mTst, mAnd, mOr, mNot, mAndV, mOrV, mNotV, mIfE, mYes_ap, mONo, mOSome, mCall, back, backO, backE, isSh, nbB_cons, nbB_nil, nb_none, nb_some, Md.nb, Md.nbs, Md.beq, Md.beqs, D.atm, D.atms, oI, oAdd, oSub, oMul, oDiv, oMod, oPow, oLt, oLe, oGt, oGe, oNeg, oIx, oLen, intOf, mChain, mLst, mTup, mgN, forT, compT, wipeS, itMd, elSh, D.isN, oIsN, oNotN, Md.okB, Md.okBs, lim1, lim2, lim3, lim4, lim0', l_is_grid_1, oIsi, D.tyN, kb_list_list, rowOk, hi, oNe_int, h1, h1']
  | _ => first | (simp [D.tyN] at hd; done) | simp [mFn, mSeq, mSet, mRet, mDrop, mIf, mNext, mPass, sE, sT, putM, keepD, bnd, ret, lft, mC, mVar, mMov, mFrz, mSh, mOp2, mOp1, mOpN, mNil, mCons, mTst, mAnd, mOr, mNot, mAndV, mOrV, mNotV, mIfE, mYes_ap, mONo, mOSome, mCall, back, backO, backE, isSh, nbB_cons, nbB_nil, nb_none, nb_some, Md.nb, Md.nbs, Md.beq, Md.beqs, D.atm, D.atms, oI, oAdd, oSub, oMul, oDiv, oMod, oPow, oLt, oLe, oGt, oGe, oNeg, oIx, oLen, intOf, mChain, mLst, mTup, mgN, forT, compT, wipeS, itMd, elSh, D.isN, oIsN, oNotN, Md.okB, Md.okBs, lim1, lim2, lim3, lim4, lim0', l_is_grid_1, oIsi, D.tyN, kb_NoneType_list, kb_bool_list, kb_int_list, kb_str_list, kb_list_list, kb_tuple_list, kb_dict_list, rowOk]
theorem is_grid_ok {d : D} (h : d.tyN.isSome = true) (hr : ∀ ds, d = .lst ds → ∀ e ∈ ds, e.tyN.isSome = true) : m_is_grid [d] = some (.ok (.bl (isGrid d), .sh)) := by
  cases d with
  | lst ds =>
    have hr := hr ds rfl
    cases ds with
    | nil => simp [mFn, mSeq, mSet, mRet, mDrop, mIf, mNext, mPass, sE, sT, putM, keepD, bnd, ret, lft, mC, mVar, mMov, mFrz, mSh, mOp2, mOp1, mOpN, mNil, mCons, mTst, mAnd, mOr, mNot, mAndV, mOrV, mNotV, mIfE, mYes_ap, mONo, mOSome, mCall, back, backO, backE, isSh, nbB_cons, nbB_nil, nb_none, nb_some, Md.nb, Md.nbs, Md.beq, Md.beqs, D.atm, D.atms, oI, oAdd, oSub, oMul, oDiv, oMod, oPow, oLt, oLe, oGt, oGe, oNeg, oIx, oLen, intOf, mChain, mLst, mTup, mgN, forT, compT, wipeS, itMd, elSh, D.isN, oIsN, oNotN, Md.okB, Md.okBs, lim1, lim2, lim3, lim4, lim0', m_is_grid, b_is_grid, oIsi, D.tyN, kb_list_list, isGrid]
    | cons r0 rest =>
      have h1 : (1 : Int) ≤ (rest.length : Int) + 1 := by omega
      by_cases h8 : rest.length + 1 ≤ 8
      · have h8' : (rest.length : Int) + 1 ≤ 8 := by omega
        have main : (((r0 :: rest).all (rowOk (lenD r0)) = true → ∃ s', forL (mgN 1) l_is_grid_1 (r0 :: rest) [some (.lst (r0 :: rest), .sh), none] = some (.nx s') ∧ nbB s' = true) ∧
            ((r0 :: rest).all (rowOk (lenD r0)) = false → ∃ s', forL (mgN 1) l_is_grid_1 (r0 :: rest) [some (.lst (r0 :: rest), .sh), none] = some (.rt (.bl false, .sh) s'))) := by
          by_cases hl : ∃ cs, r0 = .lst cs
          · have key := forL_all (mg := mgN 1) (body := l_is_grid_1) (r := (.bl false, .sh)) (items := r0 :: rest) (ss := [some (.lst (r0 :: rest), .sh), none]) (fun s => ∃ x, s = [some (.lst (r0 :: rest), .sh), x] ∧ nbB s = true) (rowOk (lenD r0)) (fun d s hd hs => ?_) ⟨none, rfl, rfl⟩
            · refine ⟨fun ha => ?_, key.2⟩
              obtain ⟨s', e1, x, _, e3⟩ := key.1 ha
              exact ⟨s', e1, e3⟩
            · obtain ⟨x, rfl, _⟩ := hs
              rw [l_grid (n := lenD r0) (r0 := r0) rfl (hr d hd) (fun cs e => by rw [e]; rfl) (.inl hl)]
              refine ⟨fun hp => ?_, fun hp => ?_⟩
              · rw [if_pos hp]
                exact ⟨_, rfl, by simp [nbB, Ent.nb, Md.nb], _, rfl, by simp [nbB, Ent.nb, Md.nb]⟩
              · rw [hp, if_neg Bool.false_ne_true]
                exact ⟨_, rfl⟩
          · have hp : rowOk (lenD r0) r0 = false := by
              cases r0 with
              | lst cs => exact absurd ⟨cs, rfl⟩ hl
              | _ => rfl
            rw [forL_cons, l_grid (n := lenD r0) (r0 := r0) rfl (hr r0 List.mem_cons_self) (fun cs e => absurd ⟨cs, e⟩ hl) (.inr hl), hp, if_neg Bool.false_ne_true]
            exact ⟨fun z => by simp [hp] at z, fun _ => ⟨_, rfl⟩⟩
        cases ha : (r0 :: rest).all (rowOk (lenD r0)) with
        | true =>
          obtain ⟨s', e1, e2⟩ := main.1 ha
          simp only [List.all_cons] at ha
          simp [mFn, mSeq, mSet, mRet, mDrop, mIf, mNext, mPass, sE, sT, putM, keepD, bnd, ret, lft, mC, mVar, mMov, mFrz, mSh, mOp2, mOp1, mOpN, mNil, mCons, mTst, mAnd, mOr, mNot, mAndV, mOrV, mNotV, mIfE, mYes_ap, mONo, mOSome, mCall, back, backO, backE, isSh, nbB_cons, nbB_nil, nb_none, nb_some, Md.nb, Md.nbs, Md.beq, Md.beqs, D.atm, D.atms, oI, oAdd, oSub, oMul, oDiv, oMod, oPow, oLt, oLe, oGt, oGe, oNeg, oIx, oLen, intOf, mChain, mLst, mTup, mgN, forT, compT, wipeS, itMd, elSh, D.isN, oIsN, oNotN, Md.okB, Md.okBs, lim1, lim2, lim3, lim4, lim0', m_is_grid, b_is_grid, oIsi, D.tyN, kb_list_list, isGrid, h8, h8', h1, mFor, mItL, e1, e2, ha]
        | false =>
          obtain ⟨s', e1⟩ := main.2 ha
          have hg : isGrid (.lst (r0 :: rest)) = false := by show (_ && (r0 :: rest).all (rowOk (lenD r0))) = false; rw [ha]; simp
          rw [hg]
          simp [mFn, mSeq, mSet, mRet, mDrop, mIf, mNext, mPass, sE, sT, putM, keepD, bnd, ret, lft, mC, mVar, mMov, mFrz, mSh, mOp2, mOp1, mOpN, mNil, mCons, mTst, mAnd, mOr, mNot, mAndV, mOrV, mNotV, mIfE, mYes_ap, mONo, mOSome, mCall, back, backO, backE, isSh, nbB_cons, nbB_nil, nb_none, nb_some, Md.nb, Md.nbs, Md.beq, Md.beqs, D.atm, D.atms, oI, oAdd, oSub, oMul, oDiv, oMod, oPow, oLt, oLe, oGt, oGe, oNeg, oIx, oLen, intOf, mChain, mLst, mTup, mgN, forT, compT, wipeS, itMd, elSh, D.isN, oIsN, oNotN, Md.okB, Md.okBs, lim1, lim2, lim3, lim4, lim0', m_is_grid, b_is_grid, oIsi, D.tyN, kb_list_list, h8, h8', h1, mFor, mItL, e1]
      · have h8' : ¬ (rest.length : Int) + 1 ≤ 8 := by omega
        simp [mFn, mSeq, mSet, mRet, mDrop, mIf, mNext, mPass, sE, sT, putM, keepD, bnd, ret, lft, mC, mVar, mMov, mFrz, mSh, mOp2, mOp1, mOpN, mNil, mCons, mTst, mAnd, mOr, mNot, mAndV, mOrV, mNotV, mIfE, mYes_ap, mONo, mOSome, mCall, back, backO, backE, isSh, nbB_cons, nbB_nil, nb_none, nb_some, Md.nb, Md.nbs, Md.beq, Md.beqs, D.atm, D.atms, oI, oAdd, oSub, oMul, oDiv, oMod, oPow, oLt, oLe, oGt, oGe, oNeg, oIx, oLen, intOf, mChain, mLst, mTup, mgN, forT, compT, wipeS, itMd, elSh, D.isN, oIsN, oNotN, Md.okB, Md.okBs, lim1, lim2, lim3, lim4, lim0', m_is_grid, b_is_grid, oIsi, D.tyN, kb_list_list, isGrid, h8, h8', h1]
  | _ => first | (simp [D.tyN] at h; done) | simp [mFn, mSeq, mSet, mRet, mDrop, mIf, mNext, mPass, sE, sT, putM, keepD, bnd, ret, lft, mC, mVar, mMov, mFrz, mSh, mOp2, mOp1, mOpN, mNil, mCons, mTst, mAnd, mOr, mNot, mAndV, mOrV, mNotV, mIfE, mYes_ap, mONo, mOSome, mCall, back, backO, backE, isSh, nbB_cons, nbB_nil, nb_none, nb_some, Md.nb, Md.nbs, Md.beq, Md.beqs, D.atm, D.atms, oI, oAdd, oSub, oMul, oDiv, oMod, oPow, oLt, oLe, oGt, oGe, oNeg, oIx, oLen, intOf, mChain, mLst, mTup, mgN, forT, compT, wipeS, itMd, elSh, D.isN, oIsN, oNotN, Md.okB, Md.okBs, lim1, lim2, lim3, lim4, lim0', m_is_grid, b_is_grid, oIsi, D.tyN, kb_NoneType_list, kb_bool_list, kb_int_list, kb_str_list, kb_list_list, kb_tuple_list, kb_dict_list, isGrid]
/-- all are good -/
def rowNum : D → Bool
  | .lst cs => cs.all isNum
  | _ => false
def isTable (d : D) : Bool := isGrid d && (match d with
  | .lst rows => rows.all rowNum
  | _ => false)
/-- things of the kinds that are handed in -/
def kindly (d : D) : Prop := d.tyN.isSome = true ∧ ∀ rows, d = .lst rows → ∀ r ∈ rows, r.tyN.isSome = true ∧ ∀ cs, r = .lst cs → ∀ c ∈ cs, c.tyN.isSome = true
theorem is_table_ok {d : D} (h : kindly d) : m_is_table [d] = some (.ok (.bl (isTable d), .sh)) := by
  have e1 := is_grid_ok (d := d) h.1 fun rows e r hr => (h.2 rows e r hr).1
  cases hg : isGrid d with
  | false =>
    rw [hg] at e1
    simp [mFn, mSeq, mSet, mRet, mDrop, mIf, mNext, mPass, sE, sT, putM, keepD, bnd, ret, lft, mC, mVar, mMov, mFrz, mSh, mOp2, mOp1, mOpN, mNil, mCons, mTst, mAnd, mOr, mNot, mAndV, mOrV, mNotV, mIfE, mYes_ap, mONo, mOSome, mCall, back, backO, backE, isSh, nbB_cons, nbB_nil, nb_none, nb_some, Md.nb, Md.nbs, Md.beq, Md.beqs, D.atm, D.atms, oI, oAdd, oSub, oMul, oDiv, oMod, oPow, oLt, oLe, oGt, oGe, oNeg, oIx, oLen, intOf, mChain, mLst, mTup, mgN, forT, compT, wipeS, itMd, elSh, D.isN, oIsN, oNotN, Md.okB, Md.okBs, lim1, lim2, lim3, lim4, lim0', m_is_table, b_is_table, e1, isTable, hg]
  | true =>
    rw [hg] at e1
    cases d with
    | lst rows =>
      have hrow : ∀ r ∈ rows, ∃ cs, r = .lst cs ∧ cs.length ≤ 8 := fun r hr => by
        cases rows with
        | nil => cases hr
        | cons r0 rest =>
          simp only [isGrid, Bool.and_eq_true, List.all_eq_true] at hg
          have := hg.2 r hr
          cases r with
          | lst cs => simp only [rowOk, Bool.and_eq_true, decide_eq_true_eq] at this; exact ⟨cs, rfl, this.1.2⟩
          | _ => simp [rowOk] at this
      have hl : rows.length ≤ 8 := by
        cases rows with
        | nil => simp
        | cons r0 rest =>
          simp only [isGrid, Bool.and_eq_true, decide_eq_true_eq] at hg
          simpa using hg.1
      have inner : ∀ cs : List D, (∀ c ∈ cs, c.tyN.isSome = true) → ∀ x : D, compL .sh [2] (mgN 2) mYes e_is_table_1 cs [] [some (.lst rows, .sh), some (x, .sh), none] = some ([] ++ cs.map (fun c => D.bl (isNum c)), [some (.lst rows, .sh), some (x, .sh), none]) := fun cs hc x => compL_map fun c hcc => by
        have h := is_number_ok (hc c hcc)
        simp [mFn, mSeq, mSet, mRet, mDrop, mIf, mNext, mPass, sE, sT, putM, keepD, bnd, ret, lft, mC, mVar, mMov, mFrz, mSh, mOp2, mOp1, mOpN, mNil, mCons, mTst, mAnd, mOr, mNot, mAndV, mOrV, mNotV, mIfE, mYes_ap, mONo, mOSome, mCall, back, backO, backE, isSh, nbB_cons, nbB_nil, nb_none, nb_some, Md.nb, Md.nbs, Md.beq, Md.beqs, D.atm, D.atms, oI, oAdd, oSub, oMul, oDiv, oMod, oPow, oLt, oLe, oGt, oGe, oNeg, oIx, oLen, intOf, mChain, mLst, mTup, mgN, forT, compT, wipeS, itMd, elSh, D.isN, oIsN, oNotN, Md.okB, Md.okBs, lim1, lim2, lim3, lim4, lim0', e_is_table_1, h]
      have outer : compL .sh [1] (mgN 1) mYes e_is_table_2 rows [] [some (.lst rows, .sh), none, none] = some ([] ++ rows.map (fun r => D.bl (rowNum r)), [some (.lst rows, .sh), none, none]) := compL_map fun r hr => by
        obtain ⟨cs, rfl, hc⟩ := hrow r hr
        have hl' : cs.length ≤ 1000000 := by omega
        have hi := inner cs ((h.2 rows rfl _ hr).2 cs rfl) (.lst cs)
        simp [mFn, mSeq, mSet, mRet, mDrop, mIf, mNext, mPass, sE, sT, putM, keepD, bnd, ret, lft, mC, mVar, mMov, mFrz, mSh, mOp2, mOp1, mOpN, mNil, mCons, mTst, mAnd, mOr, mNot, mAndV, mOrV, mNotV, mIfE, mYes_ap, mONo, mOSome, mCall, back, backO, backE, isSh, nbB_cons, nbB_nil, nb_none, nb_some, Md.nb, Md.nbs, Md.beq, Md.beqs, D.atm, D.atms, oI, oAdd, oSub, oMul, oDiv, oMod, oPow, oLt, oLe, oGt, oGe, oNeg, oIx, oLen, intOf, mChain, mLst, mTup, mgN, forT, compT, wipeS, itMd, elSh, D.isN, oIsN, oNotN, Md.okB, Md.okBs, lim1, lim2, lim3, lim4, lim0', e_is_table_2, mComp, mItL, lim, hl', hi, oAll, rowNum, blsOf_fun]
      have hl' : rows.length ≤ 1000000 := by omega
      simp [mFn, mSeq, mSet, mRet, mDrop, mIf, mNext, mPass, sE, sT, putM, keepD, bnd, ret, lft, mC, mVar, mMov, mFrz, mSh, mOp2, mOp1, mOpN, mNil, mCons, mTst, mAnd, mOr, mNot, mAndV, mOrV, mNotV, mIfE, mYes_ap, mONo, mOSome, mCall, back, backO, backE, isSh, nbB_cons, nbB_nil, nb_none, nb_some, Md.nb, Md.nbs, Md.beq, Md.beqs, D.atm, D.atms, oI, oAdd, oSub, oMul, oDiv, oMod, oPow, oLt, oLe, oGt, oGe, oNeg, oIx, oLen, intOf, mChain, mLst, mTup, mgN, forT, compT, wipeS, itMd, elSh, D.isN, oIsN, oNotN, Md.okB, Md.okBs, lim1, lim2, lim3, lim4, lim0', m_is_table, b_is_table, e1, isTable, hg, mComp, mItL, lim, hl', outer, oAll, blsOf_fun]
    | _ => simp [isGrid] at hg
theorem need_table_ok {d : D} (h : kindly d) : m_need_table [d] = some (if isTable d then .ok (.non, .sh) else .er ⟨1, [], []⟩) := by
  have e := is_table_ok h
  cases hd : isTable d with
  | true => rw [hd] at e; simp [mFn, mSeq, mSet, mRet, mDrop, mIf, mNext, mPass, sE, sT, putM, keepD, bnd, ret, lft, mC, mVar, mMov, mFrz, mSh, mOp2, mOp1, mOpN, mNil, mCons, mTst, mAnd, mOr, mNot, mAndV, mOrV, mNotV, mIfE, mYes_ap, mONo, mOSome, mCall, back, backO, backE, isSh, nbB_cons, nbB_nil, nb_none, nb_some, Md.nb, Md.nbs, Md.beq, Md.beqs, D.atm, D.atms, oI, oAdd, oSub, oMul, oDiv, oMod, oPow, oLt, oLe, oGt, oGe, oNeg, oIx, oLen, intOf, mChain, mLst, mTup, mgN, forT, compT, wipeS, itMd, elSh, D.isN, oIsN, oNotN, Md.okB, Md.okBs, lim1, lim2, lim3, lim4, lim0', m_need_table, b_need_table, e]
  | false => rw [hd] at e; simp [mFn, mSeq, mSet, mRet, mDrop, mIf, mNext, mPass, sE, sT, putM, keepD, bnd, ret, lft, mC, mVar, mMov, mFrz, mSh, mOp2, mOp1, mOpN, mNil, mCons, mTst, mAnd, mOr, mNot, mAndV, mOrV, mNotV, mIfE, mYes_ap, mONo, mOSome, mCall, back, backO, backE, isSh, nbB_cons, nbB_nil, nb_none, nb_some, Md.nb, Md.nbs, Md.beq, Md.beqs, D.atm, D.atms, oI, oAdd, oSub, oMul, oDiv, oMod, oPow, oLt, oLe, oGt, oGe, oNeg, oIx, oLen, intOf, mChain, mLst, mTup, mgN, forT, compT, wipeS, itMd, elSh, D.isN, oIsN, oNotN, Md.okB, Md.okBs, lim1, lim2, lim3, lim4, lim0', m_need_table, b_need_table, e, mRaise]
theorem kindly_dG {g : List (List Int)} : kindly (dG g) := ⟨rfl, fun rows e r hr => by
  cases e
  obtain ⟨x, _, rfl⟩ := List.mem_map.mp hr
  refine ⟨rfl, fun cs e c hc => ?_⟩
  cases e
  obtain ⟨y, _, rfl⟩ := List.mem_map.mp hc
  rfl⟩
theorem isTable_dG {g : List (List Int)} {w : Nat} (h : Tb g w) : isTable (dG g) = true := by
  unfold isTable dG
  obtain ⟨h1, h8, w1, w8, row, nn⟩ := h
  cases g with
  | nil => simp at h1
  | cons r0 rest =>
    have e0 := row r0 List.mem_cons_self
    have hl : lenD (dI r0) = w := by simp [lenD, dI, e0]
    have hr : ∀ r ∈ r0 :: rest, rowOk w (dI r) = true := fun r hr => by
      have := row r hr
      simp [rowOk, dI, this, w1, w8]
    have hn : ∀ r ∈ r0 :: rest, rowNum (dI r) = true := fun r hr => by
      simp only [rowNum, dI, List.all_map, List.all_eq_true]
      intro x hx
      simpa [isNum] using nn r hr x hx
    simp only [List.map_cons, isGrid, hl, Bool.and_eq_true, decide_eq_true_eq, List.all_eq_true, List.length_map]
    have hg : ∀ x ∈ dI r0 :: rest.map dI, rowOk w x = true ∧ rowNum x = true := fun x hx => by
      rw [← List.map_cons] at hx
      obtain ⟨r, hr', rfl⟩ := List.mem_map.mp hx
      exact ⟨hr r hr', hn r hr'⟩
    exact ⟨⟨by simpa using h8, fun x hx => (hg x hx).1⟩, fun x hx => (hg x hx).2⟩
theorem need_tb {g : List (List Int)} {w : Nat} (h : Tb g w) : m_need_table [dG g] = some (.ok (.non, .sh)) := by
  rw [need_table_ok kindly_dG, isTable_dG h]; rfl
theorem row_sums_ok {g : List (List Int)} {w : Nat} (h : Tb g w) : m_row_sums [dG g] = some (.ok (dI (g.map List.sum), .ow .sh)) := by
  have e := need_tb h
  have hl : g.length ≤ 1000000 := by have := h.h8; omega
  have key : compL .sh [1] (mgN 1) mYes e_row_sums_1 (g.map dI) [] [some (.lst (g.map dI), .sh), none] = some ([] ++ (g.map dI).map (fun d => match d with | .lst ds => .int ((intsOf ds).getD []).sum | _ => .non), [some (.lst (g.map dI), .sh), none]) := compL_map fun d hd => by
    obtain ⟨r, _, rfl⟩ := List.mem_map.mp hd
    simp [mFn, mSeq, mSet, mRet, mDrop, mIf, mNext, mPass, sE, sT, putM, keepD, bnd, ret, lft, mC, mVar, mMov, mFrz, mSh, mOp2, mOp1, mOpN, mNil, mCons, mTst, mAnd, mOr, mNot, mAndV, mOrV, mNotV, mIfE, mYes_ap, mONo, mOSome, mCall, back, backO, backE, isSh, nbB_cons, nbB_nil, nb_none, nb_some, Md.nb, Md.nbs, Md.beq, Md.beqs, D.atm, D.atms, oI, oAdd, oSub, oMul, oDiv, oMod, oPow, oLt, oLe, oGt, oGe, oNeg, oIx, oLen, intOf, mChain, mLst, mTup, mgN, forT, compT, wipeS, itMd, elSh, D.isN, oIsN, oNotN, Md.okB, Md.okBs, lim1, lim2, lim3, lim4, lim0', e_row_sums_1, oSum, dI, intsOf_map]
  unfold dG at e
  simp [mFn, mSeq, mSet, mRet, mDrop, mIf, mNext, mPass, sE, sT, putM, keepD, bnd, ret, lft, mC, mVar, mMov, mFrz, mSh, mOp2, mOp1, mOpN, mNil, mCons, mTst, mAnd, mOr, mNot, mAndV, mOrV, mNotV, mIfE, mYes_ap, mONo, mOSome, mCall, back, backO, backE, isSh, nbB_cons, nbB_nil, nb_none, nb_some, Md.nb, Md.nbs, Md.beq, Md.beqs, D.atm, D.atms, oI, oAdd, oSub, oMul, oDiv, oMod, oPow, oLt, oLe, oGt, oGe, oNeg, oIx, oLen, intOf, mChain, mLst, mTup, mgN, forT, compT, wipeS, itMd, elSh, D.isN, oIsN, oNotN, Md.okB, Md.okBs, lim1, lim2, lim3, lim4, lim0', m_row_sums, b_row_sums, dG, e, mComp, mItL, lim, hl, key, dI, intsOf_map]
/-- the sums of the columns -/
def colS (g : List (List Int)) (w : Nat) : List Int := (List.range w).map fun c => (g.map fun r => r.getD c 0).sum
theorem atI_row {r : List Int} {c : Nat} (h : c < r.length) : atI (r.map D.int) (c : Int) = some (.int (r.getD c 0)) := atI_ints (by omega) (by omega)
theorem tb_head {g : List (List Int)} {w : Nat} (h : Tb g w) : ∃ r0 rest, g = r0 :: rest ∧ r0.length = w := by
  cases g with
  | nil => have := h.h1; simp at this
  | cons r0 rest => exact ⟨r0, rest, rfl, h.row r0 List.mem_cons_self⟩
theorem tb_ix0 {g : List (List Int)} {w : Nat} (h : Tb g w) : ∃ r0 : List Int, r0.length = w ∧ atI (g.map dI) 0 = some (dI r0) := by
  obtain ⟨r0, rest, rfl, e⟩ := tb_head h
  exact ⟨r0, e, by rw [atI_nat' (by decide)]; rfl⟩
end Ve

set_option Elab.async false
set_option linter.all false
set_option maxRecDepth 100000
set_option maxHeartbeats 1000000
namespace Ve
open PySem L2
theorem rng_mem {n : Nat} {d : D} (h : d ∈ rng n) : ∃ i, i < n ∧ d = .int ((i : Nat) : Int) := by
  obtain ⟨i, hi, rfl⟩ := List.mem_map.mp h
  exact ⟨i, by simpa using hi, rfl⟩
theorem rng_len {n : Nat} : (rng n).length = n := by simp [rng]
theorem rng_get {n i : Nat} {d : D} (h : (rng n)[i]? = some d) : i < n ∧ d = .int (i : Int) := by
  unfold rng at h
  rw [List.getElem?_map] at h
  have hi : i < n := by
    rcases Nat.lt_or_ge i n with h' | h'
    · exact h'
    · rw [List.getElem?_eq_none (by simpa using h')] at h; cases h
  rw [List.getElem?_range hi] at h
  exact ⟨hi, by cases h; rfl⟩
/-- a comprehension over range -/
theorem compL_rng {em : Md} {own : List Nat} {mg : MG} {cond : MT} {elt : ME} {f : Nat → D} {ss : SS} {n : Nat} (h : ∀ i, i < n → compT em own mg cond elt (.int (i : Int)) ss = some (some (f i), ss)) :
    compL em own mg cond elt (rng n) [] ss = some ((List.range n).map f, ss) := by
  rw [compL_map (f := fun d => f (match d with | .int i => i.toNat | _ => 0)) fun d hd => by
    obtain ⟨i, hi, rfl⟩ := rng_mem hd
    exact h i hi]
  simp [rng, Function.comp_def]
/-- a comprehension over a mapped list -/
theorem compL_over {α : Type} {em : Md} {own : List Nat} {mg : MG} {cond : MT} {elt : ME} {g : α → D} {f : α → D} {xs : List α} {ss : SS} : ∀ {acc : List D}, (∀ x ∈ xs, compT em own mg cond elt (g x) ss = some (some (f x), ss)) →
    compL em own mg cond elt (xs.map g) acc ss = some (acc ++ xs.map f, ss) := by
  induction xs with
  | nil => intro acc _; simp [compL]
  | cons x xs ih =>
    intro acc h
    simp only [List.map_cons]
    unfold compL
    rw [h x List.mem_cons_self, Option.bind_some]
    simp only
    rw [ih fun y hy => h y (List.mem_cons_of_mem _ hy)]
    simp
theorem cs_in {g : List (List Int)} {w : Nat} (h : Tb g w) {c : Nat} (hc : c < w) : compL .sh [2] (mgN 2) mYes e_column_sums_1 (g.map dI) [] [some (.lst (g.map dI), .sh), some (.int (c : Int), .sh), none] = some ([] ++ g.map (fun r => D.int (r.getD c 0)), [some (.lst (g.map dI), .sh), some (.int (c : Int), .sh), none]) := 
    compL_over fun r hr => by
      have hcr : c < r.length := by rw [h.row r hr]; exact hc
      have h2 := atI_row hcr
      simp [mFn, mSeq, mSet, mRet, mDrop, mIf, mNext, mPass, sE, sT, putM, keepD, bnd, ret, lft, mC, mVar, mMov, mFrz, mSh, mOp2, mOp1, mOpN, mNil, mCons, mTst, mAnd, mOr, mNot, mAndV, mOrV, mNotV, mIfE, mYes_ap, mONo, mOSome, mCall, back, backO, backE, isSh, nbB_cons, nbB_nil, nb_none, nb_some, Md.nb, Md.nbs, Md.beq, Md.beqs, D.atm, D.atms, oI, oAdd, oSub, oMul, oDiv, oMod, oPow, oLt, oLe, oGt, oGe, oNeg, oIx, oLen, intOf, mChain, mLst, mTup, mgN, forT, compT, wipeS, itMd, elSh, D.isN, oIsN, oNotN, Md.okB, Md.okBs, lim1, lim2, lim3, lim4, lim0', e_column_sums_1, dI, h2]
theorem cs_out {g : List (List Int)} {w : Nat} (h : Tb g w) : compL .sh [1] (mgN 1) mYes e_column_sums_2 (rng w) [] [some (.lst (g.map dI), .sh), none, none] = some ((List.range w).map (fun c => D.int (g.map fun r => r.getD c 0).sum), [some (.lst (g.map dI), .sh), none, none]) := compL_rng fun c hc => by
    have hl : g.length ≤ lim := le_lim (by have := h.h8; omega)
    simp [mFn, mSeq, mSet, mRet, mDrop, mIf, mNext, mPass, sE, sT, putM, keepD, bnd, ret, lft, mC, mVar, mMov, mFrz, mSh, mOp2, mOp1, mOpN, mNil, mCons, mTst, mAnd, mOr, mNot, mAndV, mOrV, mNotV, mIfE, mYes_ap, mONo, mOSome, mCall, back, backO, backE, isSh, nbB_cons, nbB_nil, nb_none, nb_some, Md.nb, Md.nbs, Md.beq, Md.beqs, D.atm, D.atms, oI, oAdd, oSub, oMul, oDiv, oMod, oPow, oLt, oLe, oGt, oGe, oNeg, oIx, oLen, intOf, mChain, mLst, mTup, mgN, forT, compT, wipeS, itMd, elSh, D.isN, oIsN, oNotN, Md.okB, Md.okBs, lim1, lim2, lim3, lim4, lim0', e_column_sums_2, mComp, mItL, hl, cs_in h hc, oSum, intsOf_fun]
theorem iR_row {g : List (List Int)} {w : Nat} (h : Tb g w) {r : List Int} (e : r.length = w) : iR [(.int (r.length : Int), .sh)] = some (rng w) := by
  have := h.w8
  rw [iR_int (by omega)]; simp [e]
theorem column_sums_ok {g : List (List Int)} {w : Nat} (h : Tb g w) : m_column_sums [dG g] = some (.ok (dI (colS g w), .ow .sh)) := by
  have e := need_tb h
  have hw2 : w ≤ lim := le_lim (by have := h.w8; omega)
  obtain ⟨r0, e0, hi⟩ := tb_ix0 h
  have hr := iR_row h e0
  have outer := cs_out h
  unfold dG at e ⊢
  simp [mFn, mSeq, mSet, mRet, mDrop, mIf, mNext, mPass, sE, sT, putM, keepD, bnd, ret, lft, mC, mVar, mMov, mFrz, mSh, mOp2, mOp1, mOpN, mNil, mCons, mTst, mAnd, mOr, mNot, mAndV, mOrV, mNotV, mIfE, mYes_ap, mONo, mOSome, mCall, back, backO, backE, isSh, nbB_cons, nbB_nil, nb_none, nb_some, Md.nb, Md.nbs, Md.beq, Md.beqs, D.atm, D.atms, oI, oAdd, oSub, oMul, oDiv, oMod, oPow, oLt, oLe, oGt, oGe, oNeg, oIx, oLen, intOf, mChain, mLst, mTup, mgN, forT, compT, wipeS, itMd, elSh, D.isN, oIsN, oNotN, Md.okB, Md.okBs, lim1, lim2, lim3, lim4, lim0', m_column_sums, b_column_sums, e, mComp, mItR, hi, hr, outer, dI, colS, rng_len, hw2, Function.comp_def]
/-! ## the law's own table -/
def rowT (ns : List Int) (w r : Nat) : List Int := (List.range w).map fun (c : Nat) => count ns (8 + (w : Int) * (r : Int) + (c : Int))
theorem tab_eq (ns : List Int) (h w : Nat) : tab ns h w = (List.range h).map (rowT ns w) := rfl
theorem law_table_ok {ns : List Int} {h w : Nat} (hn : ns.length ≤ 63) (hh : h ≤ 8) (hw : w ≤ 8) : m__law_table [.fz ns, .int (h : Int), .int (w : Int)] = some (.ok (dG (tab ns h w), .ow (.ow .sh))) := by
  have hw2 : w ≤ lim := le_lim (by omega)
  have rw_ : iR [(.int (w : Int), .sh)] = some (rng w) := by rw [iR_int (by omega)]; simp
  have rh_ : iR [(.int (h : Int), .sh)] = some (rng h) := by rw [iR_int (by omega)]; simp
  have mk : mulOk (w : Int) = fun _ => true := funext fun j => mulOk_l (by omega)
  have inner : ∀ (r : Nat) (x : Ent) (hx : Ent.nb x = true), compL .sh [5] (mgN 5) mYes e__law_table_1 (rng w) [] [some (.fz ns, .sh), some (.int (h : Int), .sh), some (.int (w : Int), .sh), x, some (.int (r : Int), .sh), none] = some ((List.range w).map (fun (c : Nat) => D.int (count ns (8 + (w : Int) * (r : Int) + (c : Int)))), [some (.fz ns, .sh), some (.int (h : Int), .sh), some (.int (w : Int), .sh), x, some (.int (r : Int), .sh), none]) := fun r x hx => compL_rng fun c hc => by
    have h0 : 0 ≤ 8 + (w : Int) * (r : Int) + (c : Int) := by
      have := Int.mul_nonneg (Int.natCast_nonneg w) (Int.natCast_nonneg r)
      omega
    have e := count_ok hn h0
    simp [mFn, mSeq, mSet, mRet, mDrop, mIf, mNext, mPass, sE, sT, putM, keepD, bnd, ret, lft, mC, mVar, mMov, mFrz, mSh, mOp2, mOp1, mOpN, mNil, mCons, mTst, mAnd, mOr, mNot, mAndV, mOrV, mNotV, mIfE, mYes_ap, mONo, mOSome, mCall, back, backO, backE, isSh, nbB_cons, nbB_nil, nb_none, nb_some, Md.nb, Md.nbs, Md.beq, Md.beqs, D.atm, D.atms, oI, oAdd, oSub, oMul, oDiv, oMod, oPow, oLt, oLe, oGt, oGe, oNeg, oIx, oLen, intOf, mChain, mLst, mTup, mgN, forT, compT, wipeS, itMd, elSh, D.isN, oIsN, oNotN, Md.okB, Md.okBs, lim1, lim2, lim3, lim4, lim0', e__law_table_1, e, mk, hx]
  have main := forL_run (mg := mgN 4) (body := l__law_table_1) (items := rng h) (ss := [some (.fz ns, .sh), some (.int (h : Int), .sh), some (.int (w : Int), .sh), some (.lst [], .ow (.ow .sh)), none, none])
    (fun i s => ∃ x : Ent, Ent.nb x = true ∧ s = [some (.fz ns, .sh), some (.int (h : Int), .sh), some (.int (w : Int), .sh), some (.lst (((List.range i).map (rowT ns w)).map dI), .ow (.ow .sh)), x, none])
    (fun i d s hd ⟨x, hx, hs⟩ => by
      obtain ⟨hi, rfl⟩ := rng_get hd
      subst hs
      have inner2 := inner i (some (.lst ((List.range i).map (dI ∘ rowT ns w)), .ow (.ow .sh))) rfl
      have hil : i < lim := Nat.lt_of_lt_of_le hi (le_lim (by omega))
      simp [mFn, mSeq, mSet, mRet, mDrop, mIf, mNext, mPass, sE, sT, putM, keepD, bnd, ret, lft, mC, mVar, mMov, mFrz, mSh, mOp2, mOp1, mOpN, mNil, mCons, mTst, mAnd, mOr, mNot, mAndV, mOrV, mNotV, mIfE, mYes_ap, mONo, mOSome, mCall, back, backO, backE, isSh, nbB_cons, nbB_nil, nb_none, nb_some, Md.nb, Md.nbs, Md.beq, Md.beqs, D.atm, D.atms, oI, oAdd, oSub, oMul, oDiv, oMod, oPow, oLt, oLe, oGt, oGe, oNeg, oIx, oLen, intOf, mChain, mLst, mTup, mgN, forT, compT, wipeS, itMd, elSh, D.isN, oIsN, oNotN, Md.okB, Md.okBs, lim1, lim2, lim3, lim4, lim0', l__law_table_1, mComp, mItR, inner2, mApp, rw_, rng_len, hw2, hx, hil]
      simp [List.range_succ, rowT, dI, Function.comp_def]) ⟨none, rfl, rfl⟩
  obtain ⟨s', e1, x, hx, rfl⟩ := main
  simp [mFn, mSeq, mSet, mRet, mDrop, mIf, mNext, mPass, sE, sT, putM, keepD, bnd, ret, lft, mC, mVar, mMov, mFrz, mSh, mOp2, mOp1, mOpN, mNil, mCons, mTst, mAnd, mOr, mNot, mAndV, mOrV, mNotV, mIfE, mYes_ap, mONo, mOSome, mCall, back, backO, backE, isSh, nbB_cons, nbB_nil, nb_none, nb_some, Md.nb, Md.nbs, Md.beq, Md.beqs, D.atm, D.atms, oI, oAdd, oSub, oMul, oDiv, oMod, oPow, oLt, oLe, oGt, oGe, oNeg, oIx, oLen, intOf, mChain, mLst, mTup, mgN, forT, compT, wipeS, itMd, elSh, D.isN, oIsN, oNotN, Md.okB, Md.okBs, lim1, lim2, lim3, lim4, lim0', m__law_table, b__law_table, mFor, mItR, rh_, e1, tab_eq, dG, rng_len, hx]
end Ve

set_option Elab.async false
set_option linter.all false
set_option maxRecDepth 100000
set_option maxHeartbeats 1000000
namespace Ve
open PySem L2
theorem tab_tb {ns : List Int} {h w : Nat} (h1 : 1 ≤ h) (h8 : h ≤ 8) (w1 : 1 ≤ w) (w8 : w ≤ 8) : Tb (tab ns h w) w where
  h1 := by simpa [tab] using h1
  h8 := by simpa [tab] using h8
  w1 := w1
  w8 := w8
  row := fun r hr => by
    obtain ⟨i, _, rfl⟩ := List.mem_map.mp hr
    simp
  nn := fun r hr x hx => by
    obtain ⟨i, _, rfl⟩ := List.mem_map.mp hr
    obtain ⟨j, _, rfl⟩ := List.mem_map.mp hx
    exact count_nn _ _
theorem get_map {α : Type} {f : α → D} {xs : List α} {i : Nat} {d : D} (h : (xs.map f)[i]? = some d) : ∃ x, xs[i]? = some x ∧ d = f x := by
  rw [List.getElem?_map] at h
  cases hx : xs[i]? with
  | none => rw [hx] at h; cases h
  | some x => rw [hx] at h; cases h; exact ⟨x, rfl, rfl⟩
theorem take_next {α : Type} {xs : List α} {i : Nat} {x : α} (h : xs[i]? = some x) : xs.take (i + 1) = xs.take i ++ [x] := by
  rw [List.take_add_one, h]; rfl
theorem law_added_ok {xs : List Int} : m__law_added [dI xs] = some (.ok (.int xs.sum, .sh)) := by
  obtain ⟨s', e1, x, hx, rfl⟩ := forL_run (mg := mgN 2) (body := l__law_added_1) (items := xs.map D.int) (ss := [some (dI xs, .sh), some (.int 0, .sh), none])
    (fun i s => ∃ x : Ent, Ent.nb x = true ∧ s = [some (dI xs, .sh), some (.int (xs.take i).sum, .sh), x])
    (fun i d s hd ⟨x, hx, hs⟩ => by
      obtain ⟨y, hy, rfl⟩ := get_map hd
      subst hs
      simp [mFn, mSeq, mSet, mRet, mDrop, mIf, mNext, mPass, sE, sT, putM, keepD, bnd, ret, lft, mC, mVar, mMov, mFrz, mSh, mOp2, mOp1, mOpN, mNil, mCons, mTst, mAnd, mOr, mNot, mAndV, mOrV, mNotV, mIfE, mYes_ap, mONo, mOSome, mCall, back, backO, backE, isSh, nbB_cons, nbB_nil, nb_none, nb_some, Md.nb, Md.nbs, Md.beq, Md.beqs, D.atm, D.atms, oI, oAdd, oSub, oMul, oDiv, oMod, oPow, oLt, oLe, oGt, oGe, oNeg, oIx, oLen, intOf, mChain, mLst, mTup, mgN, forT, compT, wipeS, itMd, elSh, D.isN, oIsN, oNotN, Md.okB, Md.okBs, lim1, lim2, lim3, lim4, lim0', l__law_added_1, hx, take_next hy]) ⟨none, rfl, rfl⟩
  unfold dI at e1 ⊢
  simp [mFn, mSeq, mSet, mRet, mDrop, mIf, mNext, mPass, sE, sT, putM, keepD, bnd, ret, lft, mC, mVar, mMov, mFrz, mSh, mOp2, mOp1, mOpN, mNil, mCons, mTst, mAnd, mOr, mNot, mAndV, mOrV, mNotV, mIfE, mYes_ap, mONo, mOSome, mCall, back, backO, backE, isSh, nbB_cons, nbB_nil, nb_none, nb_some, Md.nb, Md.nbs, Md.beq, Md.beqs, D.atm, D.atms, oI, oAdd, oSub, oMul, oDiv, oMod, oPow, oLt, oLe, oGt, oGe, oNeg, oIx, oLen, intOf, mChain, mLst, mTup, mgN, forT, compT, wipeS, itMd, elSh, D.isN, oIsN, oNotN, Md.okB, Md.okBs, lim1, lim2, lim3, lim4, lim0', m__law_added, b__law_added, mFor, mItL, e1, hx]
theorem law_sums_ok {g : List (List Int)} {w : Nat} (h : Tb g w) : m__law_sums [dG g] = some (.ok (.tup [dI (g.map List.sum), dI (colS g w)], .tp [.ow .sh, .ow .sh])) := by
  have hl : g.length ≤ lim := le_lim (by have := h.h8; omega)
  have hw2 : w ≤ lim := le_lim (by have := h.w8; omega)
  obtain ⟨r0, e0, hi⟩ := tb_ix0 h
  have hr := iR_row h e0
  have inner : ∀ c : Nat, c < w → ∀ xs : List Int, compL .sh [3] (mgN 3) mYes e__law_sums_1 (g.map dI) [] [some (.lst (g.map dI), .sh), some (dI xs, .ow .sh), some (.int (c : Int), .sh), none] = some ([] ++ g.map (fun r => D.int (r.getD c 0)), [some (.lst (g.map dI), .sh), some (dI xs, .ow .sh), some (.int (c : Int), .sh), none]) := fun c hc xs => 
    compL_over fun r hr => by
      have hcr : c < r.length := by rw [h.row r hr]; exact hc
      have h2 := atI_row hcr
      simp [mFn, mSeq, mSet, mRet, mDrop, mIf, mNext, mPass, sE, sT, putM, keepD, bnd, ret, lft, mC, mVar, mMov, mFrz, mSh, mOp2, mOp1, mOpN, mNil, mCons, mTst, mAnd, mOr, mNot, mAndV, mOrV, mNotV, mIfE, mYes_ap, mONo, mOSome, mCall, back, backO, backE, isSh, nbB_cons, nbB_nil, nb_none, nb_some, Md.nb, Md.nbs, Md.beq, Md.beqs, D.atm, D.atms, oI, oAdd, oSub, oMul, oDiv, oMod, oPow, oLt, oLe, oGt, oGe, oNeg, oIx, oLen, intOf, mChain, mLst, mTup, mgN, forT, compT, wipeS, itMd, elSh, D.isN, oIsN, oNotN, Md.okB, Md.okBs, lim1, lim2, lim3, lim4, lim0', e__law_sums_1, dI, h2]
  have last : ∀ (xs : List Int) (x : Ent), Ent.nb x = true → compL .sh [3] (mgN 3) mYes e__law_sums_2 (g.map dI) [] [some (.lst (g.map dI), .sh), some (dI xs, .ow .sh), x, none] = some ([] ++ g.map (fun r => D.int r.sum), [some (.lst (g.map dI), .sh), some (dI xs, .ow .sh), x, none]) := fun xs x hx =>
    compL_over fun r hr => by
      simp [mFn, mSeq, mSet, mRet, mDrop, mIf, mNext, mPass, sE, sT, putM, keepD, bnd, ret, lft, mC, mVar, mMov, mFrz, mSh, mOp2, mOp1, mOpN, mNil, mCons, mTst, mAnd, mOr, mNot, mAndV, mOrV, mNotV, mIfE, mYes_ap, mONo, mOSome, mCall, back, backO, backE, isSh, nbB_cons, nbB_nil, nb_none, nb_some, Md.nb, Md.nbs, Md.beq, Md.beqs, D.atm, D.atms, oI, oAdd, oSub, oMul, oDiv, oMod, oPow, oLt, oLe, oGt, oGe, oNeg, oIx, oLen, intOf, mChain, mLst, mTup, mgN, forT, compT, wipeS, itMd, elSh, D.isN, oIsN, oNotN, Md.okB, Md.okBs, lim1, lim2, lim3, lim4, lim0', e__law_sums_2, law_added_ok, hx]
  have col : ∀ c : Nat, m__law_added [D.lst (g.map fun r => D.int (r.getD c 0))] = some (.ok (.int (g.map fun r => r.getD c 0).sum, .sh)) := fun c => by
    have := law_added_ok (xs := g.map fun r => r.getD c 0)
    unfold dI at this
    rwa [List.map_map] at this
  obtain ⟨s', e1, x, hx, rfl⟩ := forL_run (mg := mgN 2) (body := l__law_sums_1) (items := rng w) (ss := [some (.lst (g.map dI), .sh), some (dI [], .ow .sh), none, none])
    (fun i s => ∃ x : Ent, Ent.nb x = true ∧ s = [some (.lst (g.map dI), .sh), some (dI ((List.range i).map fun c => (g.map fun r => r.getD c 0).sum), .ow .sh), x, none])
    (fun i d s hd ⟨x, hx, hs⟩ => by
      obtain ⟨hi, rfl⟩ := rng_get hd
      subst hs
      have hil : i < lim := Nat.lt_of_lt_of_le hi hw2
      have inner2 := inner i hi ((List.range i).map fun c => (g.map fun r => r.getD c 0).sum)
      have c2 := col i
      try simp [dI, dG, Function.comp_def] at inner2; try simp [dI, dG, Function.comp_def] at c2
      simp [mFn, mSeq, mSet, mRet, mDrop, mIf, mNext, mPass, sE, sT, putM, keepD, bnd, ret, lft, mC, mVar, mMov, mFrz, mSh, mOp2, mOp1, mOpN, mNil, mCons, mTst, mAnd, mOr, mNot, mAndV, mOrV, mNotV, mIfE, mYes_ap, mONo, mOSome, mCall, back, backO, backE, isSh, nbB_cons, nbB_nil, nb_none, nb_some, Md.nb, Md.nbs, Md.beq, Md.beqs, D.atm, D.atms, oI, oAdd, oSub, oMul, oDiv, oMod, oPow, oLt, oLe, oGt, oGe, oNeg, oIx, oLen, intOf, mChain, mLst, mTup, mgN, forT, compT, wipeS, itMd, elSh, D.isN, oIsN, oNotN, Md.okB, Md.okBs, lim1, lim2, lim3, lim4, lim0', dI, dG, Function.comp_def, l__law_sums_1, mComp, mItL, inner2, c2, mApp, hl, hx, hil]
      simp [List.range_succ]) ⟨none, rfl, rfl⟩
  have l2 := last ((List.range w).map fun c => (g.map fun r => r.getD c 0).sum) x hx
  try simp [dI, dG, Function.comp_def] at l2; try simp [dI, dG, Function.comp_def] at e1
  simp [mFn, mSeq, mSet, mRet, mDrop, mIf, mNext, mPass, sE, sT, putM, keepD, bnd, ret, lft, mC, mVar, mMov, mFrz, mSh, mOp2, mOp1, mOpN, mNil, mCons, mTst, mAnd, mOr, mNot, mAndV, mOrV, mNotV, mIfE, mYes_ap, mONo, mOSome, mCall, back, backO, backE, isSh, nbB_cons, nbB_nil, nb_none, nb_some, Md.nb, Md.nbs, Md.beq, Md.beqs, D.atm, D.atms, oI, oAdd, oSub, oMul, oDiv, oMod, oPow, oLt, oLe, oGt, oGe, oNeg, oIx, oLen, intOf, mChain, mLst, mTup, mgN, forT, compT, wipeS, itMd, elSh, D.isN, oIsN, oNotN, Md.okB, Md.okBs, lim1, lim2, lim3, lim4, lim0', dI, dG, Function.comp_def, m__law_sums, b__law_sums, colS, rng_len, mFor, mComp, mItL, mItR, hi, hr, e1, hx, hl, l2]
theorem law_told_ok {xs ys : List Int} (hl : xs.length ≤ 1000) : m__law_told [dI xs, dI ys] = some (.ok (.bl (decide (xs = ys)), .sh)) := by
  have hl2 : xs.length ≤ lim := le_lim hl
  have inner : compL .sh [2] (mgN 2) mYes e__law_told_1 (xs.map D.int) [] [some (dI xs, .sh), some (dI ys, .sh), none] = some ([] ++ xs.map (fun _ => D.bl true), [some (dI xs, .sh), some (dI ys, .sh), none]) := compL_over fun x _ => by
    simp [mFn, mSeq, mSet, mRet, mDrop, mIf, mNext, mPass, sE, sT, putM, keepD, bnd, ret, lft, mC, mVar, mMov, mFrz, mSh, mOp2, mOp1, mOpN, mNil, mCons, mTst, mAnd, mOr, mNot, mAndV, mOrV, mNotV, mIfE, mYes_ap, mONo, mOSome, mCall, back, backO, backE, isSh, nbB_cons, nbB_nil, nb_none, nb_some, Md.nb, Md.nbs, Md.beq, Md.beqs, D.atm, D.atms, oI, oAdd, oSub, oMul, oDiv, oMod, oPow, oLt, oLe, oGt, oGe, oNeg, oIx, oLen, intOf, mChain, mLst, mTup, mgN, forT, compT, wipeS, itMd, elSh, D.isN, oIsN, oNotN, Md.okB, Md.okBs, lim1, lim2, lim3, lim4, lim0', e__law_told_1, oIsi, D.tyN, kb_int_int, kb_int_bool]
  have ea : oAll [(D.lst (xs.map fun _ => D.bl true), Md.ow .sh)] = some (.bl true, .sh) := by
    simp only [oAll]
    rw [blsOf_fun]
    simp [List.all_eq_true]
  have e2 : oNe (.lst (xs.map .int), .sh) (.lst (ys.map .int), .sh) = some (.bl (!decide (xs = ys)), .sh) := oNe_dI
  try simp [dI, dG, Function.comp_def] at inner
  by_cases h : xs = ys
  · subst h
    simp [mFn, mSeq, mSet, mRet, mDrop, mIf, mNext, mPass, sE, sT, putM, keepD, bnd, ret, lft, mC, mVar, mMov, mFrz, mSh, mOp2, mOp1, mOpN, mNil, mCons, mTst, mAnd, mOr, mNot, mAndV, mOrV, mNotV, mIfE, mYes_ap, mONo, mOSome, mCall, back, backO, backE, isSh, nbB_cons, nbB_nil, nb_none, nb_some, Md.nb, Md.nbs, Md.beq, Md.beqs, D.atm, D.atms, oI, oAdd, oSub, oMul, oDiv, oMod, oPow, oLt, oLe, oGt, oGe, oNeg, oIx, oLen, intOf, mChain, mLst, mTup, mgN, forT, compT, wipeS, itMd, elSh, D.isN, oIsN, oNotN, Md.okB, Md.okBs, lim1, lim2, lim3, lim4, lim0', dI, dG, Function.comp_def, m__law_told, b__law_told, oIsi, D.tyN, kb_list_list, e2, mComp, mItL, inner, hl2, ea]
    trace_state
  · simp [mFn, mSeq, mSet, mRet, mDrop, mIf, mNext, mPass, sE, sT, putM, keepD, bnd, ret, lft, mC, mVar, mMov, mFrz, mSh, mOp2, mOp1, mOpN, mNil, mCons, mTst, mAnd, mOr, mNot, mAndV, mOrV, mNotV, mIfE, mYes_ap, mONo, mOSome, mCall, back, backO, backE, isSh, nbB_cons, nbB_nil, nb_none, nb_some, Md.nb, Md.nbs, Md.beq, Md.beqs, D.atm, D.atms, oI, oAdd, oSub, oMul, oDiv, oMod, oPow, oLt, oLe, oGt, oGe, oNeg, oIx, oLen, intOf, mChain, mLst, mTup, mgN, forT, compT, wipeS, itMd, elSh, D.isN, oIsN, oNotN, Md.okB, Md.okBs, lim1, lim2, lim3, lim4, lim0', dI, dG, Function.comp_def, m__law_told, b__law_told, oIsi, D.tyN, kb_list_list, e2, h]
end Ve

set_option Elab.async false
set_option linter.all false
set_option maxRecDepth 100000
set_option maxHeartbeats 4000000
namespace Ve
open PySem L2
theorem sum_set : ∀ {l : List Int} {i : Nat} {v : Int}, i < l.length → (l.set i v).sum = l.sum - l.getD i 0 + v
  | x :: l, 0, v, _ => by simp [List.set]; omega
  | x :: l, i + 1, v, h => by
    have := sum_set (l := l) (i := i) (v := v) (by simpa using h)
    simp only [List.set_cons_succ, List.sum_cons, this, List.getD_cons_succ]
    omega
/-- a table with one number put anew -/
def putG (g : List (List Int)) (r c : Nat) (v : Int) : List (List Int) := g.set r ((g.getD r []).set c v)
theorem getD_row {g : List (List Int)} {r : Nat} (h : r < g.length) : g.getD r [] ∈ g := by
  simp [List.getD, h]
theorem putG_tb {g : List (List Int)} {w r c : Nat} {v : Int} (h : Tb g w) (hr : r < g.length) (hv : 0 ≤ v) : Tb (putG g r c v) w where
  h1 := by simpa [putG] using h.h1
  h8 := by simpa [putG] using h.h8
  w1 := h.w1
  w8 := h.w8
  row := fun x hx => by
    rcases List.mem_or_eq_of_mem_set hx with h1 | rfl
    · exact h.row x h1
    · rw [List.length_set]; exact h.row _ (getD_row hr)
  nn := fun x hx y hy => by
    rcases List.mem_or_eq_of_mem_set hx with h1 | rfl
    · exact h.nn x h1 y hy
    · rcases List.mem_or_eq_of_mem_set hy with h2 | rfl
      · exact h.nn _ (getD_row hr) y h2
      · exact hv
def cell (g : List (List Int)) (r c : Nat) : Int := (g.getD r []).getD c 0
theorem cell_nn {g : List (List Int)} {w r c : Nat} (h : Tb g w) (hr : r < g.length) : 0 ≤ cell g r c := 
  getD_in (P := fun x => 0 ≤ x) (h.nn _ (getD_row hr)) (Int.le_refl _)
theorem putG_rows {g : List (List Int)} {w r c : Nat} {a : Int} (h : Tb g w) (hr : r < g.length) (hc : c < w) : (putG g r c (cell g r c + a)).map List.sum = (g.map List.sum).set r ((g.map List.sum).getD r 0 + a) := by
  unfold putG
  rw [List.map_set, sum_set (by rw [h.row _ (getD_row hr)]; exact hc)]
  congr 1
  have : (g.map List.sum).getD r 0 = (g.getD r []).sum := by simp [List.getD, hr]
  rw [this]
  unfold cell
  omega
theorem colS_get {g : List (List Int)} {w c : Nat} (hc : c < w) : (colS g w).getD c 0 = (g.map fun r => r.getD c 0).sum := by
  simp [colS, List.getD, hc]
theorem set_getD {l : List Int} {i : Nat} : l.set i (l.getD i 0) = l := by
  apply List.ext_getElem?
  intro j
  rw [List.getElem?_set]
  split
  · rename_i h
    subst h
    split
    · rename_i h2
      simp [List.getD, h2]
    · rename_i h2
      rw [List.getElem?_eq_none (by omega)]
  · rfl
theorem putG_cols {g : List (List Int)} {w r c : Nat} {a : Int} (h : Tb g w) (hr : r < g.length) (hc : c < w) : colS (putG g r c (cell g r c + a)) w = (colS g w).set c ((colS g w).getD c 0 + a) := by
  have hrow := h.row _ (getD_row hr)
  apply List.ext_getElem
  · simp [colS]
  · intro j h1 h2
    have hj : j < w := by simpa [colS] using h1
    rw [List.getElem_set]
    have e : ∀ g : List (List Int), ∀ h, (colS g w)[j]'h = (g.map fun r => r.getD j 0).sum := fun g h => by simp [colS]
    rw [e, e, colS_get hc]
    unfold putG
    rw [List.map_set]
    have hg : (g.map fun r => r.getD j 0).getD r 0 = (g.getD r []).getD j 0 := by simp [List.getD, hr]
    by_cases hcj : c = j
    · subst hcj
      rw [if_pos rfl, sum_set (by simpa using hr), hg]
      have : ((g.getD r []).set c (cell g r c + a)).getD c 0 = cell g r c + a := by
        rw [List.getD_eq_getElem?_getD, List.getElem?_set_self (by omega)]; rfl
      rw [this]
      unfold cell
      omega
    · rw [if_neg hcj]
      have : ((g.getD r []).set c (cell g r c + a)).getD j 0 = (g.map fun r => r.getD j 0).getD r 0 := by
        rw [hg, List.getD_eq_getElem?_getD, List.getElem?_set_ne hcj, ← List.getD_eq_getElem?_getD]
      rw [this, set_getD]
theorem set_cut {l : List Int} {i : Nat} {v : Int} (h : i < l.length) : l.set i v = (l.take i ++ [v]) ++ l.drop (i + 1) := by
  rw [List.set_eq_take_append_cons_drop, if_pos h]; simp
end Ve

set_option Elab.async false
set_option linter.all false
set_option maxRecDepth 100000
set_option maxHeartbeats 1000000
namespace Ve
open PySem L2
/-! ## places -/
abbrev Pl := Nat × Nat
def dP (p : Pl) : D := .tup [.int (p.1 : Int), .int (p.2 : Int)]
def dPs (ps : List Pl) : D := .lst (ps.map dP)
def plRow (w r : Nat) : List Pl := (List.range w).map fun c => (r, c)
def plc (h w : Nat) : List Pl := (List.range h).flatMap (plRow w)
theorem plRow_len {w r : Nat} : (plRow w r).length = w := by simp [plRow]
theorem plc_len {h w : Nat} : (plc h w).length = h * w := by
  unfold plc
  induction h with
  | zero => simp
  | succ h ih => rw [List.range_succ, List.flatMap_append, List.length_append, ih]; simp [plRow, Nat.succ_mul]
theorem plc_mem {h w : Nat} {p : Pl} : p ∈ plc h w ↔ p.1 < h ∧ p.2 < w := by
  unfold plc plRow
  simp only [List.mem_flatMap, List.mem_range, List.mem_map]
  constructor
  · rintro ⟨r, hr, c, hc, rfl⟩; exact ⟨hr, hc⟩
  · rintro ⟨hr, hc⟩; exact ⟨p.1, hr, p.2, hc, rfl⟩
theorem iR_nat {n : Nat} {m : Md} (h : n ≤ 1000) : iR [(.int (n : Int), m)] = some (rng n) := by
  rw [iR_int (by omega)]; simp
theorem all_places_ok {rows cs : List D} (h0 : atI rows 0 = some (.lst cs)) (h8 : rows.length ≤ 9) (w8 : cs.length ≤ 9) : m_all_places [.lst rows] = some (.ok (dPs (plc rows.length cs.length), .ow .sh)) := by
  have ir := iR_nat (m := .sh) (n := rows.length) (by omega)
  have ic := iR_nat (m := .sh) (n := cs.length) (by omega)
  have inner : ∀ (r : Nat) (acc : List D) (x : Ent), Ent.nb x = true → acc.length + cs.length < lim → ∃ x', Ent.nb x' = true ∧ forL (mgN 3) l_all_places_1 (rng cs.length) [some (.lst rows, .sh), some (.lst acc, .ow .sh), some (.int (r : Int), .sh), x] = some (.nx [some (.lst rows, .sh), some (.lst (acc ++ (plRow cs.length r).map dP), .ow .sh), some (.int (r : Int), .sh), x']) := fun r acc x hx hlen => by
    obtain ⟨s', e1, x', hx', rfl⟩ := forL_run (mg := mgN 3) (body := l_all_places_1) (items := rng cs.length) (ss := [some (.lst rows, .sh), some (.lst acc, .ow .sh), some (.int (r : Int), .sh), x])
      (fun i s => ∃ x : Ent, Ent.nb x = true ∧ s = [some (.lst rows, .sh), some (.lst (acc ++ ((List.range i).map fun c => (r, c)).map dP), .ow .sh), some (.int (r : Int), .sh), x])
      (fun i d s hd ⟨x, hx, hs⟩ => by
        obtain ⟨hi, rfl⟩ := rng_get hd
        subst hs
        have hil : acc.length + i < lim := by omega
        simp [mFn, mSeq, mSet, mRet, mDrop, mIf, mNext, mPass, sE, sT, putM, keepD, bnd, ret, lft, mC, mVar, mMov, mFrz, mSh, mOp2, mOp1, mOpN, mNil, mCons, mTst, mAnd, mOr, mNot, mAndV, mOrV, mNotV, mIfE, mYes_ap, mONo, mOSome, mCall, back, backO, backE, isSh, nbB_cons, nbB_nil, nb_none, nb_some, Md.nb, Md.nbs, Md.beq, Md.beqs, D.atm, D.atms, oI, oAdd, oSub, oMul, oDiv, oMod, oPow, oLt, oLe, oGt, oGe, oNeg, oIx, oLen, intOf, mChain, mLst, mTup, mgN, forT, compT, wipeS, itMd, elSh, D.isN, oIsN, oNotN, Md.okB, Md.okBs, lim1, lim2, lim3, lim4, lim0', l_all_places_1, mApp, hx, hil]
        simp [List.range_succ, dP]) ⟨x, hx, by simp⟩
    refine ⟨x', hx', ?_⟩
    rw [e1]
    simp [plRow, rng_len]
  obtain ⟨s', e1, x, y, hx, hy, rfl⟩ := forL_run (mg := mgN 2) (body := l_all_places_2) (items := rng rows.length) (ss := [some (.lst rows, .sh), some (.lst [], .ow .sh), none, none])
    (fun i s => ∃ x y : Ent, Ent.nb x = true ∧ Ent.nb y = true ∧ s = [some (.lst rows, .sh), some (.lst ((plc i cs.length).map dP), .ow .sh), x, y])
    (fun i d s hd ⟨x, y, hx, hy, hs⟩ => by
      obtain ⟨hi, rfl⟩ := rng_get hd
      subst hs
      have hb : ((plc i cs.length).map dP).length + cs.length < lim := by
        rw [List.length_map, plc_len]
        have : i * cs.length ≤ 9 * 9 := Nat.mul_le_mul (by omega) w8
        exact Nat.lt_of_lt_of_le (show i * cs.length + cs.length < 1000 by omega) (by decide)
      obtain ⟨x', hx', e2⟩ := inner i _ y hy hb
      simp [mFn, mSeq, mSet, mRet, mDrop, mIf, mNext, mPass, sE, sT, putM, keepD, bnd, ret, lft, mC, mVar, mMov, mFrz, mSh, mOp2, mOp1, mOpN, mNil, mCons, mTst, mAnd, mOr, mNot, mAndV, mOrV, mNotV, mIfE, mYes_ap, mONo, mOSome, mCall, back, backO, backE, isSh, nbB_cons, nbB_nil, nb_none, nb_some, Md.nb, Md.nbs, Md.beq, Md.beqs, D.atm, D.atms, oI, oAdd, oSub, oMul, oDiv, oMod, oPow, oLt, oLe, oGt, oGe, oNeg, oIx, oLen, intOf, mChain, mLst, mTup, mgN, forT, compT, wipeS, itMd, elSh, D.isN, oIsN, oNotN, Md.okB, Md.okBs, lim1, lim2, lim3, lim4, lim0', l_all_places_2, mFor, mItR, h0, ic, e2, hx, hy, hx']
      simp [plc, List.range_succ, List.flatMap_append]
      exact ⟨rfl, hx'⟩) ⟨none, none, rfl, rfl, rfl⟩
  unfold dPs
  simp [mFn, mSeq, mSet, mRet, mDrop, mIf, mNext, mPass, sE, sT, putM, keepD, bnd, ret, lft, mC, mVar, mMov, mFrz, mSh, mOp2, mOp1, mOpN, mNil, mCons, mTst, mAnd, mOr, mNot, mAndV, mOrV, mNotV, mIfE, mYes_ap, mONo, mOSome, mCall, back, backO, backE, isSh, nbB_cons, nbB_nil, nb_none, nb_some, Md.nb, Md.nbs, Md.beq, Md.beqs, D.atm, D.atms, oI, oAdd, oSub, oMul, oDiv, oMod, oPow, oLt, oLe, oGt, oGe, oNeg, oIx, oLen, intOf, mChain, mLst, mTup, mgN, forT, compT, wipeS, itMd, elSh, D.isN, oIsN, oNotN, Md.okB, Md.okBs, lim1, lim2, lim3, lim4, lim0', m_all_places, b_all_places, mFor, mItR, ir, e1, hx, hy, rng_len]
/-- a number from 1 on -/
def isPos : D → Bool
  | .int i => decide (1 ≤ i)
  | _ => false
theorem need_number_ok {d : D} (h : d.tyN.isSome = true) : m_need_number [d] = some (if isPos d then .ok (.non, .sh) else .er ⟨4, [], []⟩) := by
  have e := is_number_ok h
  cases d with
  | int i =>
    by_cases h0 : 0 ≤ i
    · by_cases h1 : i = 0
      · subst h1
        simp [mFn, mSeq, mSet, mRet, mDrop, mIf, mNext, mPass, sE, sT, putM, keepD, bnd, ret, lft, mC, mVar, mMov, mFrz, mSh, mOp2, mOp1, mOpN, mNil, mCons, mTst, mAnd, mOr, mNot, mAndV, mOrV, mNotV, mIfE, mYes_ap, mONo, mOSome, mCall, back, backO, backE, isSh, nbB_cons, nbB_nil, nb_none, nb_some, Md.nb, Md.nbs, Md.beq, Md.beqs, D.atm, D.atms, oI, oAdd, oSub, oMul, oDiv, oMod, oPow, oLt, oLe, oGt, oGe, oNeg, oIx, oLen, intOf, mChain, mLst, mTup, mgN, forT, compT, wipeS, itMd, elSh, D.isN, oIsN, oNotN, Md.okB, Md.okBs, lim1, lim2, lim3, lim4, lim0', m_need_number, b_need_number, e, isNum, isPos, mRaise, oEq_int]
      · have h2 : 1 ≤ i := by omega
        simp [mFn, mSeq, mSet, mRet, mDrop, mIf, mNext, mPass, sE, sT, putM, keepD, bnd, ret, lft, mC, mVar, mMov, mFrz, mSh, mOp2, mOp1, mOpN, mNil, mCons, mTst, mAnd, mOr, mNot, mAndV, mOrV, mNotV, mIfE, mYes_ap, mONo, mOSome, mCall, back, backO, backE, isSh, nbB_cons, nbB_nil, nb_none, nb_some, Md.nb, Md.nbs, Md.beq, Md.beqs, D.atm, D.atms, oI, oAdd, oSub, oMul, oDiv, oMod, oPow, oLt, oLe, oGt, oGe, oNeg, oIx, oLen, intOf, mChain, mLst, mTup, mgN, forT, compT, wipeS, itMd, elSh, D.isN, oIsN, oNotN, Md.okB, Md.okBs, lim1, lim2, lim3, lim4, lim0', m_need_number, b_need_number, e, isNum, isPos, mRaise, oEq_int, h0, h1, h2]
    · have h2 : ¬ 1 ≤ i := by omega
      simp [mFn, mSeq, mSet, mRet, mDrop, mIf, mNext, mPass, sE, sT, putM, keepD, bnd, ret, lft, mC, mVar, mMov, mFrz, mSh, mOp2, mOp1, mOpN, mNil, mCons, mTst, mAnd, mOr, mNot, mAndV, mOrV, mNotV, mIfE, mYes_ap, mONo, mOSome, mCall, back, backO, backE, isSh, nbB_cons, nbB_nil, nb_none, nb_some, Md.nb, Md.nbs, Md.beq, Md.beqs, D.atm, D.atms, oI, oAdd, oSub, oMul, oDiv, oMod, oPow, oLt, oLe, oGt, oGe, oNeg, oIx, oLen, intOf, mChain, mLst, mTup, mgN, forT, compT, wipeS, itMd, elSh, D.isN, oIsN, oNotN, Md.okB, Md.okBs, lim1, lim2, lim3, lim4, lim0', m_need_number, b_need_number, e, isNum, isPos, mRaise, oEq_int, h0, h2]
  | _ => first | (simp [D.tyN] at h; done) | simp [mFn, mSeq, mSet, mRet, mDrop, mIf, mNext, mPass, sE, sT, putM, keepD, bnd, ret, lft, mC, mVar, mMov, mFrz, mSh, mOp2, mOp1, mOpN, mNil, mCons, mTst, mAnd, mOr, mNot, mAndV, mOrV, mNotV, mIfE, mYes_ap, mONo, mOSome, mCall, back, backO, backE, isSh, nbB_cons, nbB_nil, nb_none, nb_some, Md.nb, Md.nbs, Md.beq, Md.beqs, D.atm, D.atms, oI, oAdd, oSub, oMul, oDiv, oMod, oPow, oLt, oLe, oGt, oGe, oNeg, oIx, oLen, intOf, mChain, mLst, mTup, mgN, forT, compT, wipeS, itMd, elSh, D.isN, oIsN, oNotN, Md.okB, Md.okBs, lim1, lim2, lim3, lim4, lim0', m_need_number, b_need_number, e, isNum, isPos, mRaise]
end Ve

set_option Elab.async false
set_option linter.all false
set_option maxRecDepth 100000
set_option maxHeartbeats 1000000
namespace Ve
open PySem L2
theorem atms_dI {xs : List Int} : D.atms (xs.map D.int) = true := by
  induction xs with
  | nil => rfl
  | cons x xs ih => simp [D.atms, D.atm, ih]
theorem oIx_dI {xs : List Int} {i : Nat} {m n : Md} (h : i < xs.length) : oIx (dI xs, m) (.int (i : Int), n) = some (.int (xs.getD i 0), .sh) := by
  simp only [oIx, dI]
  rw [atI_row h]
  simp [itMd, D.atm]
theorem oIx_G {g : List (List Int)} {i : Nat} {m n : Md} (h : i < g.length) : oIx (dG g, m) (.int (i : Int), n) = some (dI (g.getD i []), itMd m (dI (g.getD i []))) := by
  simp only [oIx, dG]
  rw [atI_nat' (by omega), List.getElem?_map]
  simp [h]
theorem oIx_P0 {p : Pl} {m n : Md} : oIx (dP p, m) (.int 0, n) = some (.int (p.1 : Int), .sh) := by
  simp [oIx, dP, atI_nat', itMd, D.atm]
theorem oIx_P1 {p : Pl} {m n : Md} : oIx (dP p, m) (.int 1, n) = some (.int (p.2 : Int), .sh) := by
  simp [oIx, dP, atI_nat', itMd, D.atm]
theorem compL_filt {α : Type} {em : Md} {own : List Nat} {mg : MG} {cond : MT} {elt : ME} {g f : α → D} {p : α → Bool} {xs : List α} {ss : SS} : ∀ {acc : List D}, (∀ x ∈ xs, compT em own mg cond elt (g x) ss = some (if p x then some (f x) else none, ss)) →
    compL em own mg cond elt (xs.map g) acc ss = some (acc ++ (xs.filter p).map f, ss) := by
  induction xs with
  | nil => intro acc _; simp [compL]
  | cons x xs ih =>
    intro acc h
    simp only [List.map_cons]
    unfold compL
    rw [h x List.mem_cons_self, Option.bind_some]
    simp only
    rw [ih fun y hy => h y (List.mem_cons_of_mem _ hy)]
    by_cases hp : p x = true
    · simp [hp]
    · simp [hp]
theorem all_places_G {g : List (List Int)} {w : Nat} (h : Tb g w) : m_all_places [dG g] = some (.ok (dPs (plc g.length w), .ow .sh)) := by
  obtain ⟨r0, e0, hi⟩ := tb_ix0 h
  have := all_places_ok (rows := g.map dI) (cs := r0.map D.int) hi (by simp; have := h.h8; omega) (by simp; have := h.w8; omega)
  simpa [e0, dG] using this
def cellP (g : List (List Int)) (p : Pl) : Int := cell g p.1 p.2
def smalls (g : List (List Int)) (w : Nat) (b : Int) : List Pl := (plc g.length w).filter fun p => decide (1 ≤ cellP g p) && decide (cellP g p ≤ b)
theorem cell_ix {g : List (List Int)} {w : Nat} {p : Pl} (h : Tb g w) (hp : p ∈ plc g.length w) : (∀ m n, oIx (dG g, m) (.int (p.1 : Int), n) = some (dI (g.getD p.1 []), itMd m (dI (g.getD p.1 [])))) ∧ ∀ m n, oIx (dI (g.getD p.1 []), m) (.int (p.2 : Int), n) = some (.int (cellP g p), .sh) := by
  obtain ⟨h1, h2⟩ := plc_mem.mp hp
  exact ⟨fun m n => oIx_G h1, fun m n => oIx_dI (by rw [h.row _ (getD_row h1)]; exact h2)⟩
theorem plc_lim {h w : Nat} (h8 : h ≤ 9) (w8 : w ≤ 9) : (plc h w).length ≤ 81 := by
  rw [plc_len]
  exact Nat.mul_le_mul h8 w8
theorem small_places_ok {g : List (List Int)} {w : Nat} {b : Int} (h : Tb g w) (hb : 1 ≤ b) : m_small_places [dG g, .int b] = some (.ok (dPs (smalls g w b), .ow .sh)) := by
  have e1 := need_tb h
  have e2 : m_need_number [.int b] = some (.ok (.non, .sh)) := by rw [need_number_ok (by rfl)]; simp [isPos, hb]
  have e3 := all_places_G h
  have hl : (plc g.length w).length ≤ lim := le_lim (Nat.le_trans (plc_lim (by have := h.h8; omega) (by have := h.w8; omega)) (by decide))
  have inner : compL .sh [2] (mgN 2) t_small_places_1 e_small_places_1 ((plc g.length w).map dP) [] [some (dG g, .sh), some (.int b, .sh), none] = some ([] ++ (smalls g w b).map dP, [some (dG g, .sh), some (.int b, .sh), none]) := compL_filt fun p hp => by
    obtain ⟨f1, f2⟩ := cell_ix h hp
    generalize g.getD p.1 [] = row at *
    by_cases c1 : 1 ≤ cellP g p
    · by_cases c2 : cellP g p ≤ b
      · simp [mFn, mSeq, mSet, mRet, mDrop, mIf, mNext, mPass, sE, sT, putM, keepD, bnd, ret, lft, mC, mVar, mMov, mFrz, mSh, mOp2, mOp1, mOpN, mNil, mCons, mTst, mAnd, mOr, mNot, mAndV, mOrV, mNotV, mIfE, mYes_ap, mONo, mOSome, mCall, back, backO, backE, isSh, nbB_cons, nbB_nil, nb_none, nb_some, Md.nb, Md.nbs, Md.beq, Md.beqs, D.atm, D.atms, oI, oAdd, oSub, oMul, oDiv, oMod, oPow, oLt, oLe, oGt, oGe, oNeg, oLen, intOf, mChain, mLst, mTup, mgN, forT, compT, wipeS, itMd, elSh, D.isN, oIsN, oNotN, Md.okB, Md.okBs, lim1, lim2, lim3, lim4, lim0', t_small_places_1, e_small_places_1, oIx_P0, oIx_P1, f1, f2, c1, c2]
      · simp [mFn, mSeq, mSet, mRet, mDrop, mIf, mNext, mPass, sE, sT, putM, keepD, bnd, ret, lft, mC, mVar, mMov, mFrz, mSh, mOp2, mOp1, mOpN, mNil, mCons, mTst, mAnd, mOr, mNot, mAndV, mOrV, mNotV, mIfE, mYes_ap, mONo, mOSome, mCall, back, backO, backE, isSh, nbB_cons, nbB_nil, nb_none, nb_some, Md.nb, Md.nbs, Md.beq, Md.beqs, D.atm, D.atms, oI, oAdd, oSub, oMul, oDiv, oMod, oPow, oLt, oLe, oGt, oGe, oNeg, oLen, intOf, mChain, mLst, mTup, mgN, forT, compT, wipeS, itMd, elSh, D.isN, oIsN, oNotN, Md.okB, Md.okBs, lim1, lim2, lim3, lim4, lim0', t_small_places_1, e_small_places_1, oIx_P0, oIx_P1, f1, f2, c1, c2]
    · simp [mFn, mSeq, mSet, mRet, mDrop, mIf, mNext, mPass, sE, sT, putM, keepD, bnd, ret, lft, mC, mVar, mMov, mFrz, mSh, mOp2, mOp1, mOpN, mNil, mCons, mTst, mAnd, mOr, mNot, mAndV, mOrV, mNotV, mIfE, mYes_ap, mONo, mOSome, mCall, back, backO, backE, isSh, nbB_cons, nbB_nil, nb_none, nb_some, Md.nb, Md.nbs, Md.beq, Md.beqs, D.atm, D.atms, oI, oAdd, oSub, oMul, oDiv, oMod, oPow, oLt, oLe, oGt, oGe, oNeg, oLen, intOf, mChain, mLst, mTup, mgN, forT, compT, wipeS, itMd, elSh, D.isN, oIsN, oNotN, Md.okB, Md.okBs, lim1, lim2, lim3, lim4, lim0', t_small_places_1, e_small_places_1, oIx_P0, oIx_P1, f1, f2, c1]
  unfold dPs at e3 ⊢
  simp [mFn, mSeq, mSet, mRet, mDrop, mIf, mNext, mPass, sE, sT, putM, keepD, bnd, ret, lft, mC, mVar, mMov, mFrz, mSh, mOp2, mOp1, mOpN, mNil, mCons, mTst, mAnd, mOr, mNot, mAndV, mOrV, mNotV, mIfE, mYes_ap, mONo, mOSome, mCall, back, backO, backE, isSh, nbB_cons, nbB_nil, nb_none, nb_some, Md.nb, Md.nbs, Md.beq, Md.beqs, D.atm, D.atms, oI, oAdd, oSub, oMul, oDiv, oMod, oPow, oLt, oLe, oGt, oGe, oNeg, oLen, intOf, mChain, mLst, mTup, mgN, forT, compT, wipeS, itMd, elSh, D.isN, oIsN, oNotN, Md.okB, Md.okBs, lim1, lim2, lim3, lim4, lim0', m_small_places, b_small_places, e1, e2, e3, mComp, mItL, inner, hl]
end Ve

set_option Elab.async false
set_option linter.all false
set_option maxRecDepth 100000
set_option maxHeartbeats 1000000
namespace Ve
open PySem L2
theorem eqv_P {x y : Pl} : (dP x).eqv (dP y) = decide (x = y) := by
  simp only [D.eqv, D.py, D.pys, dP, PyData.eqv, PyData.eqvAll]
  obtain ⟨a, b⟩ := x
  obtain ⟨c, d⟩ := y
  by_cases h1 : a = c <;> by_cases h2 : b = d <;> simp [h1, h2] <;> omega
theorem eqv_Ps {xs ys : List Pl} : (dPs xs).eqv (dPs ys) = decide (xs = ys) := eqv_map (fun _ _ => eqv_P) xs ys
theorem ok_P {n : Nat} {p : Pl} : D.ok (n + 1) (dP p) := ok_tup fun d hd => by
  simp only [List.mem_cons, List.not_mem_nil, or_false] at hd
  rcases hd with rfl | rfl <;> exact ok_int
theorem ok_Ps {n : Nat} {ps : List Pl} : D.ok (n + 2) (dPs ps) := ok_lst fun d hd => by
  obtain ⟨p, _, rfl⟩ := List.mem_map.mp hd
  exact ok_P
theorem shp_P {p : Pl} : (dP p).shp = true := shp_of (n := 1) ok_P (by decide)
theorem shp_Ps {ps : List Pl} : (dPs ps).shp = true := shp_of (n := 2) ok_Ps (by decide)
theorem oEq_P {i j : Pl} {m n : Md} : oEq (dP i, m) (dP j, n) = some (.bl (decide (i = j)), .sh) := by simp [oEq, shp_P, eqv_P]
theorem oNe_P {i j : Pl} {m n : Md} : oNe (dP i, m) (dP j, n) = some (.bl (!decide (i = j)), .sh) := by simp [oNe, shp_P, eqv_P]
theorem oEq_Ps {i j : List Pl} {m n : Md} : oEq (dPs i, m) (dPs j, n) = some (.bl (decide (i = j)), .sh) := by simp [oEq, shp_Ps, eqv_Ps]
theorem oNe_Ps {i j : List Pl} {m n : Md} : oNe (dPs i, m) (dPs j, n) = some (.bl (!decide (i = j)), .sh) := by simp [oNe, shp_Ps, eqv_Ps]
/-! ## k03 -/
theorem law_due_ok {g : List (List Int)} {w : Nat} {b : Int} (h : Tb g w) : m__law_due [dG g, .int b] = some (.ok (dPs (smalls g w b), .ow .sh)) := by
  obtain ⟨r0, e0, hi0⟩ := tb_ix0 h
  have hh8 := h.h8
  have hw8 := h.w8
  have h00 : oIx (dG g, Md.sh) (.int 0, .sh) = some (dI r0, .sh) := by
    simp only [oIx, dG]; rw [hi0]; simp [itMd, dI, D.atm, isSh]
  have hlen : oLen [(dI r0, Md.sh)] = some (.int (w : Int), .sh) := by simp [oLen, dI, e0]
  have hlenG : oLen [(dG g, Md.sh)] = some (.int (g.length : Int), .sh) := by simp [oLen, dG]
  have ir := iR_nat (m := .sh) (n := g.length) (by omega)
  have ic := iR_nat (m := .sh) (n := w) (by omega)
  let p : Pl → Bool := fun p => decide (1 ≤ cellP g p) && decide (cellP g p ≤ b)
  have inner : ∀ (r : Nat) (acc : List D) (x : Ent), r < g.length → Ent.nb x = true → acc.length + w < lim → ∃ x', Ent.nb x' = true ∧ forL (mgN 4) l__law_due_1 (rng w) [some (dG g, .sh), some (.int b, .sh), some (.lst acc, .ow .sh), some (.int (r : Int), .sh), x] = some (.nx [some (dG g, .sh), some (.int b, .sh), some (.lst (acc ++ ((plRow w r).filter p).map dP), .ow .sh), some (.int (r : Int), .sh), x']) := fun r acc x hr hx hlen => by
    obtain ⟨s', e1, x', hx', rfl⟩ := forL_run (mg := mgN 4) (body := l__law_due_1) (items := rng w) (ss := [some (dG g, .sh), some (.int b, .sh), some (.lst acc, .ow .sh), some (.int (r : Int), .sh), x])
      (fun i s => ∃ x : Ent, Ent.nb x = true ∧ s = [some (dG g, .sh), some (.int b, .sh), some (.lst (acc ++ ((((List.range i).map fun c => (r, c)).filter p).map dP)), .ow .sh), some (.int (r : Int), .sh), x])
      (fun i d s hd ⟨x, hx, hs⟩ => by
        obtain ⟨hi, rfl⟩ := rng_get hd
        subst hs
        obtain ⟨f1, f2⟩ := cell_ix (p := (r, i)) h (plc_mem.mpr ⟨hr, hi⟩)
        dsimp only at f1 f2
        have hpe : p (r, i) = (decide (1 ≤ cellP g (r, i)) && decide (cellP g (r, i) ≤ b)) := rfl
        have hfl : (((List.range i).map fun c => (r, c)).filter p).length ≤ i := Nat.le_trans (List.length_filter_le _ _) (by simp)
        have hil : (acc ++ ((((List.range i).map fun c => (r, c)).filter p).map dP)).length < lim := by rw [List.length_append, List.length_map]; omega
        have hnext : (((List.range (i + 1)).map fun c => (r, c)).filter p) = ((List.range i).map fun c => (r, c)).filter p ++ (if p (r, i) then [(r, i)] else []) := by
          rw [List.range_succ, List.map_append, List.filter_append]
          by_cases hp : p (r, i) = true <;> simp [hp]
        rw [hnext]
        generalize ((List.range i).map fun c => (r, c)).filter p = cur at *
        generalize g.getD r [] = row at *
        rw [hpe]
        generalize hx3 : acc ++ cur.map dP = A at hil
        have hA : ∀ l : List Pl, acc ++ (cur ++ l).map dP = A ++ l.map dP := fun l => by rw [← hx3]; simp
        rw [hA]
        by_cases c1 : 1 ≤ cellP g (r, i)
        · have c1' : 0 < cellP g (r, i) := by omega
          by_cases c2 : cellP g (r, i) ≤ b
          · simp [mFn, mSeq, mSet, mRet, mDrop, mIf, mNext, mPass, sE, sT, putM, keepD, bnd, ret, lft, mC, mVar, mMov, mFrz, mSh, mOp2, mOp1, mOpN, mNil, mCons, mTst, mAnd, mOr, mNot, mAndV, mOrV, mNotV, mIfE, mYes_ap, mONo, mOSome, mCall, back, backO, backE, isSh, nbB_cons, nbB_nil, nb_none, nb_some, Md.nb, Md.nbs, Md.beq, Md.beqs, D.atm, D.atms, oI, oAdd, oSub, oMul, oDiv, oMod, oPow, oLt, oLe, oGt, oGe, oNeg, oLen, intOf, mChain, mLst, mTup, mgN, forT, compT, wipeS, itMd, elSh, D.isN, oIsN, oNotN, Md.okB, Md.okBs, lim1, lim2, lim3, lim4, lim0', l__law_due_1, mApp, hx, hil, f1, f2, c1, c1', c2, dP]
          · simp [mFn, mSeq, mSet, mRet, mDrop, mIf, mNext, mPass, sE, sT, putM, keepD, bnd, ret, lft, mC, mVar, mMov, mFrz, mSh, mOp2, mOp1, mOpN, mNil, mCons, mTst, mAnd, mOr, mNot, mAndV, mOrV, mNotV, mIfE, mYes_ap, mONo, mOSome, mCall, back, backO, backE, isSh, nbB_cons, nbB_nil, nb_none, nb_some, Md.nb, Md.nbs, Md.beq, Md.beqs, D.atm, D.atms, oI, oAdd, oSub, oMul, oDiv, oMod, oPow, oLt, oLe, oGt, oGe, oNeg, oLen, intOf, mChain, mLst, mTup, mgN, forT, compT, wipeS, itMd, elSh, D.isN, oIsN, oNotN, Md.okB, Md.okBs, lim1, lim2, lim3, lim4, lim0', l__law_due_1, mApp, hx, hil, f1, f2, c1, c1', c2]
        · have c1' : ¬ 0 < cellP g (r, i) := by omega
          simp [mFn, mSeq, mSet, mRet, mDrop, mIf, mNext, mPass, sE, sT, putM, keepD, bnd, ret, lft, mC, mVar, mMov, mFrz, mSh, mOp2, mOp1, mOpN, mNil, mCons, mTst, mAnd, mOr, mNot, mAndV, mOrV, mNotV, mIfE, mYes_ap, mONo, mOSome, mCall, back, backO, backE, isSh, nbB_cons, nbB_nil, nb_none, nb_some, Md.nb, Md.nbs, Md.beq, Md.beqs, D.atm, D.atms, oI, oAdd, oSub, oMul, oDiv, oMod, oPow, oLt, oLe, oGt, oGe, oNeg, oLen, intOf, mChain, mLst, mTup, mgN, forT, compT, wipeS, itMd, elSh, D.isN, oIsN, oNotN, Md.okB, Md.okBs, lim1, lim2, lim3, lim4, lim0', l__law_due_1, mApp, hx, hil, f1, f2, c1, c1']) ⟨x, hx, by simp⟩
    refine ⟨x', hx', ?_⟩
    rw [e1]
    simp [plRow, rng_len]
  obtain ⟨s', e1, x, y, hx, hy, rfl⟩ := forL_run (mg := mgN 3) (body := l__law_due_2) (items := rng g.length) (ss := [some (dG g, .sh), some (.int b, .sh), some (.lst [], .ow .sh), none, none])
    (fun i s => ∃ x y : Ent, Ent.nb x = true ∧ Ent.nb y = true ∧ s = [some (dG g, .sh), some (.int b, .sh), some (.lst (((plc i w).filter p).map dP), .ow .sh), x, y])
    (fun i d s hd ⟨x, y, hx, hy, hs⟩ => by
      obtain ⟨hi, rfl⟩ := rng_get hd
      subst hs
      have hb : (((plc i w).filter p).map dP).length + w < lim := by
        rw [List.length_map]
        have h1 := List.length_filter_le p (plc i w)
        have h2 := plc_lim (h := i) (w := w) (by omega) (by omega)
        exact Nat.lt_of_lt_of_le (show _ + w < 1000 by omega) (by decide)
      obtain ⟨x', hx', e2⟩ := inner i _ y hi hy hb
      have hnext : ((plc (i + 1) w).filter p).map dP = ((plc i w).filter p).map dP ++ ((plRow w i).filter p).map dP := by
        unfold plc
        rw [List.range_succ, List.flatMap_append, List.filter_append, List.map_append]
        simp
      rw [hnext]
      generalize ((plc i w).filter p).map dP = A at *
      generalize ((plRow w i).filter p).map dP = B at *
      simp [mFn, mSeq, mSet, mRet, mDrop, mIf, mNext, mPass, sE, sT, putM, keepD, bnd, ret, lft, mC, mVar, mMov, mFrz, mSh, mOp2, mOp1, mOpN, mNil, mCons, mTst, mAnd, mOr, mNot, mAndV, mOrV, mNotV, mIfE, mYes_ap, mONo, mOSome, mCall, back, backO, backE, isSh, nbB_cons, nbB_nil, nb_none, nb_some, Md.nb, Md.nbs, Md.beq, Md.beqs, D.atm, D.atms, oI, oAdd, oSub, oMul, oDiv, oMod, oPow, oLt, oLe, oGt, oGe, oNeg, intOf, mChain, mLst, mTup, mgN, forT, compT, wipeS, itMd, elSh, D.isN, oIsN, oNotN, Md.okB, Md.okBs, lim1, lim2, lim3, lim4, lim0', l__law_due_2, mFor, mItR, h00, hlen, ic, e2, hx, hy, hx']) ⟨none, none, rfl, rfl, rfl⟩
  have hs : smalls g w b = (plc g.length w).filter p := rfl
  rw [hs]
  unfold dPs
  rw [rng_len] at e1
  generalize ((plc g.length w).filter p).map dP = A at *
  simp [mFn, mSeq, mSet, mRet, mDrop, mIf, mNext, mPass, sE, sT, putM, keepD, bnd, ret, lft, mC, mVar, mMov, mFrz, mSh, mOp2, mOp1, mOpN, mNil, mCons, mTst, mAnd, mOr, mNot, mAndV, mOrV, mNotV, mIfE, mYes_ap, mONo, mOSome, mCall, back, backO, backE, isSh, nbB_cons, nbB_nil, nb_none, nb_some, Md.nb, Md.nbs, Md.beq, Md.beqs, D.atm, D.atms, oI, oAdd, oSub, oMul, oDiv, oMod, oPow, oLt, oLe, oGt, oGe, oNeg, intOf, mChain, mLst, mTup, mgN, forT, compT, wipeS, itMd, elSh, D.isN, oIsN, oNotN, Md.okB, Md.okBs, lim1, lim2, lim3, lim4, lim0', m__law_due, b__law_due, mFor, mItR, hlenG, ir, e1, hx, hy]
theorem law_told3_ok {ps qs : List Pl} (hl : ps.length ≤ 1000) : m__law_told_v1 [dPs ps, dPs qs] = some (.ok (.bl (decide (ps = qs)), .sh)) := by
  have e2 : oNe (.lst (ps.map dP), .sh) (dPs qs, .sh) = some (.bl (!decide (ps = qs)), .sh) := oNe_Ps
  by_cases h : ps = qs
  · obtain ⟨s', e1, x, hx, rfl⟩ := forL_run (mg := mgN 2) (body := l__law_told_v1_1) (items := ps.map dP) (ss := [some (.lst (ps.map dP), .sh), some (dPs qs, .sh), none, none])
      (fun i s => ∃ x : Ent, Ent.nb x = true ∧ s = [some (.lst (ps.map dP), .sh), some (dPs qs, .sh), x, none])
      (fun i d s hd ⟨x, hx, hs⟩ => by
        obtain ⟨p, hp, rfl⟩ := get_map hd
        subst hs
        have inner : compL .sh [3] (mgN 3) mYes e__law_told_v1_1 [.int (p.1 : Int), .int (p.2 : Int)] [] [some (.lst (ps.map dP), .sh), some (dPs qs, .sh), some (dP p, .sh), none] = some ([.bl false, .bl false], [some (.lst (ps.map dP), .sh), some (dPs qs, .sh), some (dP p, .sh), none]) := by
          simp [mFn, mSeq, mSet, mRet, mDrop, mIf, mNext, mPass, sE, sT, putM, keepD, bnd, ret, lft, mC, mVar, mMov, mFrz, mSh, mOp2, mOp1, mOpN, mNil, mCons, mTst, mAnd, mOr, mNot, mAndV, mOrV, mNotV, mIfE, mYes_ap, mONo, mOSome, mCall, back, backO, backE, isSh, nbB_cons, nbB_nil, nb_none, nb_some, Md.nb, Md.nbs, Md.beq, Md.beqs, D.atm, D.atms, oI, oAdd, oSub, oMul, oDiv, oMod, oPow, oLt, oLe, oGt, oGe, oNeg, oIx, oLen, intOf, mChain, mLst, mTup, mgN, forT, compT, wipeS, itMd, elSh, D.isN, oIsN, oNotN, Md.okB, Md.okBs, lim1, lim2, lim3, lim4, lim0', compL, e__law_told_v1_1, oIsi, D.tyN, kb_int_bool, kb_int_int]
        unfold dP at inner ⊢
        simp [mFn, mSeq, mSet, mRet, mDrop, mIf, mNext, mPass, sE, sT, putM, keepD, bnd, ret, lft, mC, mVar, mMov, mFrz, mSh, mOp2, mOp1, mOpN, mNil, mCons, mTst, mAnd, mOr, mNot, mAndV, mOrV, mNotV, mIfE, mYes_ap, mONo, mOSome, mCall, back, backO, backE, isSh, nbB_cons, nbB_nil, nb_none, nb_some, Md.nb, Md.nbs, Md.beq, Md.beqs, D.atm, D.atms, oI, oAdd, oSub, oMul, oDiv, oMod, oPow, oLt, oLe, oGt, oGe, oNeg, oIx, oLen, intOf, mChain, mLst, mTup, mgN, forT, compT, wipeS, itMd, elSh, D.isN, oIsN, oNotN, Md.okB, Md.okBs, lim1, lim2, lim3, lim4, lim0', l__law_told_v1_1, hx, oIsi, D.tyN, kb_tuple_tuple, mComp, mItT, inner, oAny, blsOf, oNe_int]) ⟨none, rfl, rfl⟩
    have hl2 : ps.length ≤ lim := le_lim hl
    subst h
    unfold dPs at e1 e2 ⊢
    simp [mFn, mSeq, mSet, mRet, mDrop, mIf, mNext, mPass, sE, sT, putM, keepD, bnd, ret, lft, mC, mVar, mMov, mFrz, mSh, mOp2, mOp1, mOpN, mNil, mCons, mTst, mAnd, mOr, mNot, mAndV, mOrV, mNotV, mIfE, mYes_ap, mONo, mOSome, mCall, back, backO, backE, isSh, nbB_cons, nbB_nil, nb_none, nb_some, Md.nb, Md.nbs, Md.beq, Md.beqs, D.atm, D.atms, oI, oAdd, oSub, oMul, oDiv, oMod, oPow, oLt, oLe, oGt, oGe, oNeg, oIx, oLen, intOf, mChain, mLst, mTup, mgN, forT, compT, wipeS, itMd, elSh, D.isN, oIsN, oNotN, Md.okB, Md.okBs, lim1, lim2, lim3, lim4, lim0', m__law_told_v1, b__law_told_v1, oIsi, D.tyN, kb_list_list, e2, mFor, mItL, e1, hx]
  · unfold dPs at e2 ⊢
    simp [mFn, mSeq, mSet, mRet, mDrop, mIf, mNext, mPass, sE, sT, putM, keepD, bnd, ret, lft, mC, mVar, mMov, mFrz, mSh, mOp2, mOp1, mOpN, mNil, mCons, mTst, mAnd, mOr, mNot, mAndV, mOrV, mNotV, mIfE, mYes_ap, mONo, mOSome, mCall, back, backO, backE, isSh, nbB_cons, nbB_nil, nb_none, nb_some, Md.nb, Md.nbs, Md.beq, Md.beqs, D.atm, D.atms, oI, oAdd, oSub, oMul, oDiv, oMod, oPow, oLt, oLe, oGt, oGe, oNeg, oIx, oLen, intOf, mChain, mLst, mTup, mgN, forT, compT, wipeS, itMd, elSh, D.isN, oIsN, oNotN, Md.okB, Md.okBs, lim1, lim2, lim3, lim4, lim0', m__law_told_v1, b__law_told_v1, oIsi, D.tyN, kb_list_list, e2, h]
end Ve

set_option Elab.async false
set_option linter.all false
set_option maxRecDepth 100000
set_option maxHeartbeats 2000000
namespace Ve
open PySem L2
/-! ## common -/
theorem nat_of {i : Int} {n : Nat} (h0 : 0 ≤ i) (h1 : i < n) : ∃ k : Nat, i = (k : Int) ∧ k < n := ⟨i.toNat, by omega, by omega⟩
theorem dim_of {ns : List Int} {k : Int} : ∃ h : Nat, 1 + mix ns k % 8 = (h : Int) ∧ 1 ≤ h ∧ h ≤ 8 := ⟨(1 + mix ns k % 8).toNat, by omega, by omega, by omega⟩
theorem mod_of {ns : List Int} {k : Int} {h : Nat} (h1 : 1 ≤ h) : ∃ r : Nat, mix ns k % (h : Int) = (r : Int) ∧ r < h := by
  have a := Int.emod_nonneg (mix ns k) (show (h : Int) ≠ 0 by omega)
  have b := Int.emod_lt_of_pos (mix ns k) (show (0 : Int) < (h : Int) by omega)
  exact ⟨(mix ns k % (h : Int)).toNat, by omega, by omega⟩
theorem atI_some {α : Type} {xs : List α} {k : Int} (h0 : 0 ≤ k) (h1 : k < (xs.length : Int)) : ∃ d ∈ xs, atI xs k = some d := by
  have hk : k.toNat < xs.length := by omega
  exact ⟨xs[k.toNat], List.getElem_mem _, by rw [atI_nat' h0, List.getElem?_eq_getElem hk]⟩
theorem oIx_sh {xs : List D} {k : Int} {d : D} {n : Md} (h : atI xs k = some d) : oIx (.lst xs, .sh) (.int k, n) = some (d, .sh) := by
  simp [oIx, h, itMd, isSh]
theorem atm_dI {xs : List Int} : (dI xs).atm = false := rfl
theorem okB_bl {b : Bool} : Md.okB .sh (.bl b) = true := by simp [Md.okB, D.atm]
theorem okB_int {b : Int} : Md.okB .sh (.int b) = true := by simp [Md.okB, D.atm]
theorem okB_non : Md.okB .sh .non = true := by simp [Md.okB, D.atm]
theorem okB_dI {xs : List Int} : Md.okB (.ow .sh) (dI xs) = true := by simp [Md.okB, dI, D.atm]
theorem okB_Ps {ps : List Pl} : Md.okB (.ow .sh) (dPs ps) = true := by simp [Md.okB, dPs, dP, D.atm, D.atms]
theorem shp_bls {bs : List Bool} : (D.lst (bs.map .bl)).shp = true := shp_of (n := 1) (ok_lst fun d hd => by
  obtain ⟨b, _, rfl⟩ := List.mem_map.mp hd
  exact ok_bl) (by decide)
theorem oEq_bls {xs : List Bool} {m n : Md} : oEq (.lst (xs.map .bl), m) (.lst (xs.map .bl), n) = some (.bl true, .sh) := by
  have h := eqv_map (f := D.bl) (fun x y => by rw [eqv_bl]; exact Bool.beq_eq_decide_eq x y) xs xs
  simp [oEq, shp_bls, h]
theorem okB_shl {xs : List D} : Md.okB .sh (.lst xs) = false := by simp [Md.okB, D.atm]
theorem lim9 : 9 ≤ lim := le_lim (by decide)
theorem mSeq_nx {m n : MS} {ss s1 : SS} (h : m ss = some (.nx s1)) (hb : nbB s1 = true) : mSeq m n ss = n s1 := by simp [mSeq, h, hb]
theorem mIf_t {t : MT} {m n : MS} {ss : SS} (h : t ss = some (.ok true, ss)) (hb : nbB ss = true) : mIf t m n ss = m ss := by simp [mIf, sT, h, hb]
theorem mIf_f {t : MT} {m n : MS} {ss : SS} (h : t ss = some (.ok false, ss)) (hb : nbB ss = true) : mIf t m n ss = n ss := by simp [mIf, sT, h, hb]
/-! ## views -/
abbrev Cs := List (List (Option Int))
def dO : Option Int → D
  | none => .non
  | some i => .int i
def dR (r : List (Option Int)) : D := .lst (r.map dO)
def dC (cs : Cs) : D := .lst (cs.map dR)
def dV (cs : Cs) (R S : List Int) : D := .tup [dC cs, dI R, dI S]
def shS (r : List (Option Int)) : Int := (r.filterMap id).sum
theorem dO_isN {x : Option Int} : (dO x).isN = x.isNone := by cases x <;> rfl
theorem dO_ty {x : Option Int} : (dO x).tyN.isSome = true := by cases x <;> rfl
theorem dO_atm {x : Option Int} : (dO x).atm = true := by cases x <;> rfl
theorem intsOf_some {r : List (Option Int)} : intsOf ((r.filter Option.isSome).map dO) = some (r.filterMap id) := by
  induction r with
  | nil => rfl
  | cons x r ih =>
    cases x with
    | none => simpa using ih
    | some i => simp [dO, intsOf, ih]
theorem shown_sum_ok {r : List (Option Int)} (h : r.length ≤ 1000) : m_shown_sum [dR r] = some (.ok (.int (shS r), .sh)) := by
  have hl : r.length ≤ lim := le_lim h
  have inner : compL .sh [1] (mgN 1) t_shown_sum_1 e_shown_sum_1 (r.map dO) [] [some (.lst (r.map dO), .sh), none] = some ([] ++ (r.filter Option.isSome).map dO, [some (.lst (r.map dO), .sh), none]) := compL_filt fun x hx => by
    cases x with
    | none => simp [mFn, mSeq, mSet, mRet, mDrop, mIf, mNext, mPass, sE, sT, putM, keepD, bnd, ret, lft, mC, mVar, mMov, mFrz, mSh, mOp2, mOp1, mOpN, mNil, mCons, mTst, mAnd, mOr, mNot, mAndV, mOrV, mNotV, mIfE, mYes_ap, mONo, mOSome, mCall, back, backO, backE, isSh, nbB_cons, nbB_nil, nb_none, nb_some, Md.nb, Md.nbs, Md.beq, Md.beqs, D.atm, D.atms, oI, oAdd, oSub, oMul, oDiv, oMod, oPow, oLt, oLe, oGt, oGe, oNeg, oIx, oLen, intOf, mChain, mLst, mTup, mgN, forT, compT, wipeS, itMd, elSh, D.isN, oIsN, oNotN, Md.okB, Md.okBs, lim1, lim2, lim3, lim4, lim0', t_shown_sum_1, e_shown_sum_1, dO]
    | some i => simp [mFn, mSeq, mSet, mRet, mDrop, mIf, mNext, mPass, sE, sT, putM, keepD, bnd, ret, lft, mC, mVar, mMov, mFrz, mSh, mOp2, mOp1, mOpN, mNil, mCons, mTst, mAnd, mOr, mNot, mAndV, mOrV, mNotV, mIfE, mYes_ap, mONo, mOSome, mCall, back, backO, backE, isSh, nbB_cons, nbB_nil, nb_none, nb_some, Md.nb, Md.nbs, Md.beq, Md.beqs, D.atm, D.atms, oI, oAdd, oSub, oMul, oDiv, oMod, oPow, oLt, oLe, oGt, oGe, oNeg, oIx, oLen, intOf, mChain, mLst, mTup, mgN, forT, compT, wipeS, itMd, elSh, D.isN, oIsN, oNotN, Md.okB, Md.okBs, lim1, lim2, lim3, lim4, lim0', t_shown_sum_1, e_shown_sum_1, dO]
  unfold dR
  simp [mFn, mSeq, mSet, mRet, mDrop, mIf, mNext, mPass, sE, sT, putM, keepD, bnd, ret, lft, mC, mVar, mMov, mFrz, mSh, mOp2, mOp1, mOpN, mNil, mCons, mTst, mAnd, mOr, mNot, mAndV, mOrV, mNotV, mIfE, mYes_ap, mONo, mOSome, mCall, back, backO, backE, isSh, nbB_cons, nbB_nil, nb_none, nb_some, Md.nb, Md.nbs, Md.beq, Md.beqs, D.atm, D.atms, oI, oAdd, oSub, oMul, oDiv, oMod, oPow, oLt, oLe, oGt, oGe, oNeg, oIx, oLen, intOf, mChain, mLst, mTup, mgN, forT, compT, wipeS, itMd, elSh, D.isN, oIsN, oNotN, Md.okB, Md.okBs, lim1, lim2, lim3, lim4, lim0', m_shown_sum, b_shown_sum, mComp, mItL, hl, inner, oSum, intsOf_some, shS]
/-- the column c -/
def colC (cs : Cs) (c : Nat) : List (Option Int) := cs.map fun r => r.getD c none
def leftV (R : List Int) (cs : Cs) : List Int := (R.zip cs).map fun p => p.1 - shS p.2
def belowV (cs : Cs) (S : List Int) : List Int := (List.range S.length).map fun c => S.getD c 0 - shS (colC cs c)
theorem zip_map {α β : Type} {f : α → D} {g : β → D} {xs : List α} {ys : List β} : (xs.map f).zipWith (fun d e => D.tup [d, e]) (ys.map g) = (xs.zip ys).map fun p => D.tup [f p.1, g p.2] := by
  rw [List.zipWith_map, List.zip, List.map_zipWith]
theorem enm_get {xs : List Int} {i : Nat} {d : D} (h : (enm (xs.map D.int))[i]? = some d) : i < xs.length ∧ d = .tup [.int (i : Int), .int (xs.getD i 0)] := by
  unfold enm at h
  rw [List.getElem?_zipWith] at h
  rcases Nat.lt_or_ge i xs.length with hi | hi
  · refine ⟨hi, ?_⟩
    simp [hi] at h
    simp [hi, ← h]
  · simp [hi] at h
theorem enm_len {xs : List D} : (enm xs).length = xs.length := by simp [enm]
theorem atI_R {r : List (Option Int)} {c : Nat} (h : c < r.length) : atI (r.map dO) (c : Int) = some (dO (r.getD c none)) := by
  rw [atI_nat' (by omega), List.getElem?_map]
  simp [h]
/-- the shape of a view -/
structure Vw (cs : Cs) (R S : List Int) : Prop where
  h1 : 1 ≤ cs.length
  h8 : cs.length ≤ 8
  w1 : 1 ≤ S.length
  w8 : S.length ≤ 8
  row : ∀ r ∈ cs, r.length = S.length
  nn : ∀ r ∈ cs, ∀ i, some i ∈ r → (0 : Int) ≤ i
  rl : R.length = cs.length
  rn : ∀ x ∈ R, (0 : Int) ≤ x
  sn : ∀ x ∈ S, (0 : Int) ≤ x
theorem rests_of_ok {cs : Cs} {R S : List Int} (v : Vw cs R S) : m_rests_of [dV cs R S] = some (.ok (.tup [dI (leftV R cs), dI (belowV cs S)], .tp [.ow .sh, .ow .sh])) := by
  have rlen : ∀ r ∈ cs, r.length ≤ 1000 := fun r hr => by rw [v.row r hr]; have := v.w8; omega
  have hz : (R.zip cs).length ≤ lim := le_lim (by rw [List.length_zip]; have := v.h8; omega)
  have hcl : cs.length ≤ lim := le_lim (by have := v.h8; omega)
  have lft_ : ∀ x0 : Ent, compL .sh [7, 8] (mgT 2 (mgCons (mgN 7) (mgCons (mgN 8) mgNil))) mYes e_rests_of_1 ((R.zip cs).map fun p => D.tup [.int p.1, dR p.2]) [] [some (dV cs R S, .sh), some (dC cs, .sh), some (dI R, .sh), some (dI S, .sh), none, none, none, none, none] = some ([] ++ (R.zip cs).map (fun p => D.int (p.1 - shS p.2)), [some (dV cs R S, .sh), some (dC cs, .sh), some (dI R, .sh), some (dI S, .sh), none, none, none, none, none]) := fun _ => compL_over fun p hp => by
    have e := shown_sum_ok (rlen p.2 (List.of_mem_zip hp).2)
    simp [mFn, mSeq, mSet, mRet, mDrop, mIf, mNext, mPass, sE, sT, putM, keepD, bnd, ret, lft, mC, mVar, mMov, mFrz, mSh, mOp2, mOp1, mOpN, mNil, mCons, mTst, mAnd, mOr, mNot, mAndV, mOrV, mNotV, mIfE, mYes_ap, mONo, mOSome, mCall, back, backO, backE, isSh, nbB_cons, nbB_nil, nb_none, nb_some, Md.nb, Md.nbs, Md.beq, Md.beqs, D.atm, D.atms, oI, oAdd, oSub, oMul, oDiv, oMod, oPow, oLt, oLe, oGt, oGe, oNeg, oIx, oLen, intOf, mChain, mLst, mTup, mgN, forT, compT, wipeS, itMd, elSh, D.isN, oIsN, oNotN, Md.okB, Md.okBs, lim1, lim2, lim3, lim4, lim0', e_rests_of_1, e, mgT, mgCons, mgNil, parts]
  have inner : ∀ (c : Nat) (x4 x5 x6 x7 : Ent), c < S.length → Ent.nb x4 = true → Ent.nb x5 = true → Ent.nb x7 = true → compL .sh [8] (mgN 8) mYes e_rests_of_2 (cs.map dR) [] [some (dV cs R S, .sh), some (dC cs, .sh), some (dI R, .sh), some (dI S, .sh), x4, x5, some (.int (c : Int), .sh), x7, none] = some ([] ++ cs.map (fun r => dO (r.getD c none)), [some (dV cs R S, .sh), some (dC cs, .sh), some (dI R, .sh), some (dI S, .sh), x4, x5, some (.int (c : Int), .sh), x7, none]) := fun c x4 x5 x6 x7 hc n4 n5 n7 => compL_over fun r hr => by
    have h2 := atI_R (r := r) (c := c) (by rw [v.row r hr]; exact hc)
    have h3 := dO_atm (x := r.getD c none)
    generalize r.getD c none = y at *
    simp [mFn, mSeq, mSet, mRet, mDrop, mIf, mNext, mPass, sE, sT, putM, keepD, bnd, ret, lft, mC, mVar, mMov, mFrz, mSh, mOp2, mOp1, mOpN, mNil, mCons, mTst, mAnd, mOr, mNot, mAndV, mOrV, mNotV, mIfE, mYes_ap, mONo, mOSome, mCall, back, backO, backE, isSh, nbB_cons, nbB_nil, nb_none, nb_some, Md.nb, Md.nbs, Md.beq, Md.beqs, D.atm, D.atms, oI, oAdd, oSub, oMul, oDiv, oMod, oPow, oLt, oLe, oGt, oGe, oNeg, oIx, oLen, intOf, mChain, mLst, mTup, mgN, forT, compT, wipeS, itMd, elSh, D.isN, oIsN, oNotN, Md.okB, Md.okBs, lim1, lim2, lim3, lim4, lim0', e_rests_of_2, dR, h2, h3, n4, n5, n7]
  obtain ⟨s', e1, x6, x7, n6, n7, rfl⟩ := forL_run (mg := mgT 2 (mgCons (mgN 6) (mgCons (mgN 7) mgNil))) (body := l_rests_of_1) (items := enm (S.map D.int)) (ss := [some (dV cs R S, .sh), some (dC cs, .sh), some (dI R, .sh), some (dI S, .sh), some (dI (leftV R cs), .ow .sh), some (.lst [], .ow .sh), none, none, none])
    (fun i s => ∃ x6 x7 : Ent, Ent.nb x6 = true ∧ Ent.nb x7 = true ∧ s = [some (dV cs R S, .sh), some (dC cs, .sh), some (dI R, .sh), some (dI S, .sh), some (dI (leftV R cs), .ow .sh), some (.lst (((List.range i).map fun c => S.getD c 0 - shS (colC cs c)).map D.int), .ow .sh), x6, x7, none])
    (fun i d s hd ⟨x6, x7, n6, n7, hs⟩ => by
      obtain ⟨hi, rfl⟩ := enm_get hd
      subst hs
      generalize hS : S.getD i 0 = t
      have inner2 := inner i (some (dI (leftV R cs), .ow .sh)) (some (.lst (((List.range i).map fun c => S.getD c 0 - shS (colC cs c)).map D.int), .ow .sh)) none (some (.int t, .sh)) hi rfl rfl rfl
      have e := shown_sum_ok (r := colC cs i) (by simp [colC]; have := v.h8; omega)
      have hcc : dR (colC cs i) = .lst (cs.map fun r => dO (r.getD i none)) := by simp [dR, colC, Function.comp_def]
      rw [hcc] at e
      have hnx : ((List.range (i + 1)).map fun c => S.getD c 0 - shS (colC cs c)).map D.int = ((List.range i).map fun c => S.getD c 0 - shS (colC cs c)).map D.int ++ [.int (t - shS (colC cs i))] := by
        rw [List.range_succ]; simp [← hS]
      have hil : (((List.range i).map fun c => S.getD c 0 - shS (colC cs c)).map D.int).length < lim := Nat.lt_of_lt_of_le (by simpa using hi) (le_lim (by have := v.w8; omega))
      rw [hnx]
      generalize ((List.range i).map fun c => S.getD c 0 - shS (colC cs c)).map D.int = A at *
      generalize hB : cs.map (fun r => dO (r.getD i none)) = Bc at *
      have hBl : Bc.length ≤ lim := by rw [← hB]; simpa using hcl
      have hdc : dC cs = .lst (cs.map dR) := rfl
      simp [mFn, mSeq, mSet, mRet, mDrop, mIf, mNext, mPass, sE, sT, putM, keepD, bnd, ret, lft, mC, mVar, mMov, mFrz, mSh, mOp2, mOp1, mOpN, mNil, mCons, mTst, mAnd, mOr, mNot, mAndV, mOrV, mNotV, mIfE, mYes_ap, mONo, mOSome, mCall, back, backO, backE, isSh, nbB_cons, nbB_nil, nb_none, nb_some, Md.nb, Md.nbs, Md.beq, Md.beqs, D.atm, D.atms, oI, oAdd, oSub, oMul, oDiv, oMod, oPow, oLt, oLe, oGt, oGe, oNeg, oIx, oLen, intOf, mChain, mLst, mTup, mgN, forT, compT, wipeS, itMd, elSh, D.isN, oIsN, oNotN, Md.okB, Md.okBs, lim1, lim2, lim3, lim4, lim0', l_rests_of_1, mgT, mgCons, mgNil, parts, mApp, mComp, mItL, inner2, e, hil, hcl, n6, n7, dC]
      simp [dC] at inner2
      simp [mFn, mSeq, mSet, mRet, mDrop, mIf, mNext, mPass, sE, sT, putM, keepD, bnd, ret, lft, mC, mVar, mMov, mFrz, mSh, mOp2, mOp1, mOpN, mNil, mCons, mTst, mAnd, mOr, mNot, mAndV, mOrV, mNotV, mIfE, mYes_ap, mONo, mOSome, mCall, back, backO, backE, isSh, nbB_cons, nbB_nil, nb_none, nb_some, Md.nb, Md.nbs, Md.beq, Md.beqs, D.atm, D.atms, oI, oAdd, oSub, oMul, oDiv, oMod, oPow, oLt, oLe, oGt, oGe, oNeg, oIx, oLen, intOf, mChain, mLst, mTup, mgN, forT, compT, wipeS, itMd, elSh, D.isN, oIsN, oNotN, Md.okB, Md.okBs, lim1, lim2, lim3, lim4, lim0', inner2, e, hil]) ⟨none, none, rfl, rfl, rfl⟩
  have l0 := lft_ none
  have hzl : (R.zip cs).map (fun p => D.int (p.1 - shS p.2)) = (leftV R cs).map D.int := by simp [leftV, Function.comp_def]
  rw [hzl] at l0
  rw [← zip_map] at l0
  have hz2 : min R.length cs.length ≤ lim := by rw [← List.length_zip]; exact hz
  rw [enm_len, List.length_map] at e1
  have hbl : ((List.range S.length).map fun c => S.getD c 0 - shS (colC cs c)) = belowV cs S := rfl
  rw [hbl] at e1
  generalize leftV R cs = L at *
  generalize belowV cs S = Bw at *
  simp only [dV, dC, dI] at l0 e1 ⊢
  simp at l0
  simp [mFn, mSeq, mSet, mRet, mDrop, mIf, mNext, mPass, sE, sT, putM, keepD, bnd, ret, lft, mC, mVar, mMov, mFrz, mSh, mOp2, mOp1, mOpN, mNil, mCons, mTst, mAnd, mOr, mNot, mAndV, mOrV, mNotV, mIfE, mYes_ap, mONo, mOSome, mCall, back, backO, backE, isSh, nbB_cons, nbB_nil, nb_none, nb_some, Md.nb, Md.nbs, Md.beq, Md.beqs, D.atm, D.atms, oI, oAdd, oSub, oMul, oDiv, oMod, oPow, oLt, oLe, oGt, oGe, oNeg, oIx, oLen, intOf, mChain, mLst, mTup, mgN, forT, compT, wipeS, itMd, elSh, D.isN, oIsN, oNotN, Md.okB, Md.okBs, lim1, lim2, lim3, lim4, lim0', m_rests_of, b_rests_of, mAsg, mgT, mgCons, mgNil, parts, mComp, mItZ, iZ, l0, hz2, mFor, mItE, iE, e1, n6, n7]
end Ve
namespace Ve
open PySem L2
theorem all_fun {α : Type} {p : α → Bool} {xs : List α} {m : Md} : oAll [(.lst (xs.map fun x => D.bl (p x)), m)] = some (.bl (xs.all p), .sh) := by
  simp [oAll, blsOf_fun, List.all_map, Function.comp_def]
def okO : Option Int → Bool
  | none => true
  | some i => decide (0 ≤ i)
theorem is_grid_C {cs : Cs} {R S : List Int} (v : Vw cs R S) : m_is_grid [dC cs] = some (.ok (.bl true, .sh)) := by
  rw [is_grid_ok (d := dC cs) rfl fun ds e d hd => by
    cases e
    obtain ⟨r, _, rfl⟩ := List.mem_map.mp hd
    rfl]
  have hr : ∀ r ∈ cs, rowOk S.length (dR r) = true := fun r hr => by
    have := v.row r hr
    simp [rowOk, dR, this, v.w1, v.w8]
  have : isGrid (dC cs) = true := by
    have h1 := v.h1
    have h8 := v.h8
    have hw := v.row
    unfold dC
    cases cs with
    | nil => simp at h1
    | cons r0 rest =>
      have e0 : lenD (dR r0) = S.length := by simp [lenD, dR, hw r0 List.mem_cons_self]
      simp only [List.map_cons, isGrid, e0, Bool.and_eq_true, decide_eq_true_eq, List.all_eq_true, List.length_map]
      refine ⟨by simpa using h8, fun x hx => ?_⟩
      rw [← List.map_cons] at hx
      obtain ⟨r, hr', rfl⟩ := List.mem_map.mp hx
      exact hr r hr'
  rw [this]
theorem are_sums_ok {xs : List Int} {n : Nat} (h : xs.length ≤ 1000) : m_are_sums [dI xs, .int (n : Int)] = some (.ok (.bl (decide (xs.length = n) && xs.all fun x => decide (0 ≤ x)), .sh)) := by
  have hl : xs.length ≤ lim := le_lim h
  have inner : compL .sh [2] (mgN 2) mYes e_are_sums_1 (xs.map D.int) [] [some (.lst (xs.map D.int), .sh), some (.int (n : Int), .sh), none] = some ([] ++ xs.map (fun x => D.bl (decide (0 ≤ x))), [some (.lst (xs.map D.int), .sh), some (.int (n : Int), .sh), none]) := compL_over fun x hx => by
    have e := is_number_ok (d := .int x) rfl
    simp [mFn, mSeq, mSet, mRet, mDrop, mIf, mNext, mPass, sE, sT, putM, keepD, bnd, ret, lft, mC, mVar, mMov, mFrz, mSh, mOp2, mOp1, mOpN, mNil, mCons, mTst, mAnd, mOr, mNot, mAndV, mOrV, mNotV, mIfE, mYes_ap, mONo, mOSome, mCall, back, backO, backE, isSh, nbB_cons, nbB_nil, nb_none, nb_some, Md.nb, Md.nbs, Md.beq, Md.beqs, D.atm, D.atms, oI, oAdd, oSub, oMul, oDiv, oMod, oPow, oLt, oLe, oGt, oGe, oNeg, oIx, oLen, intOf, mChain, mLst, mTup, mgN, forT, compT, wipeS, itMd, elSh, D.isN, oIsN, oNotN, Md.okB, Md.okBs, lim1, lim2, lim3, lim4, lim0', e_are_sums_1, e, isNum]
  have ha := fun m => all_fun (p := fun x : Int => decide (0 ≤ x)) (xs := xs) (m := m)
  unfold dI
  by_cases hn : xs.length = n
  · subst hn
    simp [mFn, mSeq, mSet, mRet, mDrop, mIf, mNext, mPass, sE, sT, putM, keepD, bnd, ret, lft, mC, mVar, mMov, mFrz, mSh, mOp2, mOp1, mOpN, mNil, mCons, mTst, mAnd, mOr, mNot, mAndV, mOrV, mNotV, mIfE, mYes_ap, mONo, mOSome, mCall, back, backO, backE, isSh, nbB_cons, nbB_nil, nb_none, nb_some, Md.nb, Md.nbs, Md.beq, Md.beqs, D.atm, D.atms, oI, oAdd, oSub, oMul, oDiv, oMod, oPow, oLt, oLe, oGt, oGe, oNeg, oIx, oLen, intOf, mChain, mLst, mTup, mgN, forT, compT, wipeS, itMd, elSh, D.isN, oIsN, oNotN, Md.okB, Md.okBs, lim1, lim2, lim3, lim4, lim0', m_are_sums, b_are_sums, oIsi, D.tyN, kb_list_list, oEq_int, mComp, mItL, inner, ha, hl]
  · have hn2 : ¬ (xs.length : Int) = (n : Int) := by omega
    simp [mFn, mSeq, mSet, mRet, mDrop, mIf, mNext, mPass, sE, sT, putM, keepD, bnd, ret, lft, mC, mVar, mMov, mFrz, mSh, mOp2, mOp1, mOpN, mNil, mCons, mTst, mAnd, mOr, mNot, mAndV, mOrV, mNotV, mIfE, mYes_ap, mONo, mOSome, mCall, back, backO, backE, isSh, nbB_cons, nbB_nil, nb_none, nb_some, Md.nb, Md.nbs, Md.beq, Md.beqs, D.atm, D.atms, oI, oAdd, oSub, oMul, oDiv, oMod, oPow, oLt, oLe, oGt, oGe, oNeg, oIx, oLen, intOf, mChain, mLst, mTup, mgN, forT, compT, wipeS, itMd, elSh, D.isN, oIsN, oNotN, Md.okB, Md.okBs, lim1, lim2, lim3, lim4, lim0', m_are_sums, b_are_sums, oIsi, D.tyN, kb_list_list, oEq_int, hn, hn2]
theorem oIx_V0 {cs : Cs} {R S : List Int} {n : Md} : oIx (dV cs R S, .sh) (.int 0, n) = some (dC cs, .sh) := by
  simp [oIx, dV, atI_nat', itMd, isSh]
theorem oIx_V1 {cs : Cs} {R S : List Int} {n : Md} : oIx (dV cs R S, .sh) (.int 1, n) = some (dI R, .sh) := by
  simp [oIx, dV, atI_nat', itMd, isSh]
theorem oIx_V2 {cs : Cs} {R S : List Int} {n : Md} : oIx (dV cs R S, .sh) (.int 2, n) = some (dI S, .sh) := by
  simp [oIx, dV, atI_nat', itMd, isSh]
theorem oLen_C {cs : Cs} {m : Md} : oLen [(dC cs, m)] = some (.int (cs.length : Int), .sh) := by simp [oLen, dC]
theorem oLen_R {r : List (Option Int)} {m : Md} : oLen [(dR r, m)] = some (.int (r.length : Int), .sh) := by simp [oLen, dR]
theorem oLen_I {r : List Int} {m : Md} : oLen [(dI r, m)] = some (.int (r.length : Int), .sh) := by simp [oLen, dI]
theorem oLen_G {r : List (List Int)} {m : Md} : oLen [(dG r, m)] = some (.int (r.length : Int), .sh) := by simp [oLen, dG]
theorem oLen_V {cs : Cs} {R S : List Int} {m : Md} : oLen [(dV cs R S, m)] = some (.int 3, .sh) := by simp [oLen, dV]
theorem oIx_C {cs : Cs} {i : Nat} {n : Md} (h : i < cs.length) : oIx (dC cs, .sh) (.int (i : Int), n) = some (dR (cs.getD i []), .sh) := by
  simp only [oIx, dC]
  rw [atI_nat' (by omega), List.getElem?_map]
  simp [h, itMd, isSh]
theorem oIx_R {r : List (Option Int)} {i : Nat} {m n : Md} (h : i < r.length) : oIx (dR r, m) (.int (i : Int), n) = some (dO (r.getD i none), .sh) := by
  simp only [oIx, dR]
  rw [atI_R h]
  simp [itMd, dO_atm]
theorem oMin_ge {xs : List Int} {m : Md} (h : xs ≠ []) : ∃ k, oMin [(.lst (xs.map D.int), m)] = some (.int k, .sh) ∧ (0 ≤ k ↔ ∀ x ∈ xs, 0 ≤ x) := by
  cases xs with
  | nil => exact absurd rfl h
  | cons x xs =>
    have e : minL (x :: xs) = some (xs.foldl (fun a b => if b < a then b else a) x) := rfl
    obtain ⟨h1, h2⟩ := minL_spec e
    refine ⟨_, by simp only [oMin]; rw [intsOf_map, Option.bind_some, e]; rfl, fun h0 y hy => Int.le_trans h0 (h2 y hy), fun h0 => h0 _ h1⟩
def viewOk (cs : Cs) (R S : List Int) : Bool := decide (∀ x ∈ leftV R cs ++ belowV cs S, 0 ≤ x) && decide ((leftV R cs).sum = (belowV cs S).sum)
theorem is_view_ok {cs : Cs} {R S : List Int} (v : Vw cs R S) : m_is_view [dV cs R S] = some (.ok (.bl (viewOk cs R S), .sh)) := by
  have e1 := is_grid_C v
  have e2 := are_sums_ok (xs := R) (n := cs.length) (by rw [v.rl]; have := v.h8; omega)
  have e3 := are_sums_ok (xs := S) (n := S.length) (by have := v.w8; omega)
  have e4 := rests_of_ok v
  have c0 : 0 < cs.length := v.h1
  have r0l : (cs.getD 0 []).length = S.length := v.row _ (by simp [List.getD, c0])
  have hR : (R.all fun x => decide (0 ≤ x)) = true := by simpa using v.rn
  have hS : (S.all fun x => decide (0 ≤ x)) = true := by simpa using v.sn
  rw [v.rl, hR] at e2
  rw [hS] at e3
  simp only [decide_true, Bool.and_self] at e2 e3
  have f0 : ∀ n, oIx (dC cs, .sh) (.int 0, n) = some (dR (cs.getD 0 []), .sh) := fun n => oIx_C (i := 0) c0
  have inner : ∀ r ∈ cs, compL .sh [4] (mgN 4) mYes e_is_view_1 (r.map dO) [] [some (dV cs R S, .sh), none, none, some (dR r, .sh), none] = some ([] ++ r.map (fun _ => D.bl true), [some (dV cs R S, .sh), none, none, some (dR r, .sh), none]) := fun r hr => compL_over fun x hx => by
    cases x with
    | none => simp [mFn, mSeq, mSet, mRet, mDrop, mIf, mNext, mPass, sE, sT, putM, keepD, bnd, ret, lft, mC, mVar, mMov, mFrz, mSh, mOp2, mOp1, mOpN, mNil, mCons, mTst, mAnd, mOr, mNot, mAndV, mOrV, mNotV, mIfE, mYes_ap, mONo, mOSome, mCall, back, backO, backE, isSh, nbB_cons, nbB_nil, nb_none, nb_some, Md.nb, Md.nbs, Md.beq, Md.beqs, D.atm, D.atms, oI, oAdd, oSub, oMul, oDiv, oMod, oPow, oLt, oLe, oGt, oGe, oNeg, oIx, oLen, intOf, mChain, mLst, mTup, mgN, forT, compT, wipeS, itMd, elSh, D.isN, oIsN, oNotN, Md.okB, Md.okBs, lim1, lim2, lim3, lim4, lim0', e_is_view_1, dO]
    | some i =>
      have e := is_number_ok (d := .int i) rfl
      have := v.nn r hr i hx
      simp [mFn, mSeq, mSet, mRet, mDrop, mIf, mNext, mPass, sE, sT, putM, keepD, bnd, ret, lft, mC, mVar, mMov, mFrz, mSh, mOp2, mOp1, mOpN, mNil, mCons, mTst, mAnd, mOr, mNot, mAndV, mOrV, mNotV, mIfE, mYes_ap, mONo, mOSome, mCall, back, backO, backE, isSh, nbB_cons, nbB_nil, nb_none, nb_some, Md.nb, Md.nbs, Md.beq, Md.beqs, D.atm, D.atms, oI, oAdd, oSub, oMul, oDiv, oMod, oPow, oLt, oLe, oGt, oGe, oNeg, oIx, oLen, intOf, mChain, mLst, mTup, mgN, forT, compT, wipeS, itMd, elSh, D.isN, oIsN, oNotN, Md.okB, Md.okBs, lim1, lim2, lim3, lim4, lim0', e_is_view_1, dO, e, isNum, this]
  have ha := fun m (r : List (Option Int)) => all_fun (p := fun _ : Option Int => true) (xs := r) (m := m)
  have hb := fun m => all_fun (p := fun _ : List (Option Int) => true) (xs := cs) (m := m)
  have outer : compL .sh [3] (mgN 3) mYes e_is_view_2 (cs.map dR) [] [some (dV cs R S, .sh), none, none, none, none] = some ([] ++ cs.map (fun _ => D.bl true), [some (dV cs R S, .sh), none, none, none, none]) := compL_over fun r hr => by
    have hl : r.length ≤ lim := le_lim (by rw [v.row r hr]; have := v.w8; omega)
    have i2 := inner r hr
    have a2 := fun m => ha m r
    unfold dR at i2 ⊢
    simp [mFn, mSeq, mSet, mRet, mDrop, mIf, mNext, mPass, sE, sT, putM, keepD, bnd, ret, lft, mC, mVar, mMov, mFrz, mSh, mOp2, mOp1, mOpN, mNil, mCons, mTst, mAnd, mOr, mNot, mAndV, mOrV, mNotV, mIfE, mYes_ap, mONo, mOSome, mCall, back, backO, backE, isSh, nbB_cons, nbB_nil, nb_none, nb_some, Md.nb, Md.nbs, Md.beq, Md.beqs, D.atm, D.atms, oI, oAdd, oSub, oMul, oDiv, oMod, oPow, oLt, oLe, oGt, oGe, oNeg, oIx, oLen, intOf, mChain, mLst, mTup, mgN, forT, compT, wipeS, itMd, elSh, D.isN, oIsN, oNotN, Md.okB, Md.okBs, lim1, lim2, lim3, lim4, lim0', e_is_view_2, mComp, mItL, hl, i2, a2]
  have hcl : cs.length ≤ lim := le_lim (by have := v.h8; omega)
  have ll : (leftV R cs).length ≤ 8 := by simp [leftV]; have := v.h8; omega
  have bl : (belowV cs S).length = S.length := by simp [belowV]
  have w1 := v.w1
  have w8 := v.w8
  obtain ⟨k, em, hk⟩ := oMin_ge (xs := leftV R cs ++ belowV cs S) (m := .ow .sh) (fun h => by have := congrArg List.length (List.append_eq_nil_iff.mp h).2; rw [bl] at this; have t2 : S.length = 0 := this; omega)
  have hsum : (leftV R cs).length + (belowV cs S).length ≤ lim := le_lim (by omega)
  have ecat : oCat (dI (leftV R cs), .sh) (dI (belowV cs S), .sh) = some (.lst ((leftV R cs ++ belowV cs S).map D.int), .ow .sh) := by
    simp [oCat, dI, elSh, isSh, hsum]
  have ecat2 : oCat (dI (leftV R cs), .bw) (dI (belowV cs S), .bw) = some (.lst ((leftV R cs ++ belowV cs S).map D.int), .ow .sh) := by
    simp [oCat, dI, elSh, isSh, hsum, atms_dI]
  have es1 : ∀ m, oSum [(dI (leftV R cs), m)] = some (.int (leftV R cs).sum, .sh) := fun m => by simp [oSum, dI, intsOf_map]
  have es2 : ∀ m, oSum [(dI (belowV cs S), m)] = some (.int (belowV cs S).sum, .sh) := fun m => by simp [oSum, dI, intsOf_map]
  have hvo : viewOk cs R S = (decide (0 ≤ k) && decide ((leftV R cs).sum = (belowV cs S).sum)) := by
    unfold viewOk
    congr 1
    exact decide_eq_decide.mpr hk.symm
  rw [hvo]
  have at0 : (dV cs R S).tyN = some "tuple" := rfl
  have at1 : (dI (leftV R cs)).atm = false := rfl
  have at2 : (dI (belowV cs S)).atm = false := rfl
  generalize cs.getD 0 [] = r0 at *
  generalize leftV R cs = L at *
  generalize belowV cs S = Bw at *
  have lV := fun m => oLen_V (cs := cs) (R := R) (S := S) (m := m)
  have v1 := fun n => oIx_V1 (cs := cs) (R := R) (S := S) (n := n)
  have v2 := fun n => oIx_V2 (cs := cs) (R := R) (S := S) (n := n)
  have v0 := fun n => oIx_V0 (cs := cs) (R := R) (S := S) (n := n)
  have lc := fun m => oLen_C (cs := cs) (m := m)
  have hrl : (cs.map dR).length ≤ lim := by simpa using hcl
  simp only [dC] at v0 lc e1 f0
  generalize cs.map dR = rows at *
  generalize dV cs R S = V at *
  simp only [List.map_append] at em ecat ecat2
  by_cases hk0 : 0 ≤ k <;> by_cases hs : L.sum = Bw.sum <;> simp [mFn, mSeq, mSet, mRet, mDrop, mIf, mNext, mPass, sE, sT, putM, keepD, bnd, ret, lft, mC, mVar, mMov, mFrz, mSh, mOp2, mOp1, mOpN, mNil, mCons, mTst, mAnd, mOr, mNot, mAndV, mOrV, mNotV, mIfE, mYes_ap, mONo, mOSome, mCall, back, backO, backE, isSh, nbB_cons, nbB_nil, nb_none, nb_some, Md.nb, Md.nbs, Md.beq, Md.beqs, D.atm, D.atms, oI, oAdd, oSub, oMul, oDiv, oMod, oPow, oLt, oLe, oGt, oGe, oNeg, intOf, mChain, mLst, mTup, mgN, forT, compT, wipeS, itMd, elSh, D.isN, oIsN, oNotN, Md.okB, Md.okBs, lim1, lim2, lim3, lim4, lim0', m_is_view, b_is_view, oIsi, at0, kb_tuple_tuple, lV, oNe_int, v0, v1, v2, e1, e2, e3, e4, lc, oLen_R, f0, r0l, mComp, mItL, outer, hrl, hb, mAsg, mgT, mgCons, mgNil, parts, at1, at2, ecat, ecat2, em, es1, es2, oEq_int, hs, hk0]
end Ve

set_option Elab.async false
set_option linter.all false
set_option maxRecDepth 100000
set_option maxHeartbeats 2000000
namespace Ve
open PySem L2
/-! ## the law's view of a table -/
def cellsT (g : List (List Int)) (w : Nat) (ps : List Pl) : Cs := (List.range g.length).map fun r => (List.range w).map fun c => if (r, c) ∈ ps then none else some (cell g r c)
theorem any_P {p : Pl} : ∀ ps : List Pl, (ps.map dP).any (fun z => z.eqv (dP p)) = decide (p ∈ ps)
  | [] => by simp
  | q :: ps => by
    simp only [List.map_cons, List.any_cons, any_P ps, eqv_P, List.mem_cons]
    by_cases h : q = p
    · simp [h]
    · have h2 : ¬ p = q := fun e => h e.symm
      simp [h, h2]
theorem oIn_Ps {r c : Nat} {ps : List Pl} {m n : Md} : oIn (.tup [.int (r : Int), .int (c : Int)], m) (dPs ps, n) = some (.bl (decide ((r, c) ∈ ps)), .sh) := by
  have h2 : (D.lst (ps.map dP)).shp = true := shp_Ps
  have : oIn (dP (r, c), m) (.lst (ps.map dP), n) = some (.bl (decide ((r, c) ∈ ps)), .sh) := by simp only [oIn, shp_P, h2, Bool.and_self, if_true, any_P]
  exact this
theorem law_column_sums_ok {g : List (List Int)} {w : Nat} (h : Tb g w) : m__law_column_sums [dG g] = some (.ok (dI (colS g w), .ow .sh)) := by
  have hw2 : w ≤ lim := le_lim (by have := h.w8; omega)
  obtain ⟨r0, e0, hi⟩ := tb_ix0 h
  have hr := iR_row h e0
  have outer : compL .sh [1] (mgN 1) mYes e__law_column_sums_2 (rng w) [] [some (.lst (g.map dI), .sh), none, none] = some ((List.range w).map (fun c => D.int (g.map fun r => r.getD c 0).sum), [some (.lst (g.map dI), .sh), none, none]) := cs_out h
  unfold dG
  simp [mFn, mSeq, mSet, mRet, mDrop, mIf, mNext, mPass, sE, sT, putM, keepD, bnd, ret, lft, mC, mVar, mMov, mFrz, mSh, mOp2, mOp1, mOpN, mNil, mCons, mTst, mAnd, mOr, mNot, mAndV, mOrV, mNotV, mIfE, mYes_ap, mONo, mOSome, mCall, back, backO, backE, isSh, nbB_cons, nbB_nil, nb_none, nb_some, Md.nb, Md.nbs, Md.beq, Md.beqs, D.atm, D.atms, oI, oAdd, oSub, oMul, oDiv, oMod, oPow, oLt, oLe, oGt, oGe, oNeg, oIx, oLen, intOf, mChain, mLst, mTup, mgN, forT, compT, wipeS, itMd, elSh, D.isN, oIsN, oNotN, Md.okB, Md.okBs, lim1, lim2, lim3, lim4, lim0', m__law_column_sums, b__law_column_sums, mComp, mItR, hi, hr, outer, dI, colS, rng_len, hw2, Function.comp_def]
theorem oIx_G0 {g : List (List Int)} {w : Nat} (h : Tb g w) : ∃ r0 : List Int, r0.length = w ∧ ∀ n, oIx (dG g, .sh) (.int 0, n) = some (dI r0, .sh) := by
  obtain ⟨r0, e0, hi⟩ := tb_ix0 h
  refine ⟨r0, e0, fun n => ?_⟩
  simp only [oIx, dG]; rw [hi]; simp [itMd, dI, D.atm, isSh]
theorem law_view_ok {g : List (List Int)} {w : Nat} {ps : List Pl} (h : Tb g w) : m__law_view [dG g, dPs ps] = some (.ok (dV (cellsT g w ps) (g.map List.sum) (colS g w), .tp [.ow (.ow .sh), .ow .sh, .ow .sh])) := by
  have hw2 : w ≤ lim := le_lim (by have := h.w8; omega)
  have hgl : g.length ≤ lim := le_lim (by have := h.h8; omega)
  obtain ⟨r0, e0, hi⟩ := oIx_G0 h
  have ir := iR_nat (m := .sh) (n := g.length) (by have := h.h8; omega)
  have ic : iR [(.int (w : Int), Md.sh)] = some (rng w) := iR_nat (by have := h.w8; omega)
  have ecs := law_column_sums_ok h
  have lr : ∀ m, oLen [(dI r0, m)] = some (.int (w : Int), .sh) := fun m => by rw [oLen_I, e0]
  have inner : ∀ (r : Nat) (x : Ent), r < g.length → Ent.nb x = true → compL .sh [4] (mgN 4) mYes e__law_view_1 (rng w) [] [some (dG g, .sh), some (dPs ps, .sh), x, some (.int (r : Int), .sh), none] = some ((List.range w).map (fun c => dO (if (r, c) ∈ ps then none else some (cell g r c))), [some (dG g, .sh), some (dPs ps, .sh), x, some (.int (r : Int), .sh), none]) := fun r x hr hx => compL_rng fun c hc => by
    obtain ⟨f1, f2⟩ := cell_ix (p := (r, c)) h (plc_mem.mpr ⟨hr, hc⟩)
    dsimp only at f1 f2
    have hin := fun m n => oIn_Ps (r := r) (c := c) (ps := ps) (m := m) (n := n)
    have hcl : cellP g (r, c) = cell g r c := rfl
    rw [hcl] at f2
    generalize g.getD r [] = row at *
    generalize cell g r c = y at *
    have q0 : ∀ n, oIx (.lst [.int y, .non], .sh) (.int 0, n) = some (.int y, .sh) := fun n => oIx_sh rfl
    have q1 : ∀ n, oIx (.lst [.int y, .non], .sh) (.int 1, n) = some (.non, .sh) := fun n => oIx_sh rfl
    by_cases hp : (r, c) ∈ ps
    · simp [mFn, mSeq, mSet, mRet, mDrop, mIf, mNext, mPass, sE, sT, putM, keepD, bnd, ret, lft, mC, mVar, mMov, mFrz, mSh, mOp2, mOp1, mOpN, mNil, mCons, mTst, mAnd, mOr, mNot, mAndV, mOrV, mNotV, mIfE, mYes_ap, mONo, mOSome, mCall, back, backO, backE, isSh, nbB_cons, nbB_nil, nb_none, nb_some, Md.nb, Md.nbs, Md.beq, Md.beqs, D.atm, D.atms, oI, oAdd, oSub, oMul, oDiv, oMod, oPow, oLt, oLe, oGt, oGe, oNeg, oLen, intOf, mChain, mLst, mTup, mgN, forT, compT, wipeS, itMd, elSh, D.isN, oIsN, oNotN, Md.okB, Md.okBs, lim1, lim2, lim3, lim4, lim0', e__law_view_1, f1, f2, hin, hp, oInt, q1, dO, hx]
    · simp [mFn, mSeq, mSet, mRet, mDrop, mIf, mNext, mPass, sE, sT, putM, keepD, bnd, ret, lft, mC, mVar, mMov, mFrz, mSh, mOp2, mOp1, mOpN, mNil, mCons, mTst, mAnd, mOr, mNot, mAndV, mOrV, mNotV, mIfE, mYes_ap, mONo, mOSome, mCall, back, backO, backE, isSh, nbB_cons, nbB_nil, nb_none, nb_some, Md.nb, Md.nbs, Md.beq, Md.beqs, D.atm, D.atms, oI, oAdd, oSub, oMul, oDiv, oMod, oPow, oLt, oLe, oGt, oGe, oNeg, oLen, intOf, mChain, mLst, mTup, mgN, forT, compT, wipeS, itMd, elSh, D.isN, oIsN, oNotN, Md.okB, Md.okBs, lim1, lim2, lim3, lim4, lim0', e__law_view_1, f1, f2, hin, hp, oInt, q0, dO, hx]
  let rc : Nat → List (Option Int) := fun r => (List.range w).map fun c => if (r, c) ∈ ps then none else some (cell g r c)
  have hrc : ∀ r, (List.range w).map (fun c => dO (if (r, c) ∈ ps then none else some (cell g r c))) = (rc r).map dO := fun r => by simp [rc, Function.comp_def]
  have hce : cellsT g w ps = (List.range g.length).map rc := rfl
  have last : ∀ (y : Ent), Ent.nb y = true → compL .sh [3] (mgN 3) mYes e__law_view_2 (g.map dI) [] [some (dG g, .sh), some (dPs ps, .sh), y, none, none] = some ([] ++ g.map (fun r => D.int r.sum), [some (dG g, .sh), some (dPs ps, .sh), y, none, none]) := fun y hy => compL_over fun r hr => by
    simp [mFn, mSeq, mSet, mRet, mDrop, mIf, mNext, mPass, sE, sT, putM, keepD, bnd, ret, lft, mC, mVar, mMov, mFrz, mSh, mOp2, mOp1, mOpN, mNil, mCons, mTst, mAnd, mOr, mNot, mAndV, mOrV, mNotV, mIfE, mYes_ap, mONo, mOSome, mCall, back, backO, backE, isSh, nbB_cons, nbB_nil, nb_none, nb_some, Md.nb, Md.nbs, Md.beq, Md.beqs, D.atm, D.atms, oI, oAdd, oSub, oMul, oDiv, oMod, oPow, oLt, oLe, oGt, oGe, oNeg, oIx, oLen, intOf, mChain, mLst, mTup, mgN, forT, compT, wipeS, itMd, elSh, D.isN, oIsN, oNotN, Md.okB, Md.okBs, lim1, lim2, lim3, lim4, lim0', e__law_view_2, dI, oSum, intsOf_map, hy]
  rw [hce]
  obtain ⟨s', e1, x, hx, rfl⟩ := forL_run (mg := mgN 3) (body := l__law_view_1) (items := rng g.length) (ss := [some (dG g, .sh), some (dPs ps, .sh), some (.lst [], .ow (.ow .sh)), none, none])
    (fun i s => ∃ x : Ent, Ent.nb x = true ∧ s = [some (dG g, .sh), some (dPs ps, .sh), some (.lst (((List.range i).map rc).map dR), .ow (.ow .sh)), x, none])
    (fun i d s hd ⟨x, hx, hs⟩ => by
      obtain ⟨hi2, rfl⟩ := rng_get hd
      subst hs
      have inner2 := inner i (some (.lst (((List.range i).map rc).map dR), .ow (.ow .sh))) hi2 rfl
      rw [hrc] at inner2
      have hil : (((List.range i).map rc).map dR).length < lim := Nat.lt_of_lt_of_le (by simpa using hi2) hgl
      have hnx : ((List.range (i + 1)).map rc).map dR = ((List.range i).map rc).map dR ++ [.lst ((rc i).map dO)] := by rw [List.range_succ]; simp [dR]
      rw [hnx]
      generalize ((List.range i).map rc).map dR = A at *
      generalize (rc i).map dO = Bx at *
      simp [mFn, mSeq, mSet, mRet, mDrop, mIf, mNext, mPass, sE, sT, putM, keepD, bnd, ret, lft, mC, mVar, mMov, mFrz, mSh, mOp2, mOp1, mOpN, mNil, mCons, mTst, mAnd, mOr, mNot, mAndV, mOrV, mNotV, mIfE, mYes_ap, mONo, mOSome, mCall, back, backO, backE, isSh, nbB_cons, nbB_nil, nb_none, nb_some, Md.nb, Md.nbs, Md.beq, Md.beqs, D.atm, D.atms, oI, oAdd, oSub, oMul, oDiv, oMod, oPow, oLt, oLe, oGt, oGe, oNeg, intOf, mChain, mLst, mTup, mgN, forT, compT, wipeS, itMd, elSh, D.isN, oIsN, oNotN, Md.okB, Md.okBs, lim1, lim2, lim3, lim4, lim0', l__law_view_1, mComp, mItR, hi, lr, ic, inner2, mApp, rng_len, hw2, hx, hil]) ⟨none, rfl, rfl⟩
  rw [rng_len] at e1
  have hgm : g.map (fun r => D.int r.sum) = (g.map List.sum).map D.int := by simp
  have l2 := last none rfl
  have lg := fun m => oLen_G (r := g) (m := m)
  rw [hgm] at l2
  unfold dV dC dI
  generalize ((List.range g.length).map rc).map dR = A at *
  generalize (g.map List.sum).map D.int = Sm at *
  unfold dI at ecs
  generalize (colS g w).map D.int = Cm at *
  have itg : ∀ s : SS, s[0]? = some (some (dG g, .sh)) → mItL (mVar 0) s = some (.ok (g.map dI), s) := fun s hs => by
    simp [mFn, mSeq, mSet, mRet, mDrop, mIf, mNext, mPass, sE, sT, putM, keepD, bnd, ret, lft, mC, mVar, mMov, mFrz, mSh, mOp2, mOp1, mOpN, mNil, mCons, mTst, mAnd, mOr, mNot, mAndV, mOrV, mNotV, mIfE, mYes_ap, mONo, mOSome, mCall, back, backO, backE, isSh, nbB_cons, nbB_nil, nb_none, nb_some, Md.nb, Md.nbs, Md.beq, Md.beqs, D.atm, D.atms, oI, oAdd, oSub, oMul, oDiv, oMod, oPow, oLt, oLe, oGt, oGe, oNeg, oIx, oLen, intOf, mChain, mLst, mTup, mgN, forT, compT, wipeS, itMd, elSh, D.isN, oIsN, oNotN, Md.okB, Md.okBs, lim1, lim2, lim3, lim4, lim0', mItL, hs, dG]
  have it2 := itg [some (dG g, .sh), some (dPs ps, .sh), none, x, none] rfl
  simp [mFn, mSeq, mSet, mRet, mDrop, mIf, mNext, mPass, sE, sT, putM, keepD, bnd, ret, lft, mC, mVar, mMov, mFrz, mSh, mOp2, mOp1, mOpN, mNil, mCons, mTst, mAnd, mOr, mNot, mAndV, mOrV, mNotV, mIfE, mYes_ap, mONo, mOSome, mCall, back, backO, backE, isSh, nbB_cons, nbB_nil, nb_none, nb_some, Md.nb, Md.nbs, Md.beq, Md.beqs, D.atm, D.atms, oI, oAdd, oSub, oMul, oDiv, oMod, oPow, oLt, oLe, oGt, oGe, oNeg, intOf, mChain, mLst, mTup, mgN, forT, compT, wipeS, itMd, elSh, D.isN, oIsN, oNotN, Md.okB, Md.okBs, lim1, lim2, lim3, lim4, lim0', m__law_view, b__law_view, mFor, mItR, lg, ir, e1, hx, mComp, it2, hgl, l2, ecs]
end Ve

set_option Elab.async false
set_option linter.all false
set_option maxRecDepth 100000
set_option maxHeartbeats 2000000
namespace Ve
open PySem L2
theorem atms_P {ps : List Pl} : D.atms (ps.map dP) = true := by
  induction ps with
  | nil => rfl
  | cons p ps ih => simp [D.atms, D.atm, dP, ih]
theorem law_all_ok {g : List (List Int)} {w : Nat} (h : Tb g w) : m__law_all [dG g] = some (.ok (dPs (plc g.length w), .sh)) := by
  have hw2 : w ≤ lim := le_lim (by have := h.w8; omega)
  obtain ⟨r0, e0, hi⟩ := oIx_G0 h
  have ir := iR_nat (m := .sh) (n := g.length) (by have := h.h8; omega)
  have ic : iR [(.int (w : Int), Md.sh)] = some (rng w) := iR_nat (by have := h.w8; omega)
  have lr : ∀ m, oLen [(dI r0, m)] = some (.int (w : Int), .sh) := fun m => by rw [oLen_I, e0]
  have lg := fun m => oLen_G (r := g) (m := m)
  have inner : ∀ (r : Nat) (x : Ent), Ent.nb x = true → compL .sh [3] (mgN 3) mYes e__law_all_1 (rng w) [] [some (dG g, .sh), x, some (.int (r : Int), .sh), none] = some ((List.range w).map (fun (c : Nat) => D.tup [.int (r : Int), .int (c : Int)]), [some (dG g, .sh), x, some (.int (r : Int), .sh), none]) := fun r x hx => compL_rng fun c hc => by
    simp [mFn, mSeq, mSet, mRet, mDrop, mIf, mNext, mPass, sE, sT, putM, keepD, bnd, ret, lft, mC, mVar, mMov, mFrz, mSh, mOp2, mOp1, mOpN, mNil, mCons, mTst, mAnd, mOr, mNot, mAndV, mOrV, mNotV, mIfE, mYes_ap, mONo, mOSome, mCall, back, backO, backE, isSh, nbB_cons, nbB_nil, nb_none, nb_some, Md.nb, Md.nbs, Md.beq, Md.beqs, D.atm, D.atms, oI, oAdd, oSub, oMul, oDiv, oMod, oPow, oLt, oLe, oGt, oGe, oNeg, oIx, oLen, intOf, mChain, mLst, mTup, mgN, forT, compT, wipeS, itMd, elSh, D.isN, oIsN, oNotN, Md.okB, Md.okBs, lim1, lim2, lim3, lim4, lim0', e__law_all_1, hx]
  obtain ⟨s', e1, x, hx, rfl⟩ := forL_run (mg := mgN 2) (body := l__law_all_1) (items := rng g.length) (ss := [some (dG g, .sh), some (.lst [], .sh), none, none])
    (fun i s => ∃ x : Ent, Ent.nb x = true ∧ s = [some (dG g, .sh), some (.lst ((plc i w).map dP), .sh), x, none])
    (fun i d s hd ⟨x, hx, hs⟩ => by
      obtain ⟨hi2, rfl⟩ := rng_get hd
      subst hs
      have inner2 := inner i (some (.lst ((plc i w).map dP), .sh)) rfl
      have hcat : ((plc i w).map dP).length + w ≤ lim := by
        rw [List.length_map, plc_len]
        have : i * w ≤ 9 * 9 := Nat.mul_le_mul (by have := h.h8; omega) (by have := h.w8; omega)
        have := h.w8
        exact Nat.le_trans (show i * w + w ≤ 1000 by omega) (by decide)
      have hnx : (plc (i + 1) w).map dP = (plc i w).map dP ++ (List.range w).map (fun (c : Nat) => D.tup [.int (i : Int), .int (c : Int)]) := by
        unfold plc
        rw [List.range_succ, List.flatMap_append, List.map_append]
        simp [plRow, dP, Function.comp_def]
      rw [hnx]
      generalize (plc i w).map dP = A at *
      have hBl : ((List.range w).map (fun (c : Nat) => D.tup [.int (i : Int), .int (c : Int)])).length = w := by simp
      generalize (List.range w).map (fun (c : Nat) => D.tup [.int (i : Int), .int (c : Int)]) = Bx at *
      simp [mFn, mSeq, mSet, mRet, mDrop, mIf, mNext, mPass, sE, sT, putM, keepD, bnd, ret, lft, mC, mVar, mMov, mFrz, mSh, mOp2, mOp1, mOpN, mNil, mCons, mTst, mAnd, mOr, mNot, mAndV, mOrV, mNotV, mIfE, mYes_ap, mONo, mOSome, mCall, back, backO, backE, isSh, nbB_cons, nbB_nil, nb_none, nb_some, Md.nb, Md.nbs, Md.beq, Md.beqs, D.atm, D.atms, oI, oAdd, oSub, oMul, oDiv, oMod, oPow, oLt, oLe, oGt, oGe, oNeg, intOf, mChain, mLst, mTup, mgN, forT, compT, wipeS, itMd, elSh, D.isN, oIsN, oNotN, Md.okB, Md.okBs, lim1, lim2, lim3, lim4, lim0', l__law_all_1, mComp, mItR, hi, lr, ic, inner2, rng_len, hw2, hx, oCat, hcat, hBl]) ⟨none, rfl, rfl⟩
  rw [rng_len] at e1
  unfold dPs
  generalize (plc g.length w).map dP = A at *
  simp [mFn, mSeq, mSet, mRet, mDrop, mIf, mNext, mPass, sE, sT, putM, keepD, bnd, ret, lft, mC, mVar, mMov, mFrz, mSh, mOp2, mOp1, mOpN, mNil, mCons, mTst, mAnd, mOr, mNot, mAndV, mOrV, mNotV, mIfE, mYes_ap, mONo, mOSome, mCall, back, backO, backE, isSh, nbB_cons, nbB_nil, nb_none, nb_some, Md.nb, Md.nbs, Md.beq, Md.beqs, D.atm, D.atms, oI, oAdd, oSub, oMul, oDiv, oMod, oPow, oLt, oLe, oGt, oGe, oNeg, intOf, mChain, mLst, mTup, mgN, forT, compT, wipeS, itMd, elSh, D.isN, oIsN, oNotN, Md.okB, Md.okBs, lim1, lim2, lim3, lim4, lim0', m__law_all, b__law_all, mFor, mItR, lg, ir, e1, hx]
/-- a filter over range, items of a list -/
theorem compL_rngF {em : Md} {own : List Nat} {mg : MG} {cond : MT} {elt : ME} {f : Nat → D} {p : Nat → Bool} {ss : SS} {n : Nat} (h : ∀ i, i < n → compT em own mg cond elt (.int (i : Int)) ss = some (if p i then some (f i) else none, ss)) :
    compL em own mg cond elt (rng n) [] ss = some (((List.range n).filter p).map f, ss) := by
  have := compL_filt (em := em) (own := own) (mg := mg) (cond := cond) (elt := elt) (g := fun i : Nat => D.int (i : Int)) (f := f) (p := p) (xs := List.range n) (ss := ss) (acc := []) fun i hi => h i (by simpa using hi)
  simpa [rng] using this
def placesN (ns : List Int) (h w : Nat) : List Pl := ((List.range (h * w)).filter fun (k : Nat) => decide (mix ns 6 % 5 - 1 < mix ns (80 + (k : Int)) % 5)).map fun k => (plc h w).getD k (0, 0)
theorem law_places_ok {ns : List Int} {g : List (List Int)} {w : Nat} (hn : ns.length ≤ 63) (h : Tb g w) : m__law_places [.fz ns, dG g] = some (.ok (dPs (placesN ns g.length w), .ow .sh)) := by
  have m6 := mix_ok hn (show (0 : Int) ≤ 6 by decide)
  have ea := law_all_ok h
  have pl := plc_len (h := g.length) (w := w)
  have p81 := plc_lim (h := g.length) (w := w) (by have := h.h8; omega) (by have := h.w8; omega)
  rw [pl] at p81
  have ir : iR [(.int ((g.length * w : Nat) : Int), Md.sh)] = some (rng (g.length * w)) := iR_nat (by omega)
  have lp : ∀ m, oLen [(dPs (plc g.length w), m)] = some (.int ((g.length * w : Nat) : Int), .sh) := fun m => by simp [oLen, dPs, pl]
  have hl : g.length * w ≤ lim := le_lim (by omega)
  have ixp : ∀ (k : Nat) (n : Md), k < g.length * w → oIx (dPs (plc g.length w), .sh) (.int (k : Int), n) = some (dP ((plc g.length w).getD k (0, 0)), .sh) := fun k n hk => by
    simp only [oIx, dPs]
    rw [atI_nat' (by omega), List.getElem?_map]
    have : k < (plc g.length w).length := by omega
    simp [this, itMd, isSh]
  have inner : ∀ sh : Int, compL .sh [4] (mgN 4) t__law_places_1 e__law_places_1 (rng (g.length * w)) [] [some (.fz ns, .sh), some (dG g, .sh), some (.int sh, .sh), some (dPs (plc g.length w), .sh), none] = some (((List.range (g.length * w)).filter fun (k : Nat) => decide (sh < mix ns (80 + (k : Int)) % 5)).map (fun k => dP ((plc g.length w).getD k (0, 0))), [some (.fz ns, .sh), some (dG g, .sh), some (.int sh, .sh), some (dPs (plc g.length w), .sh), none]) := fun sh => compL_rngF fun k hk => by
    have mk := mix_ok hn (show (0 : Int) ≤ 80 + (k : Int) by omega)
    have ik := fun n => ixp k n hk
    by_cases hc : sh < mix ns (80 + (k : Int)) % 5
    · simp [mFn, mSeq, mSet, mRet, mDrop, mIf, mNext, mPass, sE, sT, putM, keepD, bnd, ret, lft, mC, mVar, mMov, mFrz, mSh, mOp2, mOp1, mOpN, mNil, mCons, mTst, mAnd, mOr, mNot, mAndV, mOrV, mNotV, mIfE, mYes_ap, mONo, mOSome, mCall, back, backO, backE, isSh, nbB_cons, nbB_nil, nb_none, nb_some, Md.nb, Md.nbs, Md.beq, Md.beqs, D.atm, D.atms, oI, oAdd, oSub, oMul, oDiv, oMod, oPow, oLt, oLe, oGt, oGe, oNeg, oLen, intOf, mChain, mLst, mTup, mgN, forT, compT, wipeS, itMd, elSh, D.isN, oIsN, oNotN, Md.okB, Md.okBs, lim1, lim2, lim3, lim4, lim0', t__law_places_1, e__law_places_1, mk, ik, hc]
    · simp [mFn, mSeq, mSet, mRet, mDrop, mIf, mNext, mPass, sE, sT, putM, keepD, bnd, ret, lft, mC, mVar, mMov, mFrz, mSh, mOp2, mOp1, mOpN, mNil, mCons, mTst, mAnd, mOr, mNot, mAndV, mOrV, mNotV, mIfE, mYes_ap, mONo, mOSome, mCall, back, backO, backE, isSh, nbB_cons, nbB_nil, nb_none, nb_some, Md.nb, Md.nbs, Md.beq, Md.beqs, D.atm, D.atms, oI, oAdd, oSub, oMul, oDiv, oMod, oPow, oLt, oLe, oGt, oGe, oNeg, oLen, intOf, mChain, mLst, mTup, mgN, forT, compT, wipeS, itMd, elSh, D.isN, oIsN, oNotN, Md.okB, Md.okBs, lim1, lim2, lim3, lim4, lim0', t__law_places_1, e__law_places_1, mk, hc]
  have i2 := inner (mix ns 6 % 5 - 1)
  unfold placesN
  clear p81 inner ixp
  generalize g.length * w = q at *
  generalize hA : ((List.range (g.length * w)).filter fun (k : Nat) => decide (mix ns 6 % 5 - 1 < mix ns (80 + (k : Int)) % 5)) = A at *
  simp only [dPs, List.map_map, Function.comp_def] at i2 ea lp ⊢
  simp [mFn, mSeq, mSet, mRet, mDrop, mIf, mNext, mPass, sE, sT, putM, keepD, bnd, ret, lft, mC, mVar, mMov, mFrz, mSh, mOp2, mOp1, mOpN, mNil, mCons, mTst, mAnd, mOr, mNot, mAndV, mOrV, mNotV, mIfE, mYes_ap, mONo, mOSome, mCall, back, backO, backE, isSh, nbB_cons, nbB_nil, nb_none, nb_some, Md.nb, Md.nbs, Md.beq, Md.beqs, D.atm, D.atms, oI, oAdd, oSub, oMul, oDiv, oMod, oPow, oLt, oLe, oGt, oGe, oNeg, intOf, mChain, mLst, mTup, mgN, forT, compT, wipeS, itMd, elSh, D.isN, oIsN, oNotN, Md.okB, Md.okBs, lim1, lim2, lim3, lim4, lim0', m__law_places, b__law_places, m6, ea, lp, mComp, mItR, ir, rng_len, hl, i2]
end Ve

set_option Elab.async false
set_option linter.all false
set_option maxRecDepth 100000
set_option maxHeartbeats 4000000
namespace Ve
open PySem L2
def cellO (C : Cs) (p : Pl) : Option Int := (C.getD p.1 []).getD p.2 none
def okO2 (x : Option Int) (i : Int) : Bool := match x with
  | none => true
  | some j => decide (j = i)
def cellsOk (k : List (List Int)) (w : Nat) (C : Cs) : Bool := (plc k.length w).all fun p => okO2 (cellO C p) (cellP k p)
def hasB (k : List (List Int)) (w2 : Nat) (C : Cs) (R S : List Int) : Bool := decide (k.length = C.length) && (decide (w2 = S.length) && (cellsOk k w2 C && (decide (k.map List.sum = R) && decide (colS k w2 = S))))
theorem need_view_ok {cs : Cs} {R S : List Int} (v : Vw cs R S) : m_need_view [dV cs R S] = some (if viewOk cs R S then .ok (.non, .sh) else .er ⟨2, [], []⟩) := by
  have e := is_view_ok v
  cases h : viewOk cs R S with
  | true => rw [h] at e; simp [mFn, mSeq, mSet, mRet, mDrop, mIf, mNext, mPass, sE, sT, putM, keepD, bnd, ret, lft, mC, mVar, mMov, mFrz, mSh, mOp2, mOp1, mOpN, mNil, mCons, mTst, mAnd, mOr, mNot, mAndV, mOrV, mNotV, mIfE, mYes_ap, mONo, mOSome, mCall, back, backO, backE, isSh, nbB_cons, nbB_nil, nb_none, nb_some, Md.nb, Md.nbs, Md.beq, Md.beqs, D.atm, D.atms, oI, oAdd, oSub, oMul, oDiv, oMod, oPow, oLt, oLe, oGt, oGe, oNeg, oIx, oLen, intOf, mChain, mLst, mTup, mgN, forT, compT, wipeS, itMd, elSh, D.isN, oIsN, oNotN, Md.okB, Md.okBs, lim1, lim2, lim3, lim4, lim0', m_need_view, b_need_view, e]
  | false => rw [h] at e; simp [mFn, mSeq, mSet, mRet, mDrop, mIf, mNext, mPass, sE, sT, putM, keepD, bnd, ret, lft, mC, mVar, mMov, mFrz, mSh, mOp2, mOp1, mOpN, mNil, mCons, mTst, mAnd, mOr, mNot, mAndV, mOrV, mNotV, mIfE, mYes_ap, mONo, mOSome, mCall, back, backO, backE, isSh, nbB_cons, nbB_nil, nb_none, nb_some, Md.nb, Md.nbs, Md.beq, Md.beqs, D.atm, D.atms, oI, oAdd, oSub, oMul, oDiv, oMod, oPow, oLt, oLe, oGt, oGe, oNeg, oIx, oLen, intOf, mChain, mLst, mTup, mgN, forT, compT, wipeS, itMd, elSh, D.isN, oIsN, oNotN, Md.okB, Md.okBs, lim1, lim2, lim3, lim4, lim0', m_need_view, b_need_view, e, mRaise]
theorem cs_get {cs : Cs} {R S : List Int} (v : Vw cs R S) {p : Pl} (h1 : p.1 < cs.length) (h2 : p.2 < S.length) : (∀ n, oIx (dC cs, .sh) (.int (p.1 : Int), n) = some (dR (cs.getD p.1 []), .sh)) ∧ ∀ m n, oIx (dR (cs.getD p.1 []), m) (.int (p.2 : Int), n) = some (dO (cellO cs p), .sh) := by
  refine ⟨fun n => oIx_C h1, fun m n => oIx_R ?_⟩
  rw [v.row _ (by simp [List.getD, h1])]
  exact h2
theorem has_view_ok {k : List (List Int)} {w2 : Nat} {C : Cs} {R S : List Int} (hk : Tb k w2) (v : Vw C R S) (ok : viewOk C R S = true) : m_has_view [dG k, dV C R S] = some (.ok (.bl (hasB k w2 C R S), .sh)) := by
  have e1 := need_tb hk
  have e2 := need_view_ok v
  rw [ok, if_pos rfl] at e2
  obtain ⟨r0, e0, hi⟩ := oIx_G0 hk
  have c0 : 0 < C.length := v.h1
  have r0l : (C.getD 0 []).length = S.length := v.row _ (by simp [List.getD, c0])
  have f0 : ∀ n, oIx (dC C, .sh) (.int 0, n) = some (dR (C.getD 0 []), .sh) := fun n => oIx_C (i := 0) c0
  have lr : ∀ m, oLen [(dI r0, m)] = some (.int (w2 : Int), .sh) := fun m => by rw [oLen_I, e0]
  have lg := fun m => oLen_G (r := k) (m := m)
  have lc := fun m => oLen_C (cs := C) (m := m)
  have lR : ∀ m, oLen [(dR (C.getD 0 []), m)] = some (.int (S.length : Int), .sh) := fun m => by rw [oLen_R, r0l]
  have v0 := fun n => oIx_V0 (cs := C) (R := R) (S := S) (n := n)
  have v1 := fun n => oIx_V1 (cs := C) (R := R) (S := S) (n := n)
  have v2 := fun n => oIx_V2 (cs := C) (R := R) (S := S) (n := n)
  have e3 := all_places_G hk
  have e4 := row_sums_ok hk
  have e5 := column_sums_ok hk
  by_cases h1 : k.length = C.length
  · have h1' : (k.length : Int) = (C.length : Int) := by omega
    by_cases h2 : w2 = S.length
    · have h2' : (w2 : Int) = (S.length : Int) := by omega
      have main := forL_all (mg := mgT 2 (mgCons (mgN 2) (mgCons (mgN 3) mgNil))) (body := l_has_view_1) (r := (.bl false, .sh)) (items := (plc k.length w2).map dP) (ss := [some (dG k, .sh), some (dV C R S, .sh), none, none])
        (fun s => ∃ x y : Ent, Ent.nb x = true ∧ Ent.nb y = true ∧ s = [some (dG k, .sh), some (dV C R S, .sh), x, y])
        (fun d => match d with | .tup [.int r, .int c] => okO2 (cellO C (r.toNat, c.toNat)) (cellP k (r.toNat, c.toNat)) | _ => true)
        (fun d s hd ⟨x, y, hx, hy, hs⟩ => by
          obtain ⟨p, hp, rfl⟩ := List.mem_map.mp hd
          subst hs
          obtain ⟨f1, f2⟩ := cell_ix hk hp
          obtain ⟨p1, p2⟩ := plc_mem.mp hp
          obtain ⟨g1, g2⟩ := cs_get (p := p) v (by omega) (by omega)
          have hpp : ∀ b, (match dP p with | .tup [.int r, .int c] => okO2 (cellO C (r.toNat, c.toNat)) (cellP k (r.toNat, c.toNat)) | _ => true) = b ↔ okO2 (cellO C p) (cellP k p) = b := fun b => by simp [dP]
          rw [hpp, hpp]
          generalize cellO C p = y1 at *
          generalize cellP k p = z1 at *
          generalize k.getD p.1 [] = row at *
          generalize C.getD p.1 [] = row2 at *
          unfold dP
          cases y1 with
          | none =>
            refine ⟨fun _ => ?_, fun h => by simp [okO2] at h⟩
            refine ⟨[some (dG k, .sh), some (dV C R S, .sh), some (.int (p.1 : Int), .sh), some (.int (p.2 : Int), .sh)], ?_, rfl, _, _, rfl, rfl, rfl⟩
            simp [mFn, mSeq, mSet, mRet, mDrop, mIf, mNext, mPass, sE, sT, putM, keepD, bnd, ret, lft, mC, mVar, mMov, mFrz, mSh, mOp2, mOp1, mOpN, mNil, mCons, mTst, mAnd, mOr, mNot, mAndV, mOrV, mNotV, mIfE, mYes_ap, mONo, mOSome, mCall, back, backO, backE, isSh, nbB_cons, nbB_nil, nb_none, nb_some, Md.nb, Md.nbs, Md.beq, Md.beqs, D.atm, D.atms, oI, oAdd, oSub, oMul, oDiv, oMod, oPow, oLt, oLe, oGt, oGe, oNeg, intOf, mChain, mLst, mTup, mgN, forT, compT, wipeS, itMd, elSh, D.isN, oIsN, oNotN, Md.okB, Md.okBs, lim1, lim2, lim3, lim4, lim0', l_has_view_1, mgT, mgCons, mgNil, parts, v0, g1, g2, dO, hx, hy]
          | some j =>
            refine ⟨fun h => ⟨[some (dG k, .sh), some (dV C R S, .sh), some (.int (p.1 : Int), .sh), some (.int (p.2 : Int), .sh)], ?_, rfl, _, _, rfl, rfl, rfl⟩, fun h => ⟨[some (dG k, .sh), some (dV C R S, .sh), some (.int (p.1 : Int), .sh), some (.int (p.2 : Int), .sh)], ?_⟩⟩
            · have hj : j = z1 := by simpa [okO2] using h
              simp [mFn, mSeq, mSet, mRet, mDrop, mIf, mNext, mPass, sE, sT, putM, keepD, bnd, ret, lft, mC, mVar, mMov, mFrz, mSh, mOp2, mOp1, mOpN, mNil, mCons, mTst, mAnd, mOr, mNot, mAndV, mOrV, mNotV, mIfE, mYes_ap, mONo, mOSome, mCall, back, backO, backE, isSh, nbB_cons, nbB_nil, nb_none, nb_some, Md.nb, Md.nbs, Md.beq, Md.beqs, D.atm, D.atms, oI, oAdd, oSub, oMul, oDiv, oMod, oPow, oLt, oLe, oGt, oGe, oNeg, intOf, mChain, mLst, mTup, mgN, forT, compT, wipeS, itMd, elSh, D.isN, oIsN, oNotN, Md.okB, Md.okBs, lim1, lim2, lim3, lim4, lim0', l_has_view_1, mgT, mgCons, mgNil, parts, v0, g1, g2, f1, f2, dO, hx, hy, oNe_int, hj]
            · have hj : ¬ j = z1 := by simpa [okO2] using h
              simp [mFn, mSeq, mSet, mRet, mDrop, mIf, mNext, mPass, sE, sT, putM, keepD, bnd, ret, lft, mC, mVar, mMov, mFrz, mSh, mOp2, mOp1, mOpN, mNil, mCons, mTst, mAnd, mOr, mNot, mAndV, mOrV, mNotV, mIfE, mYes_ap, mONo, mOSome, mCall, back, backO, backE, isSh, nbB_cons, nbB_nil, nb_none, nb_some, Md.nb, Md.nbs, Md.beq, Md.beqs, D.atm, D.atms, oI, oAdd, oSub, oMul, oDiv, oMod, oPow, oLt, oLe, oGt, oGe, oNeg, intOf, mChain, mLst, mTup, mgN, forT, compT, wipeS, itMd, elSh, D.isN, oIsN, oNotN, Md.okB, Md.okBs, lim1, lim2, lim3, lim4, lim0', l_has_view_1, mgT, mgCons, mgNil, parts, v0, g1, g2, f1, f2, dO, hx, hy, oNe_int, hj]) ⟨none, none, rfl, rfl, rfl⟩
      have hall : (((plc k.length w2).map dP).all fun d => match d with | .tup [.int r, .int c] => okO2 (cellO C (r.toNat, c.toNat)) (cellP k (r.toNat, c.toNat)) | _ => true) = cellsOk k w2 C := by
        simp [List.all_map, cellsOk, dP, Function.comp_def]
      rw [hall] at main
      generalize C.getD 0 [] = r1 at *
      cases hc : cellsOk k w2 C with
      | false =>
        have hb : hasB k w2 C R S = false := by simp [hasB, hc]
        rw [hb]
        obtain ⟨s', e6⟩ := main.2 hc
        unfold dPs at e3
        simp [mFn, mSeq, mSet, mRet, mDrop, mIf, mNext, mPass, sE, sT, putM, keepD, bnd, ret, lft, mC, mVar, mMov, mFrz, mSh, mOp2, mOp1, mOpN, mNil, mCons, mTst, mAnd, mOr, mNot, mAndV, mOrV, mNotV, mIfE, mYes_ap, mONo, mOSome, mCall, back, backO, backE, isSh, nbB_cons, nbB_nil, nb_none, nb_some, Md.nb, Md.nbs, Md.beq, Md.beqs, D.atm, D.atms, oI, oAdd, oSub, oMul, oDiv, oMod, oPow, oLt, oLe, oGt, oGe, oNeg, intOf, mChain, mLst, mTup, mgN, forT, compT, wipeS, itMd, elSh, D.isN, oIsN, oNotN, Md.okB, Md.okBs, lim1, lim2, lim3, lim4, lim0', m_has_view, b_has_view, e1, e2, lg, v0, lc, oNe_int, h1', hi, lr, f0, lR, h2', mFor, mItL, e3, e6]
      | true =>
        have hb : hasB k w2 C R S = (decide (k.map List.sum = R) && decide (colS k w2 = S)) := by
          unfold hasB
          rw [hc, decide_eq_true h1, decide_eq_true h2]
          simp
        rw [hb]
        obtain ⟨s', e6, x, y, hx, hy, rfl⟩ := main.1 hc
        unfold dPs at e3
        have q1 := fun m n => oEq_dI (i := k.map List.sum) (j := R) (m := m) (n := n)
        have q2 := fun m n => oEq_dI (i := colS k w2) (j := S) (m := m) (n := n)
        generalize k.map List.sum = R2 at *
        generalize colS k w2 = S2 at *
        by_cases hR : R2 = R
        · subst hR
          simp [mFn, mSeq, mSet, mRet, mDrop, mIf, mNext, mPass, sE, sT, putM, keepD, bnd, ret, lft, mC, mVar, mMov, mFrz, mSh, mOp2, mOp1, mOpN, mNil, mCons, mTst, mAnd, mOr, mNot, mAndV, mOrV, mNotV, mIfE, mYes_ap, mONo, mOSome, mCall, back, backO, backE, isSh, nbB_cons, nbB_nil, nb_none, nb_some, Md.nb, Md.nbs, Md.beq, Md.beqs, D.atm, D.atms, oI, oAdd, oSub, oMul, oDiv, oMod, oPow, oLt, oLe, oGt, oGe, oNeg, intOf, mChain, mLst, mTup, mgN, forT, compT, wipeS, itMd, elSh, D.isN, oIsN, oNotN, Md.okB, Md.okBs, lim1, lim2, lim3, lim4, lim0', m_has_view, b_has_view, e1, e2, lg, v0, v1, v2, lc, oNe_int, h1', hi, lr, f0, lR, h2', mFor, mItL, e3, e6, e4, e5, q1, q2, hx, hy]
        · simp [mFn, mSeq, mSet, mRet, mDrop, mIf, mNext, mPass, sE, sT, putM, keepD, bnd, ret, lft, mC, mVar, mMov, mFrz, mSh, mOp2, mOp1, mOpN, mNil, mCons, mTst, mAnd, mOr, mNot, mAndV, mOrV, mNotV, mIfE, mYes_ap, mONo, mOSome, mCall, back, backO, backE, isSh, nbB_cons, nbB_nil, nb_none, nb_some, Md.nb, Md.nbs, Md.beq, Md.beqs, D.atm, D.atms, oI, oAdd, oSub, oMul, oDiv, oMod, oPow, oLt, oLe, oGt, oGe, oNeg, intOf, mChain, mLst, mTup, mgN, forT, compT, wipeS, itMd, elSh, D.isN, oIsN, oNotN, Md.okB, Md.okBs, lim1, lim2, lim3, lim4, lim0', m_has_view, b_has_view, e1, e2, lg, v0, v1, v2, lc, oNe_int, h1', hi, lr, f0, lR, h2', mFor, mItL, e3, e6, e4, e5, q1, q2, hx, hy, hR]
    · have h2' : ¬ (w2 : Int) = (S.length : Int) := by omega
      have hb : hasB k w2 C R S = false := by simp [hasB, h2]
      rw [hb]
      generalize C.getD 0 [] = r1 at *
      simp [mFn, mSeq, mSet, mRet, mDrop, mIf, mNext, mPass, sE, sT, putM, keepD, bnd, ret, lft, mC, mVar, mMov, mFrz, mSh, mOp2, mOp1, mOpN, mNil, mCons, mTst, mAnd, mOr, mNot, mAndV, mOrV, mNotV, mIfE, mYes_ap, mONo, mOSome, mCall, back, backO, backE, isSh, nbB_cons, nbB_nil, nb_none, nb_some, Md.nb, Md.nbs, Md.beq, Md.beqs, D.atm, D.atms, oI, oAdd, oSub, oMul, oDiv, oMod, oPow, oLt, oLe, oGt, oGe, oNeg, intOf, mChain, mLst, mTup, mgN, forT, compT, wipeS, itMd, elSh, D.isN, oIsN, oNotN, Md.okB, Md.okBs, lim1, lim2, lim3, lim4, lim0', m_has_view, b_has_view, e1, e2, lg, v0, lc, oNe_int, h1', hi, lr, f0, lR, h2']
  · have h1' : ¬ (k.length : Int) = (C.length : Int) := by omega
    have hb : hasB k w2 C R S = false := by simp [hasB, h1]
    rw [hb]
    simp [mFn, mSeq, mSet, mRet, mDrop, mIf, mNext, mPass, sE, sT, putM, keepD, bnd, ret, lft, mC, mVar, mMov, mFrz, mSh, mOp2, mOp1, mOpN, mNil, mCons, mTst, mAnd, mOr, mNot, mAndV, mOrV, mNotV, mIfE, mYes_ap, mONo, mOSome, mCall, back, backO, backE, isSh, nbB_cons, nbB_nil, nb_none, nb_some, Md.nb, Md.nbs, Md.beq, Md.beqs, D.atm, D.atms, oI, oAdd, oSub, oMul, oDiv, oMod, oPow, oLt, oLe, oGt, oGe, oNeg, intOf, mChain, mLst, mTup, mgN, forT, compT, wipeS, itMd, elSh, D.isN, oIsN, oNotN, Md.okB, Md.okBs, lim1, lim2, lim3, lim4, lim0', m_has_view, b_has_view, e1, e2, lg, v0, lc, oNe_int, h1']
end Ve

set_option Elab.async false
set_option linter.all false
set_option maxRecDepth 100000
set_option maxHeartbeats 4000000
namespace Ve
open PySem L2
/-- a loop over a mapped list: a turn goes on where p, else hands back r -/
theorem forL_allM {α : Type} {f : α → D} {mg : MG} {body : MS} {r : Dm} : ∀ {xs : List α} {ss : SS} (Iv : SS → Prop) (p : α → Bool), (∀ (x : α) (s : SS), x ∈ xs → Iv s → (p x = true → ∃ s', forT mg body (f x) s = some (.nx s') ∧ nbB s' = true ∧ Iv s') ∧ (p x = false → ∃ s', forT mg body (f x) s = some (.rt r s'))) → Iv ss →
    (xs.all p = true → ∃ s', forL mg body (xs.map f) ss = some (.nx s') ∧ Iv s') ∧ (xs.all p = false → ∃ s', forL mg body (xs.map f) ss = some (.rt r s'))
  | [], ss, Iv, p, _, h0 => ⟨fun _ => ⟨ss, rfl, h0⟩, fun h => by simp at h⟩
  | d :: ds, ss, Iv, p, h, h0 => by
    obtain ⟨k1, k2⟩ := h d ss List.mem_cons_self h0
    rw [List.map_cons, forL_cons]
    cases hp : p d with
    | true =>
      obtain ⟨s1, e1, n1, i1⟩ := k1 hp
      rw [e1]
      have ih := forL_allM (xs := ds) (ss := s1) Iv p (fun e s he => h e s (List.mem_cons_of_mem _ he)) i1
      have e : lpR (some (SO.nx s1)) (forL mg body (ds.map f)) = forL mg body (ds.map f) s1 := by
        show (if nbB s1 = true then _ else none) = _
        rw [if_pos n1]
      rw [e]
      simpa [hp] using ih
    | false =>
      obtain ⟨s1, e1⟩ := k2 hp
      rw [e1]
      exact ⟨fun z => by simp [hp] at z, fun _ => ⟨s1, rfl⟩⟩
theorem zip_all {α β : Type} {da : α} {db : β} {f : α × β → Bool} : ∀ {a : List α} {b : List β}, a.length = b.length → ((a.zip b).all f = true ↔ ∀ j, j < a.length → f (a.getD j da, b.getD j db) = true)
  | [], [], _ => by simp
  | [], _ :: _, h => by simp at h
  | _ :: _, [], h => by simp at h
  | x :: a, y :: b, h => by
    have ih := zip_all (da := da) (db := db) (f := f) (a := a) (b := b) (by simpa using h)
    simp only [List.zip_cons_cons, List.all_cons, Bool.and_eq_true, ih]
    constructor
    · rintro ⟨h1, h2⟩ j hj
      cases j with
      | zero => exact h1
      | succ j => exact h2 j (by simpa using hj)
    · intro h
      exact ⟨h 0 (by simp), fun j hj => h (j + 1) (by simpa using hj)⟩
theorem law_whole_int {i : Int} : m__law_whole [.int i] = some (.ok (.bl true, .sh)) := by
  simp [mFn, mSeq, mSet, mRet, mDrop, mIf, mNext, mPass, sE, sT, putM, keepD, bnd, ret, lft, mC, mVar, mMov, mFrz, mSh, mOp2, mOp1, mOpN, mNil, mCons, mTst, mAnd, mOr, mNot, mAndV, mOrV, mNotV, mIfE, mYes_ap, mONo, mOSome, mCall, back, backO, backE, isSh, nbB_cons, nbB_nil, nb_none, nb_some, Md.nb, Md.nbs, Md.beq, Md.beqs, D.atm, D.atms, oI, oAdd, oSub, oMul, oDiv, oMod, oPow, oLt, oLe, oGt, oGe, oNeg, oIx, oLen, intOf, mChain, mLst, mTup, mgN, forT, compT, wipeS, itMd, elSh, D.isN, oIsN, oNotN, Md.okB, Md.okBs, lim1, lim2, lim3, lim4, lim0', m__law_whole, b__law_whole, oIsi, D.tyN, kb_int_int, kb_int_bool]
/-- the cells of two rows -/
def rowsOk (a : List Int) (b : List (Option Int)) : Bool := (a.zip b).all fun q => okO2 q.2 q.1
theorem has_row {V : D} {G : D} {a : List Int} {b : List (Option Int)} {x y : Ent} (nn : ∀ i ∈ a, (0 : Int) ≤ i) (hx : Ent.nb x = true) (hy : Ent.nb y = true) :
    (rowsOk a b = true → ∃ x' y' : Ent, Ent.nb x' = true ∧ Ent.nb y' = true ∧ forL (mgT 2 (mgCons (mgN 4) (mgCons (mgN 5) mgNil))) l__law_has_1 ((a.map .int).zipWith (fun d f => D.tup [d, f]) (b.map dO)) [some (G, .sh), some (V, .sh), some (dI a, .sh), some (dR b, .sh), x, y] = some (.nx [some (G, .sh), some (V, .sh), some (dI a, .sh), some (dR b, .sh), x', y'])) ∧
    (rowsOk a b = false → ∃ s, forL (mgT 2 (mgCons (mgN 4) (mgCons (mgN 5) mgNil))) l__law_has_1 ((a.map .int).zipWith (fun d f => D.tup [d, f]) (b.map dO)) [some (G, .sh), some (V, .sh), some (dI a, .sh), some (dR b, .sh), x, y] = some (.rt (.bl false, .sh) s)) := by
  rw [zip_map]
  have main := forL_allM (f := fun q : Int × Option Int => D.tup [.int q.1, dO q.2]) (mg := mgT 2 (mgCons (mgN 4) (mgCons (mgN 5) mgNil))) (body := l__law_has_1) (r := (.bl false, .sh)) (xs := a.zip b) (ss := [some (G, .sh), some (V, .sh), some (dI a, .sh), some (dR b, .sh), x, y])
    (fun s => ∃ x y : Ent, Ent.nb x = true ∧ Ent.nb y = true ∧ s = [some (G, .sh), some (V, .sh), some (dI a, .sh), some (dR b, .sh), x, y])
    (fun q => okO2 q.2 q.1)
    (fun q s hp ⟨x, y, hx, hy, hs⟩ => by
      obtain ⟨i, o⟩ := q
      subst hs
      have hi := nn i (List.of_mem_zip hp).1
      have hi' : ¬ i < 0 := by omega
      have ew := law_whole_int (i := i)
      cases o with
      | none =>
        refine ⟨fun _ => ⟨[some (G, .sh), some (V, .sh), some (dI a, .sh), some (dR b, .sh), some (.int i, .sh), some (.non, .sh)], ?_, rfl, _, _, rfl, rfl, rfl⟩, fun h => by simp [okO2] at h⟩
        simp [mFn, mSeq, mSet, mRet, mDrop, mIf, mNext, mPass, sE, sT, putM, keepD, bnd, ret, lft, mC, mVar, mMov, mFrz, mSh, mOp2, mOp1, mOpN, mNil, mCons, mTst, mAnd, mOr, mNot, mAndV, mOrV, mNotV, mIfE, mYes_ap, mONo, mOSome, mCall, back, backO, backE, isSh, nbB_cons, nbB_nil, nb_none, nb_some, Md.nb, Md.nbs, Md.beq, Md.beqs, D.atm, D.atms, oI, oAdd, oSub, oMul, oDiv, oMod, oPow, oLt, oLe, oGt, oGe, oNeg, oIx, oLen, intOf, mChain, mLst, mTup, mgN, forT, compT, wipeS, itMd, elSh, D.isN, oIsN, oNotN, Md.okB, Md.okBs, lim1, lim2, lim3, lim4, lim0', l__law_has_1, mgT, mgCons, mgNil, parts, dO, hx, hy, ew, hi']
      | some j =>
        refine ⟨fun h => ⟨[some (G, .sh), some (V, .sh), some (dI a, .sh), some (dR b, .sh), some (.int i, .sh), some (.int j, .sh)], ?_, rfl, _, _, rfl, rfl, rfl⟩, fun h => ⟨[some (G, .sh), some (V, .sh), some (dI a, .sh), some (dR b, .sh), some (.int i, .sh), some (.int j, .sh)], ?_⟩⟩
        · have hj : j = i := by simpa [okO2] using h
          simp [mFn, mSeq, mSet, mRet, mDrop, mIf, mNext, mPass, sE, sT, putM, keepD, bnd, ret, lft, mC, mVar, mMov, mFrz, mSh, mOp2, mOp1, mOpN, mNil, mCons, mTst, mAnd, mOr, mNot, mAndV, mOrV, mNotV, mIfE, mYes_ap, mONo, mOSome, mCall, back, backO, backE, isSh, nbB_cons, nbB_nil, nb_none, nb_some, Md.nb, Md.nbs, Md.beq, Md.beqs, D.atm, D.atms, oI, oAdd, oSub, oMul, oDiv, oMod, oPow, oLt, oLe, oGt, oGe, oNeg, oIx, oLen, intOf, mChain, mLst, mTup, mgN, forT, compT, wipeS, itMd, elSh, D.isN, oIsN, oNotN, Md.okB, Md.okBs, lim1, lim2, lim3, lim4, lim0', l__law_has_1, mgT, mgCons, mgNil, parts, dO, hx, hy, ew, hi', oNe_int, hj]
        · have hj : ¬ j = i := by simpa [okO2] using h
          simp [mFn, mSeq, mSet, mRet, mDrop, mIf, mNext, mPass, sE, sT, putM, keepD, bnd, ret, lft, mC, mVar, mMov, mFrz, mSh, mOp2, mOp1, mOpN, mNil, mCons, mTst, mAnd, mOr, mNot, mAndV, mOrV, mNotV, mIfE, mYes_ap, mONo, mOSome, mCall, back, backO, backE, isSh, nbB_cons, nbB_nil, nb_none, nb_some, Md.nb, Md.nbs, Md.beq, Md.beqs, D.atm, D.atms, oI, oAdd, oSub, oMul, oDiv, oMod, oPow, oLt, oLe, oGt, oGe, oNeg, oIx, oLen, intOf, mChain, mLst, mTup, mgN, forT, compT, wipeS, itMd, elSh, D.isN, oIsN, oNotN, Md.okB, Md.okBs, lim1, lim2, lim3, lim4, lim0', l__law_has_1, mgT, mgCons, mgNil, parts, dO, hx, hy, ew, hi', oNe_int, hj]) ⟨x, y, hx, hy, rfl⟩
  refine ⟨fun h => ?_, main.2⟩
  obtain ⟨s', e1, x', y', hx', hy', rfl⟩ := main.1 h
  exact ⟨x', y', hx', hy', e1⟩
theorem rows_cells {k : List (List Int)} {w : Nat} {C : Cs} {R S : List Int} (hk : Tb k w) (v : Vw C R S) (h1 : k.length = C.length) (h2 : w = S.length) : ((k.zip C).all fun q => decide (q.1.length = q.2.length) && rowsOk q.1 q.2) = cellsOk k w C := by
  apply Bool.eq_iff_iff.mpr
  rw [zip_all (da := []) (db := []) h1]
  have a1 : ∀ i, i < k.length → (k.getD i []).length = w := fun i hi => hk.row _ (getD_row hi)
  have a2 : ∀ i, i < k.length → (C.getD i []).length = S.length := by
    intro i hi
    have : i < C.length := by omega
    exact v.row _ (by simp [List.getD, this])
  simp only [Bool.and_eq_true, decide_eq_true_eq, cellsOk, List.all_eq_true]
  constructor
  · intro h p hp
    obtain ⟨p1, p2⟩ := plc_mem.mp hp
    have h3 := (h p.1 p1).2
    rw [rowsOk, zip_all (da := 0) (db := none) (by rw [a1 _ p1, a2 _ p1, h2])] at h3
    exact h3 p.2 (by rw [a1 _ p1]; exact p2)
  · intro h i hi
    refine ⟨by rw [a1 _ hi, a2 _ hi, h2], ?_⟩
    rw [rowsOk, zip_all (da := 0) (db := none) (by rw [a1 _ hi, a2 _ hi, h2])]
    intro j hj
    rw [a1 _ hi] at hj
    exact h (i, j) (plc_mem.mpr ⟨hi, hj⟩)
theorem law_has_ok {k : List (List Int)} {w2 : Nat} {C : Cs} {R S : List Int} (hk : Tb k w2) (v : Vw C R S) : m__law_has [dG k, dV C R S] = some (.ok (.bl (hasB k w2 C R S), .sh)) := by
  have lg := fun m => oLen_G (r := k) (m := m)
  have lc := fun m => oLen_C (cs := C) (m := m)
  have v0 := fun n => oIx_V0 (cs := C) (R := R) (S := S) (n := n)
  have v1 := fun n => oIx_V1 (cs := C) (R := R) (S := S) (n := n)
  have v2 := fun n => oIx_V2 (cs := C) (R := R) (S := S) (n := n)
  have ecs := law_column_sums_ok hk
  have tyG : (dG k).tyN = some "list" := rfl
  have hkl : k.length ≤ lim := le_lim (by have := hk.h8; omega)
  by_cases h1 : k.length = C.length
  · have h1' : (k.length : Int) = (C.length : Int) := by omega
    have main := forL_allM (f := fun q : List Int × List (Option Int) => D.tup [dI q.1, dR q.2]) (mg := mgT 2 (mgCons (mgN 2) (mgCons (mgN 3) mgNil))) (body := l__law_has_2) (r := (.bl false, .sh)) (xs := k.zip C) (ss := [some (dG k, .sh), some (dV C R S, .sh), none, none, none, none])
      (fun s => ∃ x y z u : Ent, Ent.nb x = true ∧ Ent.nb y = true ∧ Ent.nb z = true ∧ Ent.nb u = true ∧ s = [some (dG k, .sh), some (dV C R S, .sh), x, y, z, u])
      (fun q => decide (q.1.length = q.2.length) && rowsOk q.1 q.2)
      (fun q s hp ⟨x, y, z, u, hx, hy, hz, hu, hs⟩ => by
        obtain ⟨a, b⟩ := q
        subst hs
        have nn := hk.nn a (List.of_mem_zip hp).1
        dsimp only
        have la := fun m => oLen_I (r := a) (m := m)
        have lb := fun m => oLen_R (r := b) (m := m)
        have tyI : (dI a).tyN = some "list" := rfl
        have hr := has_row (G := dG k) (V := dV C R S) (b := b) nn hz hu
        have ez : iZ [(dI a, .sh), (dR b, .sh)] = some ((a.map .int).zipWith (fun d f => D.tup [d, f]) (b.map dO)) := rfl
        generalize (a.map D.int).zipWith (fun d f => D.tup [d, f]) (b.map dO) = Z at *
        by_cases hl : a.length = b.length
        · have hl' : (a.length : Int) = (b.length : Int) := by omega
          rw [decide_eq_true hl, Bool.true_and]
          refine ⟨fun h => ?_, fun h => ?_⟩
          · obtain ⟨x', y', hx', hy', e⟩ := hr.1 h
            refine ⟨[some (dG k, .sh), some (dV C R S, .sh), some (dI a, .sh), some (dR b, .sh), x', y'], ?_, ?_, some (dI a, .sh), some (dR b, .sh), x', y', rfl, rfl, hx', hy', rfl⟩
            · simp [mFn, mSeq, mSet, mRet, mDrop, mIf, mNext, mPass, sE, sT, putM, keepD, bnd, ret, lft, mC, mVar, mMov, mFrz, mSh, mOp2, mOp1, mOpN, mNil, mCons, mTst, mAnd, mOr, mNot, mAndV, mOrV, mNotV, mIfE, mYes_ap, mONo, mOSome, mCall, back, backO, backE, isSh, nbB_cons, nbB_nil, nb_none, nb_some, Md.nb, Md.nbs, Md.beq, Md.beqs, D.atm, D.atms, oI, oAdd, oSub, oMul, oDiv, oMod, oPow, oLt, oLe, oGt, oGe, oNeg, oIx, intOf, mChain, mLst, mTup, mgN, forT, compT, wipeS, itMd, elSh, D.isN, oIsN, oNotN, Md.okB, Md.okBs, lim1, lim2, lim3, lim4, lim0', l__law_has_2, mgT, mgCons, mgNil, parts, hx, hy, hz, hu, la, lb, oNe_int, hl', oIsi, tyI, kb_list_list, mFor, mItZ, ez, e]
            · simp [nbB_cons, nb_some, Md.nb, hx', hy', nbB_nil]
          · obtain ⟨s', e⟩ := hr.2 h
            refine ⟨s', ?_⟩
            simp [mFn, mSeq, mSet, mRet, mDrop, mIf, mNext, mPass, sE, sT, putM, keepD, bnd, ret, lft, mC, mVar, mMov, mFrz, mSh, mOp2, mOp1, mOpN, mNil, mCons, mTst, mAnd, mOr, mNot, mAndV, mOrV, mNotV, mIfE, mYes_ap, mONo, mOSome, mCall, back, backO, backE, isSh, nbB_cons, nbB_nil, nb_none, nb_some, Md.nb, Md.nbs, Md.beq, Md.beqs, D.atm, D.atms, oI, oAdd, oSub, oMul, oDiv, oMod, oPow, oLt, oLe, oGt, oGe, oNeg, oIx, intOf, mChain, mLst, mTup, mgN, forT, compT, wipeS, itMd, elSh, D.isN, oIsN, oNotN, Md.okB, Md.okBs, lim1, lim2, lim3, lim4, lim0', l__law_has_2, mgT, mgCons, mgNil, parts, hx, hy, hz, hu, la, lb, oNe_int, hl', oIsi, tyI, kb_list_list, mFor, mItZ, ez, e]
        · have hl' : ¬ (a.length : Int) = (b.length : Int) := by omega
          rw [decide_eq_false hl, Bool.false_and]
          refine ⟨(fun h => nomatch h), fun _ => ⟨[some (dG k, .sh), some (dV C R S, .sh), some (dI a, .sh), some (dR b, .sh), z, u], ?_⟩⟩
          simp [mFn, mSeq, mSet, mRet, mDrop, mIf, mNext, mPass, sE, sT, putM, keepD, bnd, ret, lft, mC, mVar, mMov, mFrz, mSh, mOp2, mOp1, mOpN, mNil, mCons, mTst, mAnd, mOr, mNot, mAndV, mOrV, mNotV, mIfE, mYes_ap, mONo, mOSome, mCall, back, backO, backE, isSh, nbB_cons, nbB_nil, nb_none, nb_some, Md.nb, Md.nbs, Md.beq, Md.beqs, D.atm, D.atms, oI, oAdd, oSub, oMul, oDiv, oMod, oPow, oLt, oLe, oGt, oGe, oNeg, oIx, intOf, mChain, mLst, mTup, mgN, forT, compT, wipeS, itMd, elSh, D.isN, oIsN, oNotN, Md.okB, Md.okBs, lim1, lim2, lim3, lim4, lim0', l__law_has_2, mgT, mgCons, mgNil, parts, hx, hy, hz, hu, la, lb, oNe_int, hl', oIsi, tyI, kb_list_list]) ⟨none, none, none, none, rfl, rfl, rfl, rfl, rfl⟩
    rw [← zip_map] at main
    have ez : iZ [(dG k, .sh), (dC C, .sh)] = some ((k.map dI).zipWith (fun d f => D.tup [d, f]) (C.map dR)) := rfl
    generalize (k.map dI).zipWith (fun d f => D.tup [d, f]) (C.map dR) = Z at *
    by_cases h2 : w2 = S.length
    · rw [rows_cells hk v h1 h2] at main
      cases hc : cellsOk k w2 C with
      | false =>
        have hb : hasB k w2 C R S = false := by simp [hasB, hc]
        rw [hb]
        obtain ⟨s', e6⟩ := main.2 hc
        simp [mFn, mSeq, mSet, mRet, mDrop, mIf, mNext, mPass, sE, sT, putM, keepD, bnd, ret, lft, mC, mVar, mMov, mFrz, mSh, mOp2, mOp1, mOpN, mNil, mCons, mTst, mAnd, mOr, mNot, mAndV, mOrV, mNotV, mIfE, mYes_ap, mONo, mOSome, mCall, back, backO, backE, isSh, nbB_cons, nbB_nil, nb_none, nb_some, Md.nb, Md.nbs, Md.beq, Md.beqs, D.atm, D.atms, oI, oAdd, oSub, oMul, oDiv, oMod, oPow, oLt, oLe, oGt, oGe, oNeg, intOf, mChain, mLst, mTup, mgN, forT, compT, wipeS, itMd, elSh, D.isN, oIsN, oNotN, Md.okB, Md.okBs, lim1, lim2, lim3, lim4, lim0', m__law_has, b__law_has, lg, v0, lc, oNe_int, h1', oIsi, tyG, kb_list_list, mFor, mItZ, ez, e6]
      | true =>
        have hb : hasB k w2 C R S = (decide (k.map List.sum = R) && decide (colS k w2 = S)) := by
          unfold hasB
          rw [hc, decide_eq_true h1, decide_eq_true h2]
          simp
        rw [hb]
        obtain ⟨s', e6, x, y, z, u, hx, hy, hz, hu, rfl⟩ := main.1 hc
        have q1 := fun m n => oEq_dI (i := k.map List.sum) (j := R) (m := m) (n := n)
        have q2 := fun m n => oEq_dI (i := colS k w2) (j := S) (m := m) (n := n)
        have last : compL .sh [2] (mgN 2) mYes e__law_has_1 (k.map dI) [] [some (dG k, .sh), some (dV C R S, .sh), none, y, z, u] = some ([] ++ k.map (fun r => D.int r.sum), [some (dG k, .sh), some (dV C R S, .sh), none, y, z, u]) := compL_over fun r hr => by
          simp [mFn, mSeq, mSet, mRet, mDrop, mIf, mNext, mPass, sE, sT, putM, keepD, bnd, ret, lft, mC, mVar, mMov, mFrz, mSh, mOp2, mOp1, mOpN, mNil, mCons, mTst, mAnd, mOr, mNot, mAndV, mOrV, mNotV, mIfE, mYes_ap, mONo, mOSome, mCall, back, backO, backE, isSh, nbB_cons, nbB_nil, nb_none, nb_some, Md.nb, Md.nbs, Md.beq, Md.beqs, D.atm, D.atms, oI, oAdd, oSub, oMul, oDiv, oMod, oPow, oLt, oLe, oGt, oGe, oNeg, oIx, oLen, intOf, mChain, mLst, mTup, mgN, forT, compT, wipeS, itMd, elSh, D.isN, oIsN, oNotN, Md.okB, Md.okBs, lim1, lim2, lim3, lim4, lim0', e__law_has_1, dI, oSum, intsOf_map, hy, hz, hu]
        have hgm : k.map (fun r => D.int r.sum) = (k.map List.sum).map D.int := by simp
        rw [hgm] at last
        have itg : ∀ s : SS, s[0]? = some (some (dG k, .sh)) → mItL (mVar 0) s = some (.ok (k.map dI), s) := fun s hs => by
          simp [mFn, mSeq, mSet, mRet, mDrop, mIf, mNext, mPass, sE, sT, putM, keepD, bnd, ret, lft, mC, mVar, mMov, mFrz, mSh, mOp2, mOp1, mOpN, mNil, mCons, mTst, mAnd, mOr, mNot, mAndV, mOrV, mNotV, mIfE, mYes_ap, mONo, mOSome, mCall, back, backO, backE, isSh, nbB_cons, nbB_nil, nb_none, nb_some, Md.nb, Md.nbs, Md.beq, Md.beqs, D.atm, D.atms, oI, oAdd, oSub, oMul, oDiv, oMod, oPow, oLt, oLe, oGt, oGe, oNeg, oIx, oLen, intOf, mChain, mLst, mTup, mgN, forT, compT, wipeS, itMd, elSh, D.isN, oIsN, oNotN, Md.okB, Md.okBs, lim1, lim2, lim3, lim4, lim0', mItL, hs, dG]
        have it2 := itg [some (dG k, .sh), some (dV C R S, .sh), x, y, z, u] rfl
        generalize k.map List.sum = R2 at *
        generalize colS k w2 = S2 at *
        have q1' : ∀ m n, oEq (.lst (R2.map D.int), m) (dI R, n) = some (.bl (decide (R2 = R)), .sh) := q1
        by_cases hR : R2 = R
        · subst hR
          simp [mFn, mSeq, mSet, mRet, mDrop, mIf, mNext, mPass, sE, sT, putM, keepD, bnd, ret, lft, mC, mVar, mMov, mFrz, mSh, mOp2, mOp1, mOpN, mNil, mCons, mTst, mAnd, mOr, mNot, mAndV, mOrV, mNotV, mIfE, mYes_ap, mONo, mOSome, mCall, back, backO, backE, isSh, nbB_cons, nbB_nil, nb_none, nb_some, Md.nb, Md.nbs, Md.beq, Md.beqs, D.atm, D.atms, oI, oAdd, oSub, oMul, oDiv, oMod, oPow, oLt, oLe, oGt, oGe, oNeg, intOf, mChain, mLst, mTup, mgN, forT, compT, wipeS, itMd, elSh, D.isN, oIsN, oNotN, Md.okB, Md.okBs, lim1, lim2, lim3, lim4, lim0', m__law_has, b__law_has, lg, v0, v1, v2, lc, oNe_int, h1', oIsi, tyG, kb_list_list, mFor, mItZ, ez, e6, mComp, it2, hkl, last, q1', q2, ecs, hx, hy, hz, hu]
        · simp [mFn, mSeq, mSet, mRet, mDrop, mIf, mNext, mPass, sE, sT, putM, keepD, bnd, ret, lft, mC, mVar, mMov, mFrz, mSh, mOp2, mOp1, mOpN, mNil, mCons, mTst, mAnd, mOr, mNot, mAndV, mOrV, mNotV, mIfE, mYes_ap, mONo, mOSome, mCall, back, backO, backE, isSh, nbB_cons, nbB_nil, nb_none, nb_some, Md.nb, Md.nbs, Md.beq, Md.beqs, D.atm, D.atms, oI, oAdd, oSub, oMul, oDiv, oMod, oPow, oLt, oLe, oGt, oGe, oNeg, intOf, mChain, mLst, mTup, mgN, forT, compT, wipeS, itMd, elSh, D.isN, oIsN, oNotN, Md.okB, Md.okBs, lim1, lim2, lim3, lim4, lim0', m__law_has, b__law_has, lg, v0, v1, v2, lc, oNe_int, h1', oIsi, tyG, kb_list_list, mFor, mItZ, ez, e6, mComp, it2, hkl, last, q1', q2, ecs, hx, hy, hz, hu, hR]
    · have hb : hasB k w2 C R S = false := by simp [hasB, h2]
      rw [hb]
      have hf : ((k.zip C).all fun q => decide (q.1.length = q.2.length) && rowsOk q.1 q.2) = false := by
        apply Bool.eq_false_iff.mpr
        intro h
        rw [zip_all (da := []) (db := []) h1] at h
        have := h 0 hk.h1
        simp only [Bool.and_eq_true, decide_eq_true_eq] at this
        have b1 := hk.row _ (getD_row (g := k) (r := 0) hk.h1)
        have b2 := v.row (C.getD 0 []) (by have := v.h1; simp [List.getD, show 0 < C.length from this])
        omega
      obtain ⟨s', e6⟩ := main.2 hf
      simp [mFn, mSeq, mSet, mRet, mDrop, mIf, mNext, mPass, sE, sT, putM, keepD, bnd, ret, lft, mC, mVar, mMov, mFrz, mSh, mOp2, mOp1, mOpN, mNil, mCons, mTst, mAnd, mOr, mNot, mAndV, mOrV, mNotV, mIfE, mYes_ap, mONo, mOSome, mCall, back, backO, backE, isSh, nbB_cons, nbB_nil, nb_none, nb_some, Md.nb, Md.nbs, Md.beq, Md.beqs, D.atm, D.atms, oI, oAdd, oSub, oMul, oDiv, oMod, oPow, oLt, oLe, oGt, oGe, oNeg, intOf, mChain, mLst, mTup, mgN, forT, compT, wipeS, itMd, elSh, D.isN, oIsN, oNotN, Md.okB, Md.okBs, lim1, lim2, lim3, lim4, lim0', m__law_has, b__law_has, lg, v0, lc, oNe_int, h1', oIsi, tyG, kb_list_list, mFor, mItZ, ez, e6]
  · have h1' : ¬ (k.length : Int) = (C.length : Int) := by omega
    have hb : hasB k w2 C R S = false := by simp [hasB, h1]
    rw [hb]
    simp [mFn, mSeq, mSet, mRet, mDrop, mIf, mNext, mPass, sE, sT, putM, keepD, bnd, ret, lft, mC, mVar, mMov, mFrz, mSh, mOp2, mOp1, mOpN, mNil, mCons, mTst, mAnd, mOr, mNot, mAndV, mOrV, mNotV, mIfE, mYes_ap, mONo, mOSome, mCall, back, backO, backE, isSh, nbB_cons, nbB_nil, nb_none, nb_some, Md.nb, Md.nbs, Md.beq, Md.beqs, D.atm, D.atms, oI, oAdd, oSub, oMul, oDiv, oMod, oPow, oLt, oLe, oGt, oGe, oNeg, intOf, mChain, mLst, mTup, mgN, forT, compT, wipeS, itMd, elSh, D.isN, oIsN, oNotN, Md.okB, Md.okBs, lim1, lim2, lim3, lim4, lim0', m__law_has, b__law_has, lg, v0, lc, oNe_int, h1', oIsi, tyG, kb_list_list]
end Ve

set_option Elab.async false
set_option linter.all false
set_option maxRecDepth 100000
set_option maxHeartbeats 2000000
namespace Ve
open PySem L2
theorem sum_nn : ∀ {l : List Int}, (∀ x ∈ l, 0 ≤ x) → 0 ≤ l.sum
  | [], _ => by simp
  | x :: l, h => by
    have h1 := h x List.mem_cons_self
    have h2 := sum_nn (l := l) fun y hy => h y (List.mem_cons_of_mem _ hy)
    simp only [List.sum_cons]; omega
theorem sum_sub {α : Type} {f g : α → Int} : ∀ l : List α, (l.map f).sum - (l.map g).sum = (l.map fun x => f x - g x).sum
  | [] => by simp
  | x :: l => by
    have := sum_sub (f := f) (g := g) l
    simp only [List.map_cons, List.sum_cons]; omega
theorem sum_add {α : Type} {f g : α → Int} : ∀ l : List α, (l.map f).sum + (l.map g).sum = (l.map fun x => f x + g x).sum
  | [] => by simp
  | x :: l => by
    have := sum_add (f := f) (g := g) l
    simp only [List.map_cons, List.sum_cons]; omega
theorem sum_zero {α : Type} : ∀ l : List α, (l.map fun _ => (0 : Int)).sum = 0
  | [] => rfl
  | x :: l => by simp only [List.map_cons, List.sum_cons, sum_zero l]; rfl
/-- rows first or columns first -/
theorem sum_swap {α β : Type} {f : α → β → Int} (ys : List β) : ∀ xs : List α, (xs.map fun x => (ys.map fun y => f x y).sum).sum = (ys.map fun y => (xs.map fun x => f x y).sum).sum
  | [] => by simp [sum_zero]
  | x :: xs => by
    simp only [List.map_cons, List.sum_cons]
    rw [sum_swap ys xs, sum_add]
theorem shS_map {α : Type} {f : α → Option Int} : ∀ l : List α, shS (l.map f) = (l.map fun c => (f c).getD 0).sum
  | [] => rfl
  | x :: l => by
    have ih := shS_map (f := f) l
    unfold shS at ih ⊢
    simp at ih
    cases hx : f x with
    | none => simp [hx, ih]
    | some i => simp [hx, ih]
theorem list_range {l : List Int} {w : Nat} (h : l.length = w) : l = (List.range w).map fun c => l.getD c 0 := by
  apply List.ext_getElem
  · simp [h]
  · intro i h1 h2
    simp [List.getD, h1]
def hid (g : List (List Int)) (ps : List Pl) (r c : Nat) : Int := if (r, c) ∈ ps then cell g r c else 0
theorem cellsT_len {g : List (List Int)} {w : Nat} {ps : List Pl} : (cellsT g w ps).length = g.length := by simp [cellsT]
theorem colS_len {g : List (List Int)} {w : Nat} : (colS g w).length = w := by simp [colS]
theorem cell_nn2 {g : List (List Int)} {w r c : Nat} (h : Tb g w) (hr : r < g.length) : 0 ≤ cell g r c := cell_nn h hr
theorem vw_T {g : List (List Int)} {w : Nat} {ps : List Pl} (h : Tb g w) : Vw (cellsT g w ps) (g.map List.sum) (colS g w) where
  h1 := by rw [cellsT_len]; exact h.h1
  h8 := by rw [cellsT_len]; exact h.h8
  w1 := by rw [colS_len]; exact h.w1
  w8 := by rw [colS_len]; exact h.w8
  row := fun r hr => by
    obtain ⟨i, _, rfl⟩ := List.mem_map.mp hr
    rw [colS_len]; simp
  nn := fun r hr i hi => by
    obtain ⟨j, hj, rfl⟩ := List.mem_map.mp hr
    obtain ⟨c, hc, e⟩ := List.mem_map.mp hi
    split at e
    · cases e
    · cases e
      exact cell_nn h (by simpa using hj)
  rl := by simp [cellsT]
  rn := fun x hx => by
    obtain ⟨r, hr, rfl⟩ := List.mem_map.mp hx
    exact sum_nn fun y hy => h.nn r hr y hy
  sn := fun x hx => by
    obtain ⟨c, hc, rfl⟩ := List.mem_map.mp hx
    refine sum_nn fun y hy => ?_
    obtain ⟨r, hr, rfl⟩ := List.mem_map.mp hy
    exact getD_in (P := fun x => 0 ≤ x) (h.nn r hr) (Int.le_refl _)
theorem left_T {g : List (List Int)} {w : Nat} {ps : List Pl} (h : Tb g w) : leftV (g.map List.sum) (cellsT g w ps) = (List.range g.length).map fun r => ((List.range w).map fun c => hid g ps r c).sum := by
  apply List.ext_getElem
  · simp [leftV, cellsT]
  · intro i h1 h2
    have hi : i < g.length := by simpa using h2
    have hrow : (g[i]).length = w := h.row _ (List.getElem_mem _)
    simp only [leftV, cellsT, List.getElem_map, List.getElem_zip, List.getElem_range]
    rw [shS_map]
    have e1 : g[i].sum = ((List.range w).map fun c => cell g i c).sum := by
      have hc : ∀ c, g[i].getD c 0 = cell g i c := fun c => by simp [cell, List.getD, hi]
      rw [list_range hrow]
      simp only [hc]
    rw [e1, sum_sub]
    congr 1
    apply List.map_congr_left
    intro c _
    unfold hid
    by_cases hp : (i, c) ∈ ps
    · simp [hp]
    · simp [hp]
theorem below_T {g : List (List Int)} {w : Nat} {ps : List Pl} (h : Tb g w) : belowV (cellsT g w ps) (colS g w) = (List.range w).map fun c => ((List.range g.length).map fun r => hid g ps r c).sum := by
  unfold belowV
  rw [colS_len]
  apply List.map_congr_left
  intro c hc
  have hc : c < w := by simpa using hc
  rw [colS_get hc]
  have e1 : colC (cellsT g w ps) c = (List.range g.length).map fun r => if (r, c) ∈ ps then none else some (cell g r c) := by
    simp only [colC, cellsT, List.map_map]
    apply List.map_congr_left
    intro r _
    simp [hc]
  rw [e1, shS_map]
  have e2 : (g.map fun r => r.getD c 0) = (List.range g.length).map fun r => cell g r c := by
    apply List.ext_getElem
    · simp
    · intro i h1 h2
      have hi : i < g.length := by simpa using h1
      simp [cell, List.getD, hi]
  rw [e2, sum_sub]
  congr 1
  apply List.map_congr_left
  intro r _
  unfold hid
  by_cases hp : (r, c) ∈ ps
  · simp [hp]
  · simp [hp]
theorem hid_nn {g : List (List Int)} {w r c : Nat} {ps : List Pl} (h : Tb g w) (hr : r < g.length) : 0 ≤ hid g ps r c := by
  unfold hid
  split
  · exact cell_nn h hr
  · exact Int.le_refl _
theorem viewOk_T {g : List (List Int)} {w : Nat} {ps : List Pl} (h : Tb g w) : viewOk (cellsT g w ps) (g.map List.sum) (colS g w) = true := by
  unfold viewOk
  rw [left_T h, below_T h, Bool.and_eq_true, decide_eq_true_eq, decide_eq_true_eq]
  refine ⟨fun x hx => ?_, sum_swap _ _⟩
  rcases List.mem_append.mp hx with hx | hx
  · obtain ⟨r, hr, rfl⟩ := List.mem_map.mp hx
    refine sum_nn fun y hy => ?_
    obtain ⟨c, _, rfl⟩ := List.mem_map.mp hy
    exact hid_nn h (by simpa using hr)
  · obtain ⟨c, hc, rfl⟩ := List.mem_map.mp hx
    refine sum_nn fun y hy => ?_
    obtain ⟨r, hr, rfl⟩ := List.mem_map.mp hy
    exact hid_nn h (by simpa using hr)
end Ve

set_option Elab.async false
set_option linter.all false
set_option maxRecDepth 100000
set_option maxHeartbeats 4000000
namespace Ve
open PySem L2 L2H
/-! ## what is a view -/
def isCnt (d : D) : Bool := d.isN || isNum d
def cellsB : D → Bool
  | .lst rows => rows.all fun r => match r with
    | .lst cs => cs.all isCnt
    | _ => false
  | _ => false
def isSums (d : D) (n : Nat) : Bool := match d with
  | .lst xs => decide (xs.length = n) && xs.all isNum
  | _ => false
def head0 : D → D
  | .lst (r :: _) => r
  | _ => .non
def decO : D → Option Int
  | .int i => some i
  | _ => none
def decR : D → List (Option Int)
  | .lst cs => cs.map decO
  | _ => []
def decC : D → Cs
  | .lst rows => rows.map decR
  | _ => []
def decN : D → Int
  | .int i => i
  | _ => 0
def decI : D → List Int
  | .lst xs => xs.map decN
  | _ => []
def isView : D → Bool
  | .tup [p0, p1, p2] => isGrid p0 && (cellsB p0 && (isSums p1 (lenD p0) && (isSums p2 (lenD (head0 p0)) && viewOk (decC p0) (decI p1) (decI p2))))
  | _ => false
theorem dec_cnt {d : D} (h : isCnt d = true) : d = dO (decO d) ∧ ∀ i, decO d = some i → 0 ≤ i := by
  cases d <;> simp [isCnt, D.isN, isNum] at h <;> simp [decO, dO]
  exact h
theorem dec_num {d : D} (h : isNum d = true) : d = .int (decN d) ∧ 0 ≤ decN d := by
  cases d <;> simp [isNum] at h
  exact ⟨rfl, h⟩
theorem dec_sums {d : D} {n : Nat} (h : isSums d n = true) : d = dI (decI d) ∧ (decI d).length = n ∧ ∀ x ∈ decI d, 0 ≤ x := by
  cases d <;> simp [isSums] at h
  rename_i xs
  refine ⟨?_, by simpa [decI] using h.1, fun x hx => ?_⟩
  · simp only [dI, decI, List.map_map]
    congr 1
    conv => lhs; rw [← List.map_id xs]
    exact List.map_congr_left fun x hx => (dec_num (h.2 x hx)).1
  · obtain ⟨y, hy, rfl⟩ := List.mem_map.mp hx
    exact (dec_num (h.2 y hy)).2
theorem dec_cells {d : D} (hg : isGrid d = true) (hc : cellsB d = true) : d = dC (decC d) ∧ (decC d).length = lenD d ∧ 1 ≤ lenD d ∧ lenD d ≤ 8 ∧ 1 ≤ lenD (head0 d) ∧ lenD (head0 d) ≤ 8 ∧ (∀ r ∈ decC d, r.length = lenD (head0 d)) ∧ ∀ r ∈ decC d, ∀ i, some i ∈ r → (0 : Int) ≤ i := by
  cases d <;> try (simp [isGrid] at hg; done)
  rename_i rows
  cases rows with
  | nil => simp [isGrid] at hg
  | cons r0 rest =>
    simp only [isGrid, Bool.and_eq_true, decide_eq_true_eq, List.all_eq_true] at hg
    simp only [cellsB, List.all_eq_true] at hc
    have row : ∀ r ∈ r0 :: rest, ∃ cs, r = .lst cs ∧ cs.length = lenD r0 ∧ 1 ≤ cs.length ∧ cs.length ≤ 8 ∧ (∀ c ∈ cs, isCnt c = true) ∧ r = dR (decR r) := fun r hr => by
      have h1 := hg.2 r hr
      have h2 := hc r hr
      cases r <;> simp [rowOk] at h1
      rename_i cs
      simp only [List.all_eq_true] at h2
      refine ⟨cs, rfl, h1.2, h1.1.1, h1.1.2, h2, ?_⟩
      simp only [dR, decR, List.map_map]
      congr 1
      conv => lhs; rw [← List.map_id cs]
      exact List.map_congr_left fun x hx => (dec_cnt (h2 x hx)).1
    obtain ⟨c0, e0, l0, l1, l8, _, _⟩ := row r0 List.mem_cons_self
    refine ⟨?_, by simp [decC, lenD], by simp [lenD], by simpa [lenD] using hg.1, ?_, ?_, fun r hr => ?_, fun r hr i hi => ?_⟩
    · simp only [dC, decC, List.map_map]
      congr 1
      conv => lhs; rw [← List.map_id (r0 :: rest)]
      exact List.map_congr_left fun r hr => by obtain ⟨_, _, _, _, _, _, e⟩ := row r hr; exact e
    · show 1 ≤ lenD r0
      omega
    · show lenD r0 ≤ 8
      omega
    · obtain ⟨y, hy, rfl⟩ := List.mem_map.mp hr
      obtain ⟨cs, rfl, e, _⟩ := row y hy
      show (cs.map decO).length = lenD r0
      rw [List.length_map]; exact e
    · obtain ⟨y, hy, rfl⟩ := List.mem_map.mp hr
      obtain ⟨cs, rfl, _, _, _, hcnt, _⟩ := row y hy
      simp only [decR, List.mem_map] at hi
      obtain ⟨c, hc', ec⟩ := hi
      exact (dec_cnt (hcnt c hc')).2 i ec
/-- a view by its look -/
theorem dec_view {p0 p1 p2 : D} (h0 : isGrid p0 = true) (h1 : cellsB p0 = true) (h2 : isSums p1 (lenD p0) = true) (h3 : isSums p2 (lenD (head0 p0)) = true) : D.tup [p0, p1, p2] = dV (decC p0) (decI p1) (decI p2) ∧ Vw (decC p0) (decI p1) (decI p2) := by
  obtain ⟨a1, a2, a3, a4, a5, a6, a7, a8⟩ := dec_cells h0 h1
  obtain ⟨b1, b2, b3⟩ := dec_sums h2
  obtain ⟨c1, c2, c3⟩ := dec_sums h3
  refine ⟨?_, ⟨by omega, by omega, by omega, by omega, fun r hr => by rw [a7 r hr, c2], a8, by omega, b3, c3⟩⟩
  unfold dV
  rw [← a1, ← b1, ← c1]
/-- things that may be handed in as a view -/
def kindlyV (d : D) : Prop := d.tyN.isSome = true ∧ ∀ ps, d = .tup ps → ∀ p ∈ ps, kindly p
theorem kindly_lst {p : D} (h : kindly p) {xs : List D} (e : p = .lst xs) : ∀ x ∈ xs, x.tyN.isSome = true := fun x hx => (h.2 xs e x hx).1
theorem sums_ok {p : D} {n : Nat} (h : kindly p) (hl : n ≤ 1000) : m_are_sums [p, .int (n : Int)] = some (.ok (.bl (isSums p n), .sh)) := by
  by_cases hp : ∃ xs, p = .lst xs
  · obtain ⟨xs, rfl⟩ := hp
    have hx := kindly_lst h rfl
    have inner : compL .sh [2] (mgN 2) mYes e_are_sums_1 xs [] [some (.lst xs, .sh), some (.int (n : Int), .sh), none] = some ([] ++ xs.map (fun x => D.bl (isNum x)), [some (.lst xs, .sh), some (.int (n : Int), .sh), none]) := compL_map fun x hxx => by
      have e := is_number_ok (hx x hxx)
      simp [mFn, mSeq, mSet, mRet, mDrop, mIf, mNext, mPass, sE, sT, putM, keepD, bnd, ret, lft, mC, mVar, mMov, mFrz, mSh, mOp2, mOp1, mOpN, mNil, mCons, mTst, mAnd, mOr, mNot, mAndV, mOrV, mNotV, mIfE, mYes_ap, mONo, mOSome, mCall, back, backO, backE, isSh, nbB_cons, nbB_nil, nb_none, nb_some, Md.nb, Md.nbs, Md.beq, Md.beqs, D.atm, D.atms, oI, oAdd, oSub, oMul, oDiv, oMod, oPow, oLt, oLe, oGt, oGe, oNeg, oIx, oLen, intOf, mChain, mLst, mTup, mgN, forT, compT, wipeS, itMd, elSh, D.isN, oIsN, oNotN, Md.okB, Md.okBs, lim1, lim2, lim3, lim4, lim0', e_are_sums_1, e]
    have ha := fun m => all_fun (p := isNum) (xs := xs) (m := m)
    by_cases hn : xs.length = n
    · subst hn
      have hl2 : xs.length ≤ lim := le_lim hl
      simp [mFn, mSeq, mSet, mRet, mDrop, mIf, mNext, mPass, sE, sT, putM, keepD, bnd, ret, lft, mC, mVar, mMov, mFrz, mSh, mOp2, mOp1, mOpN, mNil, mCons, mTst, mAnd, mOr, mNot, mAndV, mOrV, mNotV, mIfE, mYes_ap, mONo, mOSome, mCall, back, backO, backE, isSh, nbB_cons, nbB_nil, nb_none, nb_some, Md.nb, Md.nbs, Md.beq, Md.beqs, D.atm, D.atms, oI, oAdd, oSub, oMul, oDiv, oMod, oPow, oLt, oLe, oGt, oGe, oNeg, oIx, oLen, intOf, mChain, mLst, mTup, mgN, forT, compT, wipeS, itMd, elSh, D.isN, oIsN, oNotN, Md.okB, Md.okBs, lim1, lim2, lim3, lim4, lim0', m_are_sums, b_are_sums, oIsi, D.tyN, kb_list_list, oEq_int, mComp, mItL, inner, ha, hl2, isSums]
    · have hn2 : ¬ (xs.length : Int) = (n : Int) := by omega
      simp [mFn, mSeq, mSet, mRet, mDrop, mIf, mNext, mPass, sE, sT, putM, keepD, bnd, ret, lft, mC, mVar, mMov, mFrz, mSh, mOp2, mOp1, mOpN, mNil, mCons, mTst, mAnd, mOr, mNot, mAndV, mOrV, mNotV, mIfE, mYes_ap, mONo, mOSome, mCall, back, backO, backE, isSh, nbB_cons, nbB_nil, nb_none, nb_some, Md.nb, Md.nbs, Md.beq, Md.beqs, D.atm, D.atms, oI, oAdd, oSub, oMul, oDiv, oMod, oPow, oLt, oLe, oGt, oGe, oNeg, oIx, oLen, intOf, mChain, mLst, mTup, mgN, forT, compT, wipeS, itMd, elSh, D.isN, oIsN, oNotN, Md.okB, Md.okBs, lim1, lim2, lim3, lim4, lim0', m_are_sums, b_are_sums, oIsi, D.tyN, kb_list_list, oEq_int, hn, hn2, isSums]
  · have hk : ∃ m, p.tyN = some m ∧ kitB m "list" = some false := by
      have := h.1
      cases p with
      | lst cs => exact absurd ⟨cs, rfl⟩ hp
      | _ => first | (simp [D.tyN] at this; done) | exact ⟨_, rfl, by first | exact kb_NoneType_list | exact kb_bool_list | exact kb_int_list | exact kb_str_list | exact kb_tuple_list | exact kb_dict_list⟩
    obtain ⟨m, hm, hk⟩ := hk
    have er : isSums p n = false := by
      cases p with
      | lst cs => exact absurd ⟨cs, rfl⟩ hp
      | _ => rfl
    rw [er]
    simp [mFn, mSeq, mSet, mRet, mDrop, mIf, mNext, mPass, sE, sT, putM, keepD, bnd, ret, lft, mC, mVar, mMov, mFrz, mSh, mOp2, mOp1, mOpN, mNil, mCons, mTst, mAnd, mOr, mNot, mAndV, mOrV, mNotV, mIfE, mYes_ap, mONo, mOSome, mCall, back, backO, backE, isSh, nbB_cons, nbB_nil, nb_none, nb_some, Md.nb, Md.nbs, Md.beq, Md.beqs, D.atm, D.atms, oI, oAdd, oSub, oMul, oDiv, oMod, oPow, oLt, oLe, oGt, oGe, oNeg, oIx, oLen, intOf, mChain, mLst, mTup, mgN, forT, compT, wipeS, itMd, elSh, D.isN, oIsN, oNotN, Md.okB, Md.okBs, lim1, lim2, lim3, lim4, lim0', m_are_sums, b_are_sums, oIsi, hm, hk]
theorem isv1_ok {V x y : D} {c : D} {a b e3 : Ent} (h : c.tyN.isSome = true) : True := trivial
theorem cnt_all {V r : D} {cs : List D} (hc : ∀ c ∈ cs, c.tyN.isSome = true) : compL .sh [4] (mgN 4) mYes e_is_view_1 cs [] [some (V, .sh), none, none, some (r, .sh), none] = some ([] ++ cs.map (fun c => D.bl (isCnt c)), [some (V, .sh), none, none, some (r, .sh), none]) := compL_map fun c hcc => by
  have e := is_number_ok (hc c hcc)
  cases hn : c.isN with
  | true =>
    have : isCnt c = true := by simp [isCnt, hn]
    simp [mFn, mSeq, mSet, mRet, mDrop, mIf, mNext, mPass, sE, sT, putM, keepD, bnd, ret, lft, mC, mVar, mMov, mFrz, mSh, mOp2, mOp1, mOpN, mNil, mCons, mTst, mAnd, mOr, mNot, mAndV, mOrV, mNotV, mIfE, mYes_ap, mONo, mOSome, mCall, back, backO, backE, isSh, nbB_cons, nbB_nil, nb_none, nb_some, Md.nb, Md.nbs, Md.beq, Md.beqs, D.atm, D.atms, oI, oAdd, oSub, oMul, oDiv, oMod, oPow, oLt, oLe, oGt, oGe, oNeg, oIx, oLen, intOf, mChain, mLst, mTup, mgN, forT, compT, wipeS, itMd, elSh, oIsN, oNotN, Md.okB, Md.okBs, lim1, lim2, lim3, lim4, lim0', e_is_view_1, hn, this]
  | false =>
    have : isCnt c = isNum c := by simp [isCnt, hn]
    simp [mFn, mSeq, mSet, mRet, mDrop, mIf, mNext, mPass, sE, sT, putM, keepD, bnd, ret, lft, mC, mVar, mMov, mFrz, mSh, mOp2, mOp1, mOpN, mNil, mCons, mTst, mAnd, mOr, mNot, mAndV, mOrV, mNotV, mIfE, mYes_ap, mONo, mOSome, mCall, back, backO, backE, isSh, nbB_cons, nbB_nil, nb_none, nb_some, Md.nb, Md.nbs, Md.beq, Md.beqs, D.atm, D.atms, oI, oAdd, oSub, oMul, oDiv, oMod, oPow, oLt, oLe, oGt, oGe, oNeg, oIx, oLen, intOf, mChain, mLst, mTup, mgN, forT, compT, wipeS, itMd, elSh, oIsN, oNotN, Md.okB, Md.okBs, lim1, lim2, lim3, lim4, lim0', e_is_view_1, hn, this, e]
theorem ix_tup {ps : List D} {i : Nat} {p : D} {n : Md} (h : ps[i]? = some p) : oIx (.tup ps, .sh) (.int (i : Int), n) = some (p, .sh) := by
  simp only [oIx]
  rw [atI_nat' (by omega)]
  simp [h, itMd, isSh]
theorem ix_lst {ps : List D} {i : Nat} {p : D} {n : Md} (h : ps[i]? = some p) : oIx (.lst ps, .sh) (.int (i : Int), n) = some (p, .sh) := by
  simp only [oIx]
  rw [atI_nat' (by omega)]
  simp [h, itMd, isSh]
theorem is_view_gen {d : D} (h : kindlyV d) : m_is_view [d] = some (.ok (.bl (isView d), .sh)) := by
  by_cases ht : ∃ ps, d = .tup ps
  · obtain ⟨ps, rfl⟩ := ht
    have hk := h.2 ps rfl
    have tyT : (D.tup ps).tyN = some "tuple" := rfl
    by_cases h3 : ps.length = 3
    · obtain ⟨p0, p1, p2, rfl⟩ : ∃ p0 p1 p2, ps = [p0, p1, p2] := by
        match ps, h3 with
        | [a, b, c], _ => exact ⟨a, b, c, rfl⟩
      have k0 := hk p0 (by simp)
      have k1 := hk p1 (by simp)
      have k2 := hk p2 (by simp)
      have e0 := is_grid_ok (d := p0) k0.1 fun ds e r hr => (k0.2 ds e r hr).1
      have v0 : ∀ n, oIx (.tup [p0, p1, p2], .sh) (.int 0, n) = some (p0, .sh) := fun n => ix_tup (i := 0) rfl
      have v1 : ∀ n, oIx (.tup [p0, p1, p2], .sh) (.int 1, n) = some (p1, .sh) := fun n => ix_tup (i := 1) rfl
      have v2 : ∀ n, oIx (.tup [p0, p1, p2], .sh) (.int 2, n) = some (p2, .sh) := fun n => ix_tup (i := 2) rfl
      have lT : ∀ m, oLen [(D.tup [p0, p1, p2], m)] = some (.int 3, .sh) := fun m => by simp [oLen]
      have hv : isView (.tup [p0, p1, p2]) = (isGrid p0 && (cellsB p0 && (isSums p1 (lenD p0) && (isSums p2 (lenD (head0 p0)) && viewOk (decC p0) (decI p1) (decI p2))))) := rfl
      cases hg : isGrid p0 with
      | false =>
        rw [hv, hg, Bool.false_and]
        rw [hg] at e0
        generalize D.tup [p0, p1, p2] = V at *
        simp [mFn, mSeq, mSet, mRet, mDrop, mIf, mNext, mPass, sE, sT, putM, keepD, bnd, ret, lft, mC, mVar, mMov, mFrz, mSh, mOp2, mOp1, mOpN, mNil, mCons, mTst, mAnd, mOr, mNot, mAndV, mOrV, mNotV, mIfE, mYes_ap, mONo, mOSome, mCall, back, backO, backE, isSh, nbB_cons, nbB_nil, nb_none, nb_some, Md.nb, Md.nbs, Md.beq, Md.beqs, D.atm, D.atms, oI, oAdd, oSub, oMul, oDiv, oMod, oPow, oLt, oLe, oGt, oGe, oNeg, intOf, mChain, mLst, mTup, mgN, forT, compT, wipeS, itMd, elSh, D.isN, oIsN, oNotN, Md.okB, Md.okBs, lim1, lim2, lim3, lim4, lim0', m_is_view, b_is_view, oIsi, tyT, kb_tuple_tuple, lT, oNe_int, v0, e0]
      | true =>
        rw [hg] at e0
        cases p0 <;> try (simp [isGrid] at hg; done)
        rename_i rows
        cases rows with
        | nil => simp [isGrid] at hg
        | cons r0 rest =>
          have hg2 := hg
          simp only [isGrid, Bool.and_eq_true, decide_eq_true_eq, List.all_eq_true] at hg2
          have row : ∀ r ∈ r0 :: rest, ∃ cs, r = .lst cs ∧ cs.length = lenD r0 ∧ cs.length ≤ 8 := fun r hr => by
            have h1 := hg2.2 r hr
            cases r <;> simp [rowOk] at h1
            rename_i cs
            exact ⟨cs, rfl, h1.2, h1.1.2⟩
          have hl : (r0 :: rest).length ≤ lim := le_lim (by simp; omega)
          let pr : D → Bool := fun r => match r with | .lst cs => cs.all isCnt | _ => false
          have outer : compL .sh [3] (mgN 3) mYes e_is_view_2 (r0 :: rest) [] [some (.tup [.lst (r0 :: rest), p1, p2], .sh), none, none, none, none] = some ([] ++ (r0 :: rest).map (fun r => D.bl (pr r)), [some (.tup [.lst (r0 :: rest), p1, p2], .sh), none, none, none, none]) := compL_map fun r hr => by
            obtain ⟨cs, rfl, _, h8⟩ := row r hr
            have hcl : cs.length ≤ lim := le_lim (by omega)
            have i2 := cnt_all (V := .tup [.lst (r0 :: rest), p1, p2]) (r := .lst cs) ((k0.2 _ rfl _ hr).2 cs rfl)
            have a2 := fun m => all_fun (p := isCnt) (xs := cs) (m := m)
            have hpr : pr (.lst cs) = cs.all isCnt := rfl
            rw [hpr]
            generalize D.tup [.lst (r0 :: rest), p1, p2] = V at *
            simp [mFn, mSeq, mSet, mRet, mDrop, mIf, mNext, mPass, sE, sT, putM, keepD, bnd, ret, lft, mC, mVar, mMov, mFrz, mSh, mOp2, mOp1, mOpN, mNil, mCons, mTst, mAnd, mOr, mNot, mAndV, mOrV, mNotV, mIfE, mYes_ap, mONo, mOSome, mCall, back, backO, backE, isSh, nbB_cons, nbB_nil, nb_none, nb_some, Md.nb, Md.nbs, Md.beq, Md.beqs, D.atm, D.atms, oI, oAdd, oSub, oMul, oDiv, oMod, oPow, oLt, oLe, oGt, oGe, oNeg, oIx, oLen, intOf, mChain, mLst, mTup, mgN, forT, compT, wipeS, itMd, elSh, D.isN, oIsN, oNotN, Md.okB, Md.okBs, lim1, lim2, lim3, lim4, lim0', e_is_view_2, mComp, mItL, hcl, i2, a2]
          have hb := fun m => all_fun (p := pr) (xs := r0 :: rest) (m := m)
          have hcb : cellsB (.lst (r0 :: rest)) = (r0 :: rest).all pr := rfl
          cases hc : cellsB (.lst (r0 :: rest)) with
          | false =>
            rw [hv, hg, hc, Bool.true_and, Bool.false_and]
            rw [hcb] at hc
            rw [hc] at hb
            generalize (r0 :: rest).map (fun r => D.bl (pr r)) = A at *
            generalize hR : r0 :: rest = R at *
            generalize D.tup [.lst R, p1, p2] = V at *
            simp [mFn, mSeq, mSet, mRet, mDrop, mIf, mNext, mPass, sE, sT, putM, keepD, bnd, ret, lft, mC, mVar, mMov, mFrz, mSh, mOp2, mOp1, mOpN, mNil, mCons, mTst, mAnd, mOr, mNot, mAndV, mOrV, mNotV, mIfE, mYes_ap, mONo, mOSome, mCall, back, backO, backE, isSh, nbB_cons, nbB_nil, nb_none, nb_some, Md.nb, Md.nbs, Md.beq, Md.beqs, D.atm, D.atms, oI, oAdd, oSub, oMul, oDiv, oMod, oPow, oLt, oLe, oGt, oGe, oNeg, intOf, mChain, mLst, mTup, mgN, forT, compT, wipeS, itMd, elSh, D.isN, oIsN, oNotN, Md.okB, Md.okBs, lim1, lim2, lim3, lim4, lim0', m_is_view, b_is_view, oIsi, tyT, kb_tuple_tuple, lT, oNe_int, v0, e0, mComp, mItL, hl, outer, hb]
          | true =>
            have s1 := sums_ok (p := p1) (n := lenD (.lst (r0 :: rest))) k1 (by simp [lenD]; omega)
            obtain ⟨c0, ec0, _, l8⟩ := row r0 List.mem_cons_self
            have s2 := sums_ok (p := p2) (n := lenD r0) k2 (by rw [ec0]; simp [lenD]; omega)
            by_cases hs : isSums p1 (lenD (.lst (r0 :: rest))) = true ∧ isSums p2 (lenD r0) = true
            · obtain ⟨ed, vw⟩ := dec_view hg hc hs.1 hs.2
              have := is_view_ok vw
              rw [← ed] at this
              rw [this, hv, hg, hc, hs.1, show isSums p2 (lenD (head0 (.lst (r0 :: rest)))) = true from hs.2]
              simp
            · have hv2 : isView (.tup [.lst (r0 :: rest), p1, p2]) = false := by
                rw [hv]
                show (_ && (_ && (isSums p1 (lenD (.lst (r0 :: rest))) && (isSums p2 (lenD r0) && _)))) = false
                cases h1 : isSums p1 (lenD (.lst (r0 :: rest))) with
                | false => simp
                | true =>
                  cases h2 : isSums p2 (lenD r0) with
                  | false => simp
                  | true => exact absurd ⟨h1, h2⟩ hs
              rw [hv2]
              rw [hcb] at hc
              rw [hc] at hb
              have lG : ∀ m, oLen [(D.lst (r0 :: rest), m)] = some (.int ((lenD (.lst (r0 :: rest)) : Nat) : Int), .sh) := fun m => by simp [oLen, lenD]
              have g0 : ∀ n, oIx (.lst (r0 :: rest), .sh) (.int 0, n) = some (r0, .sh) := fun n => ix_lst (i := 0) rfl
              have lR : ∀ m, oLen [(r0, m)] = some (.int ((lenD r0 : Nat) : Int), .sh) := fun m => by rw [ec0]; simp [oLen, lenD]
              generalize (r0 :: rest).map (fun r => D.bl (pr r)) = A at *
              generalize lenD (.lst (r0 :: rest)) = n1 at *
              generalize lenD r0 = n2 at *
              generalize hR : r0 :: rest = R at *
              generalize D.tup [.lst R, p1, p2] = V at *
              cases h1 : isSums p1 n1 with
              | false =>
                rw [h1] at s1
                simp [mFn, mSeq, mSet, mRet, mDrop, mIf, mNext, mPass, sE, sT, putM, keepD, bnd, ret, lft, mC, mVar, mMov, mFrz, mSh, mOp2, mOp1, mOpN, mNil, mCons, mTst, mAnd, mOr, mNot, mAndV, mOrV, mNotV, mIfE, mYes_ap, mONo, mOSome, mCall, back, backO, backE, isSh, nbB_cons, nbB_nil, nb_none, nb_some, Md.nb, Md.nbs, Md.beq, Md.beqs, D.atm, D.atms, oI, oAdd, oSub, oMul, oDiv, oMod, oPow, oLt, oLe, oGt, oGe, oNeg, intOf, mChain, mLst, mTup, mgN, forT, compT, wipeS, itMd, elSh, D.isN, oIsN, oNotN, Md.okB, Md.okBs, lim1, lim2, lim3, lim4, lim0', m_is_view, b_is_view, oIsi, tyT, kb_tuple_tuple, lT, oNe_int, v0, v1, v2, e0, mComp, mItL, hl, outer, hb, lG, s1]
              | true =>
                cases h2 : isSums p2 n2 with
                | true => exact absurd ⟨h1, h2⟩ hs
                | false =>
                  rw [h1] at s1
                  rw [h2] at s2
                  simp [mFn, mSeq, mSet, mRet, mDrop, mIf, mNext, mPass, sE, sT, putM, keepD, bnd, ret, lft, mC, mVar, mMov, mFrz, mSh, mOp2, mOp1, mOpN, mNil, mCons, mTst, mAnd, mOr, mNot, mAndV, mOrV, mNotV, mIfE, mYes_ap, mONo, mOSome, mCall, back, backO, backE, isSh, nbB_cons, nbB_nil, nb_none, nb_some, Md.nb, Md.nbs, Md.beq, Md.beqs, D.atm, D.atms, oI, oAdd, oSub, oMul, oDiv, oMod, oPow, oLt, oLe, oGt, oGe, oNeg, intOf, mChain, mLst, mTup, mgN, forT, compT, wipeS, itMd, elSh, D.isN, oIsN, oNotN, Md.okB, Md.okBs, lim1, lim2, lim3, lim4, lim0', m_is_view, b_is_view, oIsi, tyT, kb_tuple_tuple, lT, oNe_int, v0, v1, v2, e0, mComp, mItL, hl, outer, hb, lG, g0, lR, s1, s2]
    · have lT : ∀ m, oLen [(D.tup ps, m)] = some (.int (ps.length : Int), .sh) := fun m => by simp [oLen]
      have h3' : ¬ (ps.length : Int) = 3 := by omega
      have hv : isView (.tup ps) = false := by
        match ps, h3 with
        | [], _ => rfl
        | [_], _ => rfl
        | [_, _], _ => rfl
        | [_, _, _], h => exact absurd rfl h
        | _ :: _ :: _ :: _ :: _, _ => rfl
      rw [hv]
      simp [mFn, mSeq, mSet, mRet, mDrop, mIf, mNext, mPass, sE, sT, putM, keepD, bnd, ret, lft, mC, mVar, mMov, mFrz, mSh, mOp2, mOp1, mOpN, mNil, mCons, mTst, mAnd, mOr, mNot, mAndV, mOrV, mNotV, mIfE, mYes_ap, mONo, mOSome, mCall, back, backO, backE, isSh, nbB_cons, nbB_nil, nb_none, nb_some, Md.nb, Md.nbs, Md.beq, Md.beqs, D.atm, D.atms, oI, oAdd, oSub, oMul, oDiv, oMod, oPow, oLt, oLe, oGt, oGe, oNeg, oIx, intOf, mChain, mLst, mTup, mgN, forT, compT, wipeS, itMd, elSh, D.isN, oIsN, oNotN, Md.okB, Md.okBs, lim1, lim2, lim3, lim4, lim0', m_is_view, b_is_view, oIsi, tyT, kb_tuple_tuple, lT, oNe_int, h3']
  · have hk : ∃ m, d.tyN = some m ∧ kitB m "tuple" = some false := by
      have := h.1
      cases d with
      | tup cs => exact absurd ⟨cs, rfl⟩ ht
      | _ => first | (simp [D.tyN] at this; done) | exact ⟨_, rfl, by first | exact kb_NoneType_tuple | exact kb_bool_tuple | exact kb_int_tuple | exact kb_str_tuple | exact kb_list_tuple | exact kb_dict_tuple⟩
    obtain ⟨m, hm, hk⟩ := hk
    have er : isView d = false := by
      cases d with
      | tup cs => exact absurd ⟨cs, rfl⟩ ht
      | _ => rfl
    rw [er]
    simp [mFn, mSeq, mSet, mRet, mDrop, mIf, mNext, mPass, sE, sT, putM, keepD, bnd, ret, lft, mC, mVar, mMov, mFrz, mSh, mOp2, mOp1, mOpN, mNil, mCons, mTst, mAnd, mOr, mNot, mAndV, mOrV, mNotV, mIfE, mYes_ap, mONo, mOSome, mCall, back, backO, backE, isSh, nbB_cons, nbB_nil, nb_none, nb_some, Md.nb, Md.nbs, Md.beq, Md.beqs, D.atm, D.atms, oI, oAdd, oSub, oMul, oDiv, oMod, oPow, oLt, oLe, oGt, oGe, oNeg, oIx, oLen, intOf, mChain, mLst, mTup, mgN, forT, compT, wipeS, itMd, elSh, D.isN, oIsN, oNotN, Md.okB, Md.okBs, lim1, lim2, lim3, lim4, lim0', m_is_view, b_is_view, oIsi, hm, hk]
end Ve

set_option Elab.async false
set_option linter.all false
set_option maxRecDepth 100000
set_option maxHeartbeats 4000000
namespace Ve
open PySem L2 L2H
/-! ## the law's own look at views -/
def zC (C : Cs) : List (List Int) := C.map fun r => r.map fun x => x.getD 0
theorem zC_tb {C : Cs} {R S : List Int} (v : Vw C R S) : Tb (zC C) S.length where
  h1 := by simpa [zC] using v.h1
  h8 := by simpa [zC] using v.h8
  w1 := v.w1
  w8 := v.w8
  row := fun r hr => by
    obtain ⟨x, hx, rfl⟩ := List.mem_map.mp hr
    rw [List.length_map]; exact v.row x hx
  nn := fun r hr x hx => by
    obtain ⟨y, hy, rfl⟩ := List.mem_map.mp hr
    obtain ⟨z, hz, rfl⟩ := List.mem_map.mp hx
    cases z with
    | none => exact Int.le_refl _
    | some i => exact v.nn y hy i hz
theorem shS_z (r : List (Option Int)) : shS r = (r.map fun x => x.getD 0).sum := by
  have := shS_map (f := fun x : Option Int => x) r
  simpa using this
theorem left_z {C : Cs} {R S : List Int} (v : Vw C R S) : ((List.range C.length).map fun r => R.getD r 0 - ((zC C).getD r []).sum) = leftV R C := by
  apply List.ext_getElem
  · simp [leftV, v.rl]
  · intro i h1 h2
    have hi : i < C.length := by simpa using h1
    have hR : i < R.length := by rw [v.rl]; exact hi
    simp [leftV, zC, List.getD, hi, hR, shS_z]
theorem below_z {C : Cs} {R S : List Int} (v : Vw C R S) : ((List.range S.length).map fun c => S.getD c 0 - (colS (zC C) S.length).getD c 0) = belowV C S := by
  unfold belowV
  apply List.map_congr_left
  intro c hc
  have hc : c < S.length := by simpa using hc
  rw [colS_get hc, shS_z]
  congr 2
  simp only [zC, colC, List.map_map]
  apply List.map_congr_left
  intro r hr
  have hw := v.row r hr
  have : c < r.length := by omega
  simp [List.getD, this]
theorem law_rests_ok {C : Cs} {R S : List Int} (v : Vw C R S) : m__law_rests_v1 [dV C R S] = some (.ok (.tup [dI (leftV R C), dI (belowV C S)], .tp [.ow .sh, .ow .sh])) := by
  have tb := zC_tb v
  have hcl : C.length ≤ lim := le_lim (by have := v.h8; omega)
  have v0 := fun n => oIx_V0 (cs := C) (R := R) (S := S) (n := n)
  have v1 := fun n => oIx_V1 (cs := C) (R := R) (S := S) (n := n)
  have v2 := fun n => oIx_V2 (cs := C) (R := R) (S := S) (n := n)
  have in1 : ∀ r ∈ C, compL .sh [5] (mgN 5) mYes e__law_rests_v1_1 (r.map dO) [] [some (dV C R S, .sh), none, none, none, some (dR r, .sh), none, none] = some ([] ++ r.map (fun x => D.int (x.getD 0)), [some (dV C R S, .sh), none, none, none, some (dR r, .sh), none, none]) := fun r hr => compL_over fun x hx => by
    cases x with
    | none =>
      have q1 : ∀ n, oIx (.lst [.non, .int 0], .sh) (.int 1, n) = some (.int 0, .sh) := fun n => oIx_sh rfl
      simp [mFn, mSeq, mSet, mRet, mDrop, mIf, mNext, mPass, sE, sT, putM, keepD, bnd, ret, lft, mC, mVar, mMov, mFrz, mSh, mOp2, mOp1, mOpN, mNil, mCons, mTst, mAnd, mOr, mNot, mAndV, mOrV, mNotV, mIfE, mYes_ap, mONo, mOSome, mCall, back, backO, backE, isSh, nbB_cons, nbB_nil, nb_none, nb_some, Md.nb, Md.nbs, Md.beq, Md.beqs, D.atm, D.atms, oI, oAdd, oSub, oMul, oDiv, oMod, oPow, oLt, oLe, oGt, oGe, oNeg, oLen, intOf, mChain, mLst, mTup, mgN, forT, compT, wipeS, itMd, elSh, D.isN, oIsN, oNotN, Md.okB, Md.okBs, lim1, lim2, lim3, lim4, lim0', e__law_rests_v1_1, dO, oInt, q1]
    | some i =>
      have q0 : ∀ n, oIx (.lst [.int i, .int 0], .sh) (.int 0, n) = some (.int i, .sh) := fun n => oIx_sh rfl
      simp [mFn, mSeq, mSet, mRet, mDrop, mIf, mNext, mPass, sE, sT, putM, keepD, bnd, ret, lft, mC, mVar, mMov, mFrz, mSh, mOp2, mOp1, mOpN, mNil, mCons, mTst, mAnd, mOr, mNot, mAndV, mOrV, mNotV, mIfE, mYes_ap, mONo, mOSome, mCall, back, backO, backE, isSh, nbB_cons, nbB_nil, nb_none, nb_some, Md.nb, Md.nbs, Md.beq, Md.beqs, D.atm, D.atms, oI, oAdd, oSub, oMul, oDiv, oMod, oPow, oLt, oLe, oGt, oGe, oNeg, oLen, intOf, mChain, mLst, mTup, mgN, forT, compT, wipeS, itMd, elSh, D.isN, oIsN, oNotN, Md.okB, Md.okBs, lim1, lim2, lim3, lim4, lim0', e__law_rests_v1_1, dO, oInt, q0]
  have in2 : compL (.ow .sh) [4] (mgN 4) mYes e__law_rests_v1_2 (C.map dR) [] [some (dV C R S, .sh), none, none, none, none, none, none] = some ([] ++ C.map (fun r => D.lst (r.map fun x => D.int (x.getD 0))), [some (dV C R S, .sh), none, none, none, none, none, none]) := compL_over fun r hr => by
    have hl : r.length ≤ lim := le_lim (by rw [v.row r hr]; have := v.w8; omega)
    have i1 := in1 r hr
    unfold dR at i1 ⊢
    simp [mFn, mSeq, mSet, mRet, mDrop, mIf, mNext, mPass, sE, sT, putM, keepD, bnd, ret, lft, mC, mVar, mMov, mFrz, mSh, mOp2, mOp1, mOpN, mNil, mCons, mTst, mAnd, mOr, mNot, mAndV, mOrV, mNotV, mIfE, mYes_ap, mONo, mOSome, mCall, back, backO, backE, isSh, nbB_cons, nbB_nil, nb_none, nb_some, Md.nb, Md.nbs, Md.beq, Md.beqs, D.atm, D.atms, oI, oAdd, oSub, oMul, oDiv, oMod, oPow, oLt, oLe, oGt, oGe, oNeg, oIx, oLen, intOf, mChain, mLst, mTup, mgN, forT, compT, wipeS, itMd, elSh, D.isN, oIsN, oNotN, Md.okB, Md.okBs, lim1, lim2, lim3, lim4, lim0', e__law_rests_v1_2, mComp, mItL, hl, i1]
  have ez : C.map (fun r => D.lst (r.map fun x => D.int (x.getD 0))) = (zC C).map dI := by simp [zC, dI, Function.comp_def]
  rw [ez] at in2
  have zl : (zC C).length = C.length := by simp [zC]
  have it0 : ∀ x1 x2 x3 x4 x5 x6 : Ent, mItL (mOp2 oIx (mVar 0) (mC (.int 0))) [some (dV C R S, .sh), x1, x2, x3, x4, x5, x6] = some (.ok (C.map dR), [some (dV C R S, .sh), x1, x2, x3, x4, x5, x6]) := fun x1 x2 x3 x4 x5 x6 => by
    have v0' := v0
    unfold dC at v0'
    simp [mFn, mSeq, mSet, mRet, mDrop, mIf, mNext, mPass, sE, sT, putM, keepD, bnd, ret, lft, mC, mVar, mMov, mFrz, mSh, mOp2, mOp1, mOpN, mNil, mCons, mTst, mAnd, mOr, mNot, mAndV, mOrV, mNotV, mIfE, mYes_ap, mONo, mOSome, mCall, back, backO, backE, isSh, nbB_cons, nbB_nil, nb_none, nb_some, Md.nb, Md.nbs, Md.beq, Md.beqs, D.atm, D.atms, oI, oAdd, oSub, oMul, oDiv, oMod, oPow, oLt, oLe, oGt, oGe, oNeg, oLen, intOf, mChain, mLst, mTup, mgN, forT, compT, wipeS, itMd, elSh, D.isN, oIsN, oNotN, Md.okB, Md.okBs, lim1, lim2, lim3, lim4, lim0', mItL, v0']
  have irC : iR [(.int (C.length : Int), Md.sh)] = some (rng C.length) := iR_nat (by have := v.h8; omega)
  have irS : iR [(.int (S.length : Int), Md.sh)] = some (rng S.length) := iR_nat (by have := v.w8; omega)
  have lz : ∀ m, oLen [(dG (zC C), m)] = some (.int (C.length : Int), .sh) := fun m => by rw [oLen_G, zl]
  have in3 : ∀ x : Ent, Ent.nb x = true → compL .sh [4] (mgN 4) mYes e__law_rests_v1_3 (rng C.length) [] [some (dV C R S, .sh), some (dG (zC C), .sh), none, none, none, x, none] = some ((List.range C.length).map (fun r => D.int (R.getD r 0 - ((zC C).getD r []).sum)), [some (dV C R S, .sh), some (dG (zC C), .sh), none, none, none, x, none]) := fun x hx => compL_rng fun r hr => by
    have hR : r < R.length := by rw [v.rl]; exact hr
    have f1 := fun m n => oIx_dI (xs := R) (i := r) (m := m) (n := n) hR
    have f2 := fun m n => oIx_G (g := zC C) (i := r) (m := m) (n := n) (by rw [zl]; exact hr)
    have f3 : ∀ m, oSum [(dI ((zC C).getD r []), m)] = some (.int ((zC C).getD r []).sum, .sh) := fun m => by simp [oSum, dI, intsOf_map]
    generalize (zC C).getD r [] = row at *
    generalize R.getD r 0 = y at *
    simp [mFn, mSeq, mSet, mRet, mDrop, mIf, mNext, mPass, sE, sT, putM, keepD, bnd, ret, lft, mC, mVar, mMov, mFrz, mSh, mOp2, mOp1, mOpN, mNil, mCons, mTst, mAnd, mOr, mNot, mAndV, mOrV, mNotV, mIfE, mYes_ap, mONo, mOSome, mCall, back, backO, backE, isSh, nbB_cons, nbB_nil, nb_none, nb_some, Md.nb, Md.nbs, Md.beq, Md.beqs, D.atm, D.atms, oI, oAdd, oSub, oMul, oDiv, oMod, oPow, oLt, oLe, oGt, oGe, oNeg, oLen, intOf, mChain, mLst, mTup, mgN, forT, compT, wipeS, itMd, elSh, D.isN, oIsN, oNotN, Md.okB, Md.okBs, lim1, lim2, lim3, lim4, lim0', e__law_rests_v1_3, v1, f1, f2, f3, hx]
  have ecs := law_column_sums_ok tb
  have csl : (colS (zC C) S.length).length = S.length := colS_len
  have ls : ∀ m, oLen [(dI (colS (zC C) S.length), m)] = some (.int (S.length : Int), .sh) := fun m => by rw [oLen_I, csl]
  have in4 : ∀ x4 x5 : Ent, Ent.nb x4 = true → Ent.nb x5 = true → compL .sh [6] (mgN 6) mYes e__law_rests_v1_4 (rng S.length) [] [some (dV C R S, .sh), some (dG (zC C), .sh), none, some (dI (colS (zC C) S.length), .sh), x4, x5, none] = some ((List.range S.length).map (fun c => D.int (S.getD c 0 - (colS (zC C) S.length).getD c 0)), [some (dV C R S, .sh), some (dG (zC C), .sh), none, some (dI (colS (zC C) S.length), .sh), x4, x5, none]) := fun x4 x5 h4 h5 => compL_rng fun c hc => by
    have f1 := fun m n => oIx_dI (xs := S) (i := c) (m := m) (n := n) hc
    have f2 := fun m n => oIx_dI (xs := colS (zC C) S.length) (i := c) (m := m) (n := n) (by rw [csl]; exact hc)
    generalize S.getD c 0 = y at *
    generalize (colS (zC C) S.length).getD c 0 = z at *
    simp [mFn, mSeq, mSet, mRet, mDrop, mIf, mNext, mPass, sE, sT, putM, keepD, bnd, ret, lft, mC, mVar, mMov, mFrz, mSh, mOp2, mOp1, mOpN, mNil, mCons, mTst, mAnd, mOr, mNot, mAndV, mOrV, mNotV, mIfE, mYes_ap, mONo, mOSome, mCall, back, backO, backE, isSh, nbB_cons, nbB_nil, nb_none, nb_some, Md.nb, Md.nbs, Md.beq, Md.beqs, D.atm, D.atms, oI, oAdd, oSub, oMul, oDiv, oMod, oPow, oLt, oLe, oGt, oGe, oNeg, oLen, intOf, mChain, mLst, mTup, mgN, forT, compT, wipeS, itMd, elSh, D.isN, oIsN, oNotN, Md.okB, Md.okBs, lim1, lim2, lim3, lim4, lim0', e__law_rests_v1_4, v2, f1, f2, h4, h5]
  have e3 : (List.range C.length).map (fun r => D.int (R.getD r 0 - ((zC C).getD r []).sum)) = (leftV R C).map D.int := by rw [← left_z v]; simp
  have e4 : (List.range S.length).map (fun c => D.int (S.getD c 0 - (colS (zC C) S.length).getD c 0)) = (belowV C S).map D.int := by rw [← below_z v]; simp
  rw [e3] at in3
  rw [e4] at in4
  have hSl : S.length ≤ lim := le_lim (by have := v.w8; omega)
  have cl2 : (C.map dR).length ≤ lim := by simpa using hcl
  have eG : dG (zC C) = .lst ((zC C).map dI) := rfl
  have f1 : mSet 1 (mSh (mComp (.ow .sh) [4] (mItL (mOp2 oIx (mVar 0) (mC (.int 0)))) (mgN 4) mYes e__law_rests_v1_2)) [some (dV C R S, .sh), none, none, none, none, none, none] = some (.nx [some (dV C R S, .sh), some (dG (zC C), .sh), none, none, none, none, none]) := by
    have hm : mComp (.ow .sh) [4] (mItL (mOp2 oIx (mVar 0) (mC (.int 0)))) (mgN 4) mYes e__law_rests_v1_2 [some (dV C R S, .sh), none, none, none, none, none, none] = some (.ok (dG (zC C), .ow (.ow .sh)), [some (dV C R S, .sh), none, none, none, none, none, none]) := by
      unfold mComp
      rw [it0]
      rw [eG]
      have cl3 : C.length ≤ lim := hcl
      simp [mFn, mSeq, mSet, mRet, mDrop, mIf, mNext, mPass, sE, sT, putM, keepD, bnd, ret, lft, mC, mVar, mMov, mFrz, mSh, mOp2, mOp1, mOpN, mNil, mCons, mTst, mAnd, mOr, mNot, mAndV, mOrV, mNotV, mIfE, mYes_ap, mONo, mOSome, mCall, back, backO, backE, isSh, nbB_cons, nbB_nil, nb_none, nb_some, Md.nb, Md.nbs, Md.beq, Md.beqs, D.atm, D.atms, oI, oAdd, oSub, oMul, oDiv, oMod, oPow, oLt, oLe, oGt, oGe, oNeg, oIx, oLen, intOf, mChain, mLst, mTup, mgN, forT, compT, wipeS, itMd, elSh, D.isN, oIsN, oNotN, Md.okB, Md.okBs, lim1, lim2, lim3, lim4, lim0', in2, cl3]
    simp only [mSet, sE, mSh, bnd, hm, lft]
    simp [mFn, mSeq, mSet, mRet, mDrop, mIf, mNext, mPass, sE, sT, putM, keepD, bnd, ret, lft, mC, mVar, mMov, mFrz, mSh, mOp2, mOp1, mOpN, mNil, mCons, mTst, mAnd, mOr, mNot, mAndV, mOrV, mNotV, mIfE, mYes_ap, mONo, mOSome, mCall, back, backO, backE, isSh, nbB_cons, nbB_nil, nb_none, nb_some, Md.nb, Md.nbs, Md.beq, Md.beqs, D.atm, D.atms, oI, oAdd, oSub, oMul, oDiv, oMod, oPow, oLt, oLe, oGt, oGe, oNeg, oIx, oLen, intOf, mChain, mLst, mTup, mgN, forT, compT, wipeS, itMd, elSh, D.isN, oIsN, oNotN, Md.okB, Md.okBs, lim1, lim2, lim3, lim4, lim0']
  have f2 : mSet 2 (mComp .sh [4] (mItR (mCons (mOpN oLen (mCons (mVar 1) mNil)) mNil)) (mgN 4) mYes e__law_rests_v1_3) [some (dV C R S, .sh), some (dG (zC C), .sh), none, none, none, none, none] = some (.nx [some (dV C R S, .sh), some (dG (zC C), .sh), some (dI (leftV R C), .ow .sh), none, none, none, none]) := by
    have i3 := in3 none rfl
    have e5 : dI (leftV R C) = .lst ((leftV R C).map D.int) := rfl
    rw [e5]
    generalize (leftV R C).map D.int = A at *
    simp [mFn, mSeq, mSet, mRet, mDrop, mIf, mNext, mPass, sE, sT, putM, keepD, bnd, ret, lft, mC, mVar, mMov, mFrz, mSh, mOp2, mOp1, mOpN, mNil, mCons, mTst, mAnd, mOr, mNot, mAndV, mOrV, mNotV, mIfE, mYes_ap, mONo, mOSome, mCall, back, backO, backE, isSh, nbB_cons, nbB_nil, nb_none, nb_some, Md.nb, Md.nbs, Md.beq, Md.beqs, D.atm, D.atms, oI, oAdd, oSub, oMul, oDiv, oMod, oPow, oLt, oLe, oGt, oGe, oNeg, oIx, intOf, mChain, mLst, mTup, mgN, forT, compT, wipeS, itMd, elSh, D.isN, oIsN, oNotN, Md.okB, Md.okBs, lim1, lim2, lim3, lim4, lim0', mComp, mItR, lz, irC, rng_len, hcl, i3]
  have f3 : mSet 3 (mSh (mCall 1 m__law_column_sums (mCons (mVar 1) mNil))) [some (dV C R S, .sh), some (dG (zC C), .sh), some (dI (leftV R C), .ow .sh), none, none, none, none] = some (.nx [some (dV C R S, .sh), some (dG (zC C), .sh), some (dI (leftV R C), .ow .sh), some (dI (colS (zC C) S.length), .sh), none, none, none]) := by
    simp [mFn, mSeq, mSet, mRet, mDrop, mIf, mNext, mPass, sE, sT, putM, keepD, bnd, ret, lft, mC, mVar, mMov, mFrz, mSh, mOp2, mOp1, mOpN, mNil, mCons, mTst, mAnd, mOr, mNot, mAndV, mOrV, mNotV, mIfE, mYes_ap, mONo, mOSome, mCall, back, backO, backE, isSh, nbB_cons, nbB_nil, nb_none, nb_some, Md.nb, Md.nbs, Md.beq, Md.beqs, D.atm, D.atms, oI, oAdd, oSub, oMul, oDiv, oMod, oPow, oLt, oLe, oGt, oGe, oNeg, oIx, oLen, intOf, mChain, mLst, mTup, mgN, forT, compT, wipeS, itMd, elSh, D.isN, oIsN, oNotN, Md.okB, Md.okBs, lim1, lim2, lim3, lim4, lim0', ecs]
  have f4 : mRet (mTup (mCons (mMov 2) (mCons (mComp .sh [6] (mItR (mCons (mOpN oLen (mCons (mVar 3) mNil)) mNil)) (mgN 6) mYes e__law_rests_v1_4) mNil))) [some (dV C R S, .sh), some (dG (zC C), .sh), some (dI (leftV R C), .ow .sh), some (dI (colS (zC C) S.length), .sh), none, none, none] = some (.rt (.tup [dI (leftV R C), dI (belowV C S)], .tp [.ow .sh, .ow .sh]) [some (dV C R S, .sh), some (dG (zC C), .sh), none, some (dI (colS (zC C) S.length), .sh), none, none, none]) := by
    have i4 := in4 none none rfl rfl
    have e5 : dI (belowV C S) = .lst ((belowV C S).map D.int) := rfl
    rw [e5]
    generalize (belowV C S).map D.int = A at *
    simp [mFn, mSeq, mSet, mRet, mDrop, mIf, mNext, mPass, sE, sT, putM, keepD, bnd, ret, lft, mC, mVar, mMov, mFrz, mSh, mOp2, mOp1, mOpN, mNil, mCons, mTst, mAnd, mOr, mNot, mAndV, mOrV, mNotV, mIfE, mYes_ap, mONo, mOSome, mCall, back, backO, backE, isSh, nbB_cons, nbB_nil, nb_none, nb_some, Md.nb, Md.nbs, Md.beq, Md.beqs, D.atm, D.atms, oI, oAdd, oSub, oMul, oDiv, oMod, oPow, oLt, oLe, oGt, oGe, oNeg, oIx, intOf, mChain, mLst, mTup, mgN, forT, compT, wipeS, itMd, elSh, D.isN, oIsN, oNotN, Md.okB, Md.okBs, lim1, lim2, lim3, lim4, lim0', mComp, mItR, ls, irS, rng_len, hSl, i4]
  have main : b__law_rests_v1 [some (dV C R S, .sh), none, none, none, none, none, none] = some (.rt (.tup [dI (leftV R C), dI (belowV C S)], .tp [.ow .sh, .ow .sh]) [some (dV C R S, .sh), some (dG (zC C), .sh), none, some (dI (colS (zC C) S.length), .sh), none, none, none]) := by
    unfold b__law_rests_v1
    rw [mSeq_nx f1 rfl, mSeq_nx f2 rfl, mSeq_nx f3 rfl, f4]
  have st : ([dV C R S].map fun d => (some (d, Md.sh) : Ent)) ++ List.replicate 6 none = [some (dV C R S, .sh), none, none, none, none, none, none] := rfl
  simp only [m__law_rests_v1, mFn, st, main]
  simp [Md.nb, Md.nbs]
theorem law_num_ok {d : D} (h : d.tyN.isSome = true) : m__law_number [d] = some (.ok (.bl (isNum d), .sh)) := is_number_ok h
def rowC (n : Nat) (r : D) : Bool := rowOk n r && (match r with | .lst cs => cs.all isCnt | _ => false)
theorem lc_row {rows : List D} {x : Ent} {r r0 : D} (h0 : rows[0]? = some r0) (hd : r.tyN.isSome = true) (hc : ∀ cs, r = .lst cs → ∀ c ∈ cs, c.tyN.isSome = true) (hr0 : (∃ cs, r0 = .lst cs) ∨ ¬ ∃ cs, r = .lst cs) :
    (rowC (lenD r0) r = true → ∃ s', forT (mgN 1) l__law_cells_1 r [some (.lst rows, .sh), x, none] = some (.nx s') ∧ nbB s' = true ∧ ∃ x, Ent.nb x = true ∧ s' = [some (.lst rows, .sh), x, none]) ∧
    (rowC (lenD r0) r = false → ∃ s', forT (mgN 1) l__law_cells_1 r [some (.lst rows, .sh), x, none] = some (.rt (.bl false, .sh) s')) := by
  by_cases hl : ∃ cs, r = .lst cs
  · obtain ⟨cs, rfl⟩ := hl
    obtain ⟨c0, rfl⟩ : ∃ cs, r0 = .lst cs := by
      rcases hr0 with h | h
      · exact h
      · exact absurd ⟨cs, rfl⟩ h
    have hcc := hc cs rfl
    have g0 : ∀ n, oIx (.lst rows, .sh) (.int 0, n) = some (.lst c0, .sh) := fun n => ix_lst (i := 0) h0
    have l0 : ∀ m, oLen [(D.lst c0, m)] = some (.int (c0.length : Int), .sh) := fun m => by simp [oLen]
    have lr : ∀ m, oLen [(D.lst cs, m)] = some (.int (cs.length : Int), .sh) := fun m => by simp [oLen]
    have ty : (D.lst cs).tyN = some "list" := rfl
    have hn : lenD (.lst c0) = c0.length := rfl
    rw [hn]
    have inner : compL .sh [2] (mgN 2) mYes e__law_cells_1 cs [] [some (.lst rows, .sh), some (.lst cs, .sh), none] = some ([] ++ cs.map (fun c => D.bl (isCnt c)), [some (.lst rows, .sh), some (.lst cs, .sh), none]) := compL_map fun c hcx => by
      have e := law_num_ok (hcc c hcx)
      cases hn : c.isN with
      | true =>
        have : isCnt c = true := by simp [isCnt, hn]
        simp [mFn, mSeq, mSet, mRet, mDrop, mIf, mNext, mPass, sE, sT, putM, keepD, bnd, ret, lft, mC, mVar, mMov, mFrz, mSh, mOp2, mOp1, mOpN, mNil, mCons, mTst, mAnd, mOr, mNot, mAndV, mOrV, mNotV, mIfE, mYes_ap, mONo, mOSome, mCall, back, backO, backE, isSh, nbB_cons, nbB_nil, nb_none, nb_some, Md.nb, Md.nbs, Md.beq, Md.beqs, D.atm, D.atms, oI, oAdd, oSub, oMul, oDiv, oMod, oPow, oLt, oLe, oGt, oGe, oNeg, oIx, oLen, intOf, mChain, mLst, mTup, mgN, forT, compT, wipeS, itMd, elSh, oIsN, oNotN, Md.okB, Md.okBs, lim1, lim2, lim3, lim4, lim0', e__law_cells_1, hn, this]
      | false =>
        have : isCnt c = isNum c := by simp [isCnt, hn]
        simp [mFn, mSeq, mSet, mRet, mDrop, mIf, mNext, mPass, sE, sT, putM, keepD, bnd, ret, lft, mC, mVar, mMov, mFrz, mSh, mOp2, mOp1, mOpN, mNil, mCons, mTst, mAnd, mOr, mNot, mAndV, mOrV, mNotV, mIfE, mYes_ap, mONo, mOSome, mCall, back, backO, backE, isSh, nbB_cons, nbB_nil, nb_none, nb_some, Md.nb, Md.nbs, Md.beq, Md.beqs, D.atm, D.atms, oI, oAdd, oSub, oMul, oDiv, oMod, oPow, oLt, oLe, oGt, oGe, oNeg, oIx, oLen, intOf, mChain, mLst, mTup, mgN, forT, compT, wipeS, itMd, elSh, oIsN, oNotN, Md.okB, Md.okBs, lim1, lim2, lim3, lim4, lim0', e__law_cells_1, hn, this, e]
    have ha := fun m => all_fun (p := isCnt) (xs := cs) (m := m)
    by_cases h1 : 1 ≤ cs.length
    · have h1' : (1 : Int) ≤ (cs.length : Int) := by omega
      by_cases h8 : cs.length ≤ 8
      · have h8' : (cs.length : Int) ≤ 8 := by omega
        by_cases he : cs.length = c0.length
        · have he' : (cs.length : Int) = (c0.length : Int) := by omega
          have h1c : (1 : Int) ≤ (c0.length : Int) := by omega
          have h8c : (c0.length : Int) ≤ 8 := by omega
          have er : rowC c0.length (.lst cs) = cs.all isCnt := by simp [rowC, rowOk, h1, h8, he]; intro _; omega
          rw [er]
          have hcl : cs.length ≤ lim := le_lim (by omega)
          have itr : ∀ s : SS, s[1]? = some (some (.lst cs, .sh)) → mItL (mVar 1) s = some (.ok cs, s) := fun s hs => by simp [mFn, mSeq, mSet, mRet, mDrop, mIf, mNext, mPass, sE, sT, putM, keepD, bnd, ret, lft, mC, mVar, mMov, mFrz, mSh, mOp2, mOp1, mOpN, mNil, mCons, mTst, mAnd, mOr, mNot, mAndV, mOrV, mNotV, mIfE, mYes_ap, mONo, mOSome, mCall, back, backO, backE, isSh, nbB_cons, nbB_nil, nb_none, nb_some, Md.nb, Md.nbs, Md.beq, Md.beqs, D.atm, D.atms, oI, oAdd, oSub, oMul, oDiv, oMod, oPow, oLt, oLe, oGt, oGe, oNeg, oIx, oLen, intOf, mChain, mLst, mTup, mgN, forT, compT, wipeS, itMd, elSh, D.isN, oIsN, oNotN, Md.okB, Md.okBs, lim1, lim2, lim3, lim4, lim0', mItL, hs]
          have it2 := itr [some (.lst rows, .sh), some (.lst cs, .sh), none] rfl
          generalize cs.map (fun c => D.bl (isCnt c)) = A at *
          refine ⟨fun hp => ⟨[some (.lst rows, .sh), some (.lst cs, .sh), none], ?_, rfl, _, rfl, rfl⟩, fun hp => ⟨[some (.lst rows, .sh), some (.lst cs, .sh), none], ?_⟩⟩
          · rw [hp] at ha
            simp [mFn, mSeq, mSet, mRet, mDrop, mIf, mNext, mPass, sE, sT, putM, keepD, bnd, ret, lft, mC, mVar, mMov, mFrz, mSh, mOp2, mOp1, mOpN, mNil, mCons, mTst, mAnd, mOr, mNot, mAndV, mOrV, mNotV, mIfE, mYes_ap, mONo, mOSome, mCall, back, backO, backE, isSh, nbB_cons, nbB_nil, nb_none, nb_some, Md.nb, Md.nbs, Md.beq, Md.beqs, D.atm, D.atms, oI, oAdd, oSub, oMul, oDiv, oMod, oPow, oLt, oLe, oGt, oGe, oNeg, intOf, mChain, mLst, mTup, mgN, forT, compT, wipeS, itMd, elSh, D.isN, oIsN, oNotN, Md.okB, Md.okBs, lim1, lim2, lim3, lim4, lim0', l__law_cells_1, oIsi, ty, kb_list_list, lr, h1', h8', h1c, h8c, g0, l0, oNe_int, he', mComp, it2, mItL, hcl, inner, ha]
          · rw [hp] at ha
            simp [mFn, mSeq, mSet, mRet, mDrop, mIf, mNext, mPass, sE, sT, putM, keepD, bnd, ret, lft, mC, mVar, mMov, mFrz, mSh, mOp2, mOp1, mOpN, mNil, mCons, mTst, mAnd, mOr, mNot, mAndV, mOrV, mNotV, mIfE, mYes_ap, mONo, mOSome, mCall, back, backO, backE, isSh, nbB_cons, nbB_nil, nb_none, nb_some, Md.nb, Md.nbs, Md.beq, Md.beqs, D.atm, D.atms, oI, oAdd, oSub, oMul, oDiv, oMod, oPow, oLt, oLe, oGt, oGe, oNeg, intOf, mChain, mLst, mTup, mgN, forT, compT, wipeS, itMd, elSh, D.isN, oIsN, oNotN, Md.okB, Md.okBs, lim1, lim2, lim3, lim4, lim0', l__law_cells_1, oIsi, ty, kb_list_list, lr, h1', h8', h1c, h8c, g0, l0, oNe_int, he', mComp, it2, mItL, hcl, inner, ha]
        · have he' : ¬ (cs.length : Int) = (c0.length : Int) := by omega
          have er : rowC c0.length (.lst cs) = false := by simp [rowC, rowOk, he]
          rw [er]
          refine ⟨(fun z => nomatch z), fun _ => ⟨[some (.lst rows, .sh), some (.lst cs, .sh), none], ?_⟩⟩
          simp [mFn, mSeq, mSet, mRet, mDrop, mIf, mNext, mPass, sE, sT, putM, keepD, bnd, ret, lft, mC, mVar, mMov, mFrz, mSh, mOp2, mOp1, mOpN, mNil, mCons, mTst, mAnd, mOr, mNot, mAndV, mOrV, mNotV, mIfE, mYes_ap, mONo, mOSome, mCall, back, backO, backE, isSh, nbB_cons, nbB_nil, nb_none, nb_some, Md.nb, Md.nbs, Md.beq, Md.beqs, D.atm, D.atms, oI, oAdd, oSub, oMul, oDiv, oMod, oPow, oLt, oLe, oGt, oGe, oNeg, intOf, mChain, mLst, mTup, mgN, forT, compT, wipeS, itMd, elSh, D.isN, oIsN, oNotN, Md.okB, Md.okBs, lim1, lim2, lim3, lim4, lim0', l__law_cells_1, oIsi, ty, kb_list_list, lr, h1', h8', g0, l0, oNe_int, he']
      · have h8' : ¬ (cs.length : Int) ≤ 8 := by omega
        have er : rowC c0.length (.lst cs) = false := by simp [rowC, rowOk, h8]
        rw [er]
        refine ⟨(fun z => nomatch z), fun _ => ⟨[some (.lst rows, .sh), some (.lst cs, .sh), none], ?_⟩⟩
        simp [mFn, mSeq, mSet, mRet, mDrop, mIf, mNext, mPass, sE, sT, putM, keepD, bnd, ret, lft, mC, mVar, mMov, mFrz, mSh, mOp2, mOp1, mOpN, mNil, mCons, mTst, mAnd, mOr, mNot, mAndV, mOrV, mNotV, mIfE, mYes_ap, mONo, mOSome, mCall, back, backO, backE, isSh, nbB_cons, nbB_nil, nb_none, nb_some, Md.nb, Md.nbs, Md.beq, Md.beqs, D.atm, D.atms, oI, oAdd, oSub, oMul, oDiv, oMod, oPow, oLt, oLe, oGt, oGe, oNeg, intOf, mChain, mLst, mTup, mgN, forT, compT, wipeS, itMd, elSh, D.isN, oIsN, oNotN, Md.okB, Md.okBs, lim1, lim2, lim3, lim4, lim0', l__law_cells_1, oIsi, ty, kb_list_list, lr, h1', h8']
    · have h1' : ¬ (1 : Int) ≤ (cs.length : Int) := by omega
      have er : rowC c0.length (.lst cs) = false := by simp [rowC, rowOk, h1]
      rw [er]
      refine ⟨(fun z => nomatch z), fun _ => ⟨[some (.lst rows, .sh), some (.lst cs, .sh), none], ?_⟩⟩
      simp [mFn, mSeq, mSet, mRet, mDrop, mIf, mNext, mPass, sE, sT, putM, keepD, bnd, ret, lft, mC, mVar, mMov, mFrz, mSh, mOp2, mOp1, mOpN, mNil, mCons, mTst, mAnd, mOr, mNot, mAndV, mOrV, mNotV, mIfE, mYes_ap, mONo, mOSome, mCall, back, backO, backE, isSh, nbB_cons, nbB_nil, nb_none, nb_some, Md.nb, Md.nbs, Md.beq, Md.beqs, D.atm, D.atms, oI, oAdd, oSub, oMul, oDiv, oMod, oPow, oLt, oLe, oGt, oGe, oNeg, intOf, mChain, mLst, mTup, mgN, forT, compT, wipeS, itMd, elSh, D.isN, oIsN, oNotN, Md.okB, Md.okBs, lim1, lim2, lim3, lim4, lim0', l__law_cells_1, oIsi, ty, kb_list_list, lr, h1']
  · have hk : ∃ n, r.tyN = some n ∧ kitB n "list" = some false := by
      cases r with
      | lst cs => exact absurd ⟨cs, rfl⟩ hl
      | _ => first | (simp [D.tyN] at hd; done) | exact ⟨_, rfl, by first | exact kb_NoneType_list | exact kb_bool_list | exact kb_int_list | exact kb_str_list | exact kb_tuple_list | exact kb_dict_list⟩
    obtain ⟨n, hn, hk⟩ := hk
    have er : rowC (lenD r0) r = false := by
      cases r with
      | lst cs => exact absurd ⟨cs, rfl⟩ hl
      | _ => rfl
    rw [er]
    refine ⟨(fun z => nomatch z), fun _ => ⟨[some (.lst rows, .sh), some (r, .sh), none], ?_⟩⟩
    simp [mFn, mSeq, mSet, mRet, mDrop, mIf, mNext, mPass, sE, sT, putM, keepD, bnd, ret, lft, mC, mVar, mMov, mFrz, mSh, mOp2, mOp1, mOpN, mNil, mCons, mTst, mAnd, mOr, mNot, mAndV, mOrV, mNotV, mIfE, mYes_ap, mONo, mOSome, mCall, back, backO, backE, isSh, nbB_cons, nbB_nil, nb_none, nb_some, Md.nb, Md.nbs, Md.beq, Md.beqs, D.atm, D.atms, oI, oAdd, oSub, oMul, oDiv, oMod, oPow, oLt, oLe, oGt, oGe, oNeg, oIx, oLen, intOf, mChain, mLst, mTup, mgN, forT, compT, wipeS, itMd, elSh, D.isN, oIsN, oNotN, Md.okB, Md.okBs, lim1, lim2, lim3, lim4, lim0', l__law_cells_1, oIsi, hn, hk]
theorem cells_two {r0 : D} {rest : List D} : (isGrid (.lst (r0 :: rest)) && cellsB (.lst (r0 :: rest))) = (decide (rest.length + 1 ≤ 8) && (r0 :: rest).all (rowC (lenD r0))) := by
  have e : ∀ (n : Nat) (rows : List D), (rows.all (rowOk n) && rows.all (fun r => match r with | .lst cs => cs.all isCnt | _ => false)) = rows.all (rowC n) := fun n rows => by
    induction rows with
    | nil => rfl
    | cons r rows ih =>
      simp only [List.all_cons]
      rw [← ih]
      unfold rowC
      generalize rowOk n r = a
      generalize rows.all (rowOk n) = b
      generalize (rows.all fun r => match r with | .lst cs => cs.all isCnt | _ => false) = c
      generalize (match r with | .lst cs => cs.all isCnt | _ => false) = d
      cases a <;> cases b <;> cases c <;> cases d <;> rfl
  show (decide (rest.length + 1 ≤ 8) && (r0 :: rest).all (rowOk (lenD r0)) && (r0 :: rest).all (fun r => match r with | .lst cs => cs.all isCnt | _ => false)) = _
  rw [Bool.and_assoc, e]
theorem law_cells_ok {p : D} (h : kindly p) : m__law_cells [p] = some (.ok (.bl (isGrid p && cellsB p), .sh)) := by
  by_cases hl : ∃ rows, p = .lst rows
  · obtain ⟨rows, rfl⟩ := hl
    have hr := h.2 rows rfl
    cases rows with
    | nil => simp [mFn, mSeq, mSet, mRet, mDrop, mIf, mNext, mPass, sE, sT, putM, keepD, bnd, ret, lft, mC, mVar, mMov, mFrz, mSh, mOp2, mOp1, mOpN, mNil, mCons, mTst, mAnd, mOr, mNot, mAndV, mOrV, mNotV, mIfE, mYes_ap, mONo, mOSome, mCall, back, backO, backE, isSh, nbB_cons, nbB_nil, nb_none, nb_some, Md.nb, Md.nbs, Md.beq, Md.beqs, D.atm, D.atms, oI, oAdd, oSub, oMul, oDiv, oMod, oPow, oLt, oLe, oGt, oGe, oNeg, oIx, oLen, intOf, mChain, mLst, mTup, mgN, forT, compT, wipeS, itMd, elSh, D.isN, oIsN, oNotN, Md.okB, Md.okBs, lim1, lim2, lim3, lim4, lim0', m__law_cells, b__law_cells, oIsi, D.tyN, kb_list_list, isGrid]
    | cons r0 rest =>
      rw [cells_two]
      have h1 : (1 : Int) ≤ (rest.length : Int) + 1 := by omega
      by_cases h8 : rest.length + 1 ≤ 8
      · have h8' : (rest.length : Int) + 1 ≤ 8 := by omega
        rw [decide_eq_true h8, Bool.true_and]
        have main : ((r0 :: rest).all (rowC (lenD r0)) = true → ∃ s', forL (mgN 1) l__law_cells_1 (r0 :: rest) [some (.lst (r0 :: rest), .sh), none, none] = some (.nx s') ∧ ∃ x, Ent.nb x = true ∧ s' = [some (.lst (r0 :: rest), .sh), x, none]) ∧
            ((r0 :: rest).all (rowC (lenD r0)) = false → ∃ s', forL (mgN 1) l__law_cells_1 (r0 :: rest) [some (.lst (r0 :: rest), .sh), none, none] = some (.rt (.bl false, .sh) s')) := by
          by_cases hl : ∃ cs, r0 = .lst cs
          · exact forL_all (mg := mgN 1) (body := l__law_cells_1) (r := (.bl false, .sh)) (items := r0 :: rest) (ss := [some (.lst (r0 :: rest), .sh), none, none]) (fun s => ∃ x, Ent.nb x = true ∧ s = [some (.lst (r0 :: rest), .sh), x, none]) (rowC (lenD r0)) (fun r s hd ⟨x, hx, hs⟩ => by
              subst hs
              exact lc_row (r0 := r0) rfl (hr r hd).1 (hr r hd).2 (.inl hl)) ⟨none, rfl, rfl⟩
          · have hp : rowC (lenD r0) r0 = false := by
              cases r0 with
              | lst cs => exact absurd ⟨cs, rfl⟩ hl
              | _ => rfl
            obtain ⟨s', e⟩ := (lc_row (rows := r0 :: rest) (x := none) (r := r0) (r0 := r0) rfl (hr r0 List.mem_cons_self).1 (hr r0 List.mem_cons_self).2 (.inr hl)).2 hp
            rw [forL_cons, e]
            exact ⟨fun z => by simp [hp] at z, fun _ => ⟨_, rfl⟩⟩
        have lL : ∀ m, oLen [(D.lst (r0 :: rest), m)] = some (.int ((rest.length : Int) + 1), .sh) := fun m => by simp [oLen]
        have tyL : (D.lst (r0 :: rest)).tyN = some "list" := rfl
        cases ha : (r0 :: rest).all (rowC (lenD r0)) with
        | false =>
          obtain ⟨s', e⟩ := main.2 ha
          generalize hR : r0 :: rest = R at *
          simp [mFn, mSeq, mSet, mRet, mDrop, mIf, mNext, mPass, sE, sT, putM, keepD, bnd, ret, lft, mC, mVar, mMov, mFrz, mSh, mOp2, mOp1, mOpN, mNil, mCons, mTst, mAnd, mOr, mNot, mAndV, mOrV, mNotV, mIfE, mYes_ap, mONo, mOSome, mCall, back, backO, backE, isSh, nbB_cons, nbB_nil, nb_none, nb_some, Md.nb, Md.nbs, Md.beq, Md.beqs, D.atm, D.atms, oI, oAdd, oSub, oMul, oDiv, oMod, oPow, oLt, oLe, oGt, oGe, oNeg, oIx, intOf, mChain, mLst, mTup, mgN, forT, compT, wipeS, itMd, elSh, D.isN, oIsN, oNotN, Md.okB, Md.okBs, lim1, lim2, lim3, lim4, lim0', m__law_cells, b__law_cells, oIsi, tyL, kb_list_list, lL, h1, h8', mFor, mItL, e]
        | true =>
          obtain ⟨s', e, x, hx, rfl⟩ := main.1 ha
          generalize hR : r0 :: rest = R at *
          simp [mFn, mSeq, mSet, mRet, mDrop, mIf, mNext, mPass, sE, sT, putM, keepD, bnd, ret, lft, mC, mVar, mMov, mFrz, mSh, mOp2, mOp1, mOpN, mNil, mCons, mTst, mAnd, mOr, mNot, mAndV, mOrV, mNotV, mIfE, mYes_ap, mONo, mOSome, mCall, back, backO, backE, isSh, nbB_cons, nbB_nil, nb_none, nb_some, Md.nb, Md.nbs, Md.beq, Md.beqs, D.atm, D.atms, oI, oAdd, oSub, oMul, oDiv, oMod, oPow, oLt, oLe, oGt, oGe, oNeg, oIx, intOf, mChain, mLst, mTup, mgN, forT, compT, wipeS, itMd, elSh, D.isN, oIsN, oNotN, Md.okB, Md.okBs, lim1, lim2, lim3, lim4, lim0', m__law_cells, b__law_cells, oIsi, tyL, kb_list_list, lL, h1, h8', mFor, mItL, e, hx]
      · have h8' : ¬ (rest.length : Int) + 1 ≤ 8 := by omega
        rw [decide_eq_false h8, Bool.false_and]
        simp [mFn, mSeq, mSet, mRet, mDrop, mIf, mNext, mPass, sE, sT, putM, keepD, bnd, ret, lft, mC, mVar, mMov, mFrz, mSh, mOp2, mOp1, mOpN, mNil, mCons, mTst, mAnd, mOr, mNot, mAndV, mOrV, mNotV, mIfE, mYes_ap, mONo, mOSome, mCall, back, backO, backE, isSh, nbB_cons, nbB_nil, nb_none, nb_some, Md.nb, Md.nbs, Md.beq, Md.beqs, D.atm, D.atms, oI, oAdd, oSub, oMul, oDiv, oMod, oPow, oLt, oLe, oGt, oGe, oNeg, oIx, oLen, intOf, mChain, mLst, mTup, mgN, forT, compT, wipeS, itMd, elSh, D.isN, oIsN, oNotN, Md.okB, Md.okBs, lim1, lim2, lim3, lim4, lim0', m__law_cells, b__law_cells, oIsi, D.tyN, kb_list_list, h1, h8']
  · have hk : ∃ n, p.tyN = some n ∧ kitB n "list" = some false := by
      have := h.1
      cases p with
      | lst cs => exact absurd ⟨cs, rfl⟩ hl
      | _ => first | (simp [D.tyN] at this; done) | exact ⟨_, rfl, by first | exact kb_NoneType_list | exact kb_bool_list | exact kb_int_list | exact kb_str_list | exact kb_tuple_list | exact kb_dict_list⟩
    obtain ⟨n, hn, hk⟩ := hk
    have er : isGrid p = false := by
      cases p with
      | lst cs => exact absurd ⟨cs, rfl⟩ hl
      | _ => rfl
    rw [er, Bool.false_and]
    simp [mFn, mSeq, mSet, mRet, mDrop, mIf, mNext, mPass, sE, sT, putM, keepD, bnd, ret, lft, mC, mVar, mMov, mFrz, mSh, mOp2, mOp1, mOpN, mNil, mCons, mTst, mAnd, mOr, mNot, mAndV, mOrV, mNotV, mIfE, mYes_ap, mONo, mOSome, mCall, back, backO, backE, isSh, nbB_cons, nbB_nil, nb_none, nb_some, Md.nb, Md.nbs, Md.beq, Md.beqs, D.atm, D.atms, oI, oAdd, oSub, oMul, oDiv, oMod, oPow, oLt, oLe, oGt, oGe, oNeg, oIx, oLen, intOf, mChain, mLst, mTup, mgN, forT, compT, wipeS, itMd, elSh, D.isN, oIsN, oNotN, Md.okB, Md.okBs, lim1, lim2, lim3, lim4, lim0', m__law_cells, b__law_cells, oIsi, hn, hk]
end Ve

set_option Elab.async false
set_option linter.all false
set_option maxRecDepth 100000
set_option maxHeartbeats 4000000
namespace Ve
open PySem L2 L2H
theorem lv_sum {V p : D} {n : Nat} {x y : Ent} (hn : n ≤ 1000) (h : kindly p) (hx : Ent.nb x = true) (hy : Ent.nb y = true) :
    (isSums p n = true → ∃ s', forT (mgT 2 (mgCons (mgN 1) (mgCons (mgN 2) mgNil))) l__law_is_view_1 (.tup [p, .int (n : Int)]) [some (V, .sh), x, y, none, none, none] = some (.nx s') ∧ nbB s' = true ∧ ∃ x y, Ent.nb x = true ∧ Ent.nb y = true ∧ s' = [some (V, .sh), x, y, none, none, none]) ∧
    (isSums p n = false → ∃ s', forT (mgT 2 (mgCons (mgN 1) (mgCons (mgN 2) mgNil))) l__law_is_view_1 (.tup [p, .int (n : Int)]) [some (V, .sh), x, y, none, none, none] = some (.rt (.bl false, .sh) s')) := by
  by_cases hl : ∃ xs, p = .lst xs
  · obtain ⟨xs, rfl⟩ := hl
    have hxs := kindly_lst h rfl
    have lr : ∀ m, oLen [(D.lst xs, m)] = some (.int (xs.length : Int), .sh) := fun m => by simp [oLen]
    have ty : (D.lst xs).tyN = some "list" := rfl
    by_cases he : xs.length = n
    · have he' : (xs.length : Int) = (n : Int) := by omega
      have inner : compL .sh [5] (mgN 5) mYes e__law_is_view_1 xs [] [some (V, .sh), some (.lst xs, .sh), some (.int (n : Int), .sh), none, none, none] = some ([] ++ xs.map (fun c => D.bl (isNum c)), [some (V, .sh), some (.lst xs, .sh), some (.int (n : Int), .sh), none, none, none]) := compL_map fun c hc => by
        have e := law_num_ok (hxs c hc)
        simp [mFn, mSeq, mSet, mRet, mDrop, mIf, mNext, mPass, sE, sT, putM, keepD, bnd, ret, lft, mC, mVar, mMov, mFrz, mSh, mOp2, mOp1, mOpN, mNil, mCons, mTst, mAnd, mOr, mNot, mAndV, mOrV, mNotV, mIfE, mYes_ap, mONo, mOSome, mCall, back, backO, backE, isSh, nbB_cons, nbB_nil, nb_none, nb_some, Md.nb, Md.nbs, Md.beq, Md.beqs, D.atm, D.atms, oI, oAdd, oSub, oMul, oDiv, oMod, oPow, oLt, oLe, oGt, oGe, oNeg, oIx, oLen, intOf, mChain, mLst, mTup, mgN, forT, compT, wipeS, itMd, elSh, D.isN, oIsN, oNotN, Md.okB, Md.okBs, lim1, lim2, lim3, lim4, lim0', e__law_is_view_1, e]
      have ha := fun m => all_fun (p := isNum) (xs := xs) (m := m)
      have er : isSums (.lst xs) n = xs.all isNum := by simp [isSums, he]
      have hcl : xs.length ≤ lim := le_lim (by omega)
      have hcl2 : n ≤ lim := le_lim hn
      rw [er]
      generalize xs.map (fun c => D.bl (isNum c)) = A at *
      refine ⟨fun hp => ⟨[some (V, .sh), some (.lst xs, .sh), some (.int (n : Int), .sh), none, none, none], ?_, rfl, _, _, rfl, rfl, rfl⟩, fun hp => ⟨[some (V, .sh), some (.lst xs, .sh), some (.int (n : Int), .sh), none, none, none], ?_⟩⟩
      · rw [hp] at ha
        simp [mFn, mSeq, mSet, mRet, mDrop, mIf, mNext, mPass, sE, sT, putM, keepD, bnd, ret, lft, mC, mVar, mMov, mFrz, mSh, mOp2, mOp1, mOpN, mNil, mCons, mTst, mAnd, mOr, mNot, mAndV, mOrV, mNotV, mIfE, mYes_ap, mONo, mOSome, mCall, back, backO, backE, isSh, nbB_cons, nbB_nil, nb_none, nb_some, Md.nb, Md.nbs, Md.beq, Md.beqs, D.atm, D.atms, oI, oAdd, oSub, oMul, oDiv, oMod, oPow, oLt, oLe, oGt, oGe, oNeg, oIx, intOf, mChain, mLst, mTup, mgN, forT, compT, wipeS, itMd, elSh, D.isN, oIsN, oNotN, Md.okB, Md.okBs, lim1, lim2, lim3, lim4, lim0', l__law_is_view_1, mgT, mgCons, mgNil, parts, hx, hy, oIsi, ty, kb_list_list, lr, oNe_int, he', mComp, mItL, hcl, hcl2, inner, ha, he]
      · rw [hp] at ha
        simp [mFn, mSeq, mSet, mRet, mDrop, mIf, mNext, mPass, sE, sT, putM, keepD, bnd, ret, lft, mC, mVar, mMov, mFrz, mSh, mOp2, mOp1, mOpN, mNil, mCons, mTst, mAnd, mOr, mNot, mAndV, mOrV, mNotV, mIfE, mYes_ap, mONo, mOSome, mCall, back, backO, backE, isSh, nbB_cons, nbB_nil, nb_none, nb_some, Md.nb, Md.nbs, Md.beq, Md.beqs, D.atm, D.atms, oI, oAdd, oSub, oMul, oDiv, oMod, oPow, oLt, oLe, oGt, oGe, oNeg, oIx, intOf, mChain, mLst, mTup, mgN, forT, compT, wipeS, itMd, elSh, D.isN, oIsN, oNotN, Md.okB, Md.okBs, lim1, lim2, lim3, lim4, lim0', l__law_is_view_1, mgT, mgCons, mgNil, parts, hx, hy, oIsi, ty, kb_list_list, lr, oNe_int, he', mComp, mItL, hcl, hcl2, inner, ha, he]
    · have he' : ¬ (xs.length : Int) = (n : Int) := by omega
      have er : isSums (.lst xs) n = false := by simp [isSums, he]
      rw [er]
      refine ⟨(fun z => nomatch z), fun _ => ⟨[some (V, .sh), some (.lst xs, .sh), some (.int (n : Int), .sh), none, none, none], ?_⟩⟩
      simp [mFn, mSeq, mSet, mRet, mDrop, mIf, mNext, mPass, sE, sT, putM, keepD, bnd, ret, lft, mC, mVar, mMov, mFrz, mSh, mOp2, mOp1, mOpN, mNil, mCons, mTst, mAnd, mOr, mNot, mAndV, mOrV, mNotV, mIfE, mYes_ap, mONo, mOSome, mCall, back, backO, backE, isSh, nbB_cons, nbB_nil, nb_none, nb_some, Md.nb, Md.nbs, Md.beq, Md.beqs, D.atm, D.atms, oI, oAdd, oSub, oMul, oDiv, oMod, oPow, oLt, oLe, oGt, oGe, oNeg, oIx, intOf, mChain, mLst, mTup, mgN, forT, compT, wipeS, itMd, elSh, D.isN, oIsN, oNotN, Md.okB, Md.okBs, lim1, lim2, lim3, lim4, lim0', l__law_is_view_1, mgT, mgCons, mgNil, parts, hx, hy, oIsi, ty, kb_list_list, lr, oNe_int, he']
  · have hk : ∃ m, p.tyN = some m ∧ kitB m "list" = some false := by
      have := h.1
      cases p with
      | lst cs => exact absurd ⟨cs, rfl⟩ hl
      | _ => first | (simp [D.tyN] at this; done) | exact ⟨_, rfl, by first | exact kb_NoneType_list | exact kb_bool_list | exact kb_int_list | exact kb_str_list | exact kb_tuple_list | exact kb_dict_list⟩
    obtain ⟨m, hm, hk⟩ := hk
    have er : isSums p n = false := by
      cases p with
      | lst cs => exact absurd ⟨cs, rfl⟩ hl
      | _ => rfl
    rw [er]
    refine ⟨(fun z => nomatch z), fun _ => ⟨[some (V, .sh), some (p, .sh), some (.int (n : Int), .sh), none, none, none], ?_⟩⟩
    simp [mFn, mSeq, mSet, mRet, mDrop, mIf, mNext, mPass, sE, sT, putM, keepD, bnd, ret, lft, mC, mVar, mMov, mFrz, mSh, mOp2, mOp1, mOpN, mNil, mCons, mTst, mAnd, mOr, mNot, mAndV, mOrV, mNotV, mIfE, mYes_ap, mONo, mOSome, mCall, back, backO, backE, isSh, nbB_cons, nbB_nil, nb_none, nb_some, Md.nb, Md.nbs, Md.beq, Md.beqs, D.atm, D.atms, oI, oAdd, oSub, oMul, oDiv, oMod, oPow, oLt, oLe, oGt, oGe, oNeg, oIx, oLen, intOf, mChain, mLst, mTup, mgN, forT, compT, wipeS, itMd, elSh, D.isN, oIsN, oNotN, Md.okB, Md.okBs, lim1, lim2, lim3, lim4, lim0', l__law_is_view_1, mgT, mgCons, mgNil, parts, hx, hy, oIsi, hm, hk]
theorem law_is_view_ok {d : D} (h : kindlyV d) : m__law_is_view [d] = some (.ok (.bl (isView d), .sh)) := by
  by_cases ht : ∃ ps, d = .tup ps
  · obtain ⟨ps, rfl⟩ := ht
    have hk := h.2 ps rfl
    have tyT : (D.tup ps).tyN = some "tuple" := rfl
    by_cases h3 : ps.length = 3
    · obtain ⟨p0, p1, p2, rfl⟩ : ∃ p0 p1 p2, ps = [p0, p1, p2] := by
        match ps, h3 with
        | [a, b, c], _ => exact ⟨a, b, c, rfl⟩
      have k0 := hk p0 (by simp)
      have k1 := hk p1 (by simp)
      have k2 := hk p2 (by simp)
      have e0 := law_cells_ok k0
      have v0 : ∀ n, oIx (.tup [p0, p1, p2], .sh) (.int 0, n) = some (p0, .sh) := fun n => ix_tup (i := 0) rfl
      have v1 : ∀ n, oIx (.tup [p0, p1, p2], .sh) (.int 1, n) = some (p1, .sh) := fun n => ix_tup (i := 1) rfl
      have v2 : ∀ n, oIx (.tup [p0, p1, p2], .sh) (.int 2, n) = some (p2, .sh) := fun n => ix_tup (i := 2) rfl
      have lT : ∀ m, oLen [(D.tup [p0, p1, p2], m)] = some (.int 3, .sh) := fun m => by simp [oLen]
      have hv : isView (.tup [p0, p1, p2]) = (isGrid p0 && (cellsB p0 && (isSums p1 (lenD p0) && (isSums p2 (lenD (head0 p0)) && viewOk (decC p0) (decI p1) (decI p2))))) := rfl
      by_cases hc : isGrid p0 = true ∧ cellsB p0 = true
      · obtain ⟨hg, hcb⟩ := hc
        obtain ⟨_, _, l1, l8, w1, w8, _⟩ := dec_cells hg hcb
        rw [hg, hcb, Bool.and_self] at e0
        rw [hv, hg, hcb, Bool.true_and, Bool.true_and]
        have lG : ∀ m, oLen [(p0, m)] = some (.int ((lenD p0 : Nat) : Int), .sh) := fun m => by
          cases p0 <;> try (simp [isGrid] at hg; done)
          simp [oLen, lenD]
        obtain ⟨g0, lR⟩ : (∀ n, oIx (p0, .sh) (.int 0, n) = some (head0 p0, .sh)) ∧ ∀ m, oLen [(head0 p0, m)] = some (.int ((lenD (head0 p0) : Nat) : Int), .sh) := by
          obtain ⟨rows, rfl⟩ : ∃ rows, p0 = .lst rows := by
            cases p0 <;> first | exact ⟨_, rfl⟩ | (simp [isGrid] at hg; done)
          cases rows with
          | nil => simp [isGrid] at hg
          | cons r0 rest =>
            refine ⟨fun n => ix_lst (i := 0) rfl, fun m => ?_⟩
            have h1 : rowOk (lenD r0) r0 = true := by
              simp only [isGrid, Bool.and_eq_true, List.all_eq_true] at hg
              exact hg.2 r0 List.mem_cons_self
            cases r0 <;> simp [rowOk] at h1
            simp [head0, oLen, lenD]
        have dv := fun a b => dec_view (p0 := p0) (p1 := p1) (p2 := p2) hg hcb a b
        generalize lenD p0 = n1 at *
        generalize hh : head0 p0 = h0 at *
        generalize lenD h0 = n2 at *
        have main := forL_allM (f := fun q : D × Nat => D.tup [q.1, .int (q.2 : Int)]) (mg := mgT 2 (mgCons (mgN 1) (mgCons (mgN 2) mgNil))) (body := l__law_is_view_1) (r := (.bl false, .sh)) (xs := [(p1, n1), (p2, n2)]) (ss := [some (.tup [p0, p1, p2], .sh), none, none, none, none, none])
          (fun s => ∃ x y, Ent.nb x = true ∧ Ent.nb y = true ∧ s = [some (.tup [p0, p1, p2], .sh), x, y, none, none, none]) (fun q => isSums q.1 q.2) (fun q s hq ⟨x, y, hx, hy, hs⟩ => by
            subst hs
            simp only [List.mem_cons, List.not_mem_nil, or_false] at hq
            rcases hq with rfl | rfl
            · exact lv_sum (by omega) k1 hx hy
            · exact lv_sum (by omega) k2 hx hy) ⟨none, none, rfl, rfl, rfl⟩
        simp only [List.all_cons, List.all_nil, Bool.and_true, List.map_cons, List.map_nil] at main
        by_cases hs : isSums p1 n1 = true ∧ isSums p2 n2 = true
        · obtain ⟨s', e1, x, y, hx, hy, rfl⟩ := main.1 (by rw [hs.1, hs.2]; rfl)
          obtain ⟨ed, vw⟩ := dv hs.1 hs.2
          have er := law_rests_ok vw
          rw [← ed] at er
          rw [hs.1, hs.2, Bool.true_and, Bool.true_and]
          generalize decC p0 = C at *
          generalize decI p1 = R at *
          generalize decI p2 = S at *
          have ll : (leftV R C).length ≤ 8 := by simp [leftV]; have := vw.h8; omega
          have bl : (belowV C S).length = S.length := by simp [belowV]
          have sw1 := vw.w1
          have sw8 := vw.w8
          obtain ⟨k, em, hk⟩ := oMin_ge (xs := leftV R C ++ belowV C S) (m := .ow .sh) (fun h => by have := congrArg List.length (List.append_eq_nil_iff.mp h).2; rw [bl] at this; have t2 : S.length = 0 := this; omega)
          have hsum : (leftV R C).length + (belowV C S).length ≤ lim := le_lim (by omega)
          have ecat2 : oCat (dI (leftV R C), .bw) (dI (belowV C S), .bw) = some (.lst ((leftV R C ++ belowV C S).map D.int), .ow .sh) := by
            simp [oCat, dI, elSh, isSh, hsum, atms_dI]
          have es1 : ∀ m, oSum [(dI (leftV R C), m)] = some (.int (leftV R C).sum, .sh) := fun m => by simp [oSum, dI, intsOf_map]
          have es2 : ∀ m, oSum [(dI (belowV C S), m)] = some (.int (belowV C S).sum, .sh) := fun m => by simp [oSum, dI, intsOf_map]
          have hvo : viewOk C R S = (decide (0 ≤ k) && decide ((leftV R C).sum = (belowV C S).sum)) := by
            unfold viewOk
            congr 1
            exact decide_eq_decide.mpr hk.symm
          rw [hvo]
          have at1 : (dI (leftV R C)).atm = false := rfl
          have at2 : (dI (belowV C S)).atm = false := rfl
          simp only [List.map_append] at em ecat2
          generalize leftV R C = L at *
          generalize belowV C S = Bw at *
          have l2 : 2 ≤ lim := lim2
          generalize D.tup [p0, p1, p2] = V at *
          by_cases hk0 : 0 ≤ k <;> by_cases hs3 : L.sum = Bw.sum <;> simp [mFn, mSeq, mSet, mRet, mDrop, mIf, mNext, mPass, sE, sT, putM, keepD, bnd, ret, lft, mC, mVar, mMov, mFrz, mSh, mOp2, mOp1, mOpN, mNil, mCons, mTst, mAnd, mOr, mNot, mAndV, mOrV, mNotV, mIfE, mYes_ap, mONo, mOSome, mCall, back, backO, backE, isSh, nbB_cons, nbB_nil, nb_none, nb_some, Md.nb, Md.nbs, Md.beq, Md.beqs, D.atm, D.atms, oI, oAdd, oSub, oMul, oDiv, oMod, oPow, oLt, oLe, oGt, oGe, oNeg, intOf, mChain, mLst, mTup, mgN, forT, compT, wipeS, itMd, elSh, D.isN, oIsN, oNotN, Md.okB, Md.okBs, lim1, lim2, lim3, lim4, lim0', m__law_is_view, b__law_is_view, oIsi, tyT, kb_tuple_tuple, lT, oNe_int, v0, v1, v2, e0, lG, g0, lR, mFor, mItL, e1, hx, hy, mAsg, er, mgT, mgCons, mgNil, parts, at1, at2, ecat2, em, es1, es2, oEq_int, hs3, hk0]
        · obtain ⟨s', e1⟩ := main.2 (by
            cases a : isSums p1 n1 with
            | false => rfl
            | true =>
              cases b : isSums p2 n2 with
              | false => rfl
              | true => exact absurd ⟨a, b⟩ hs)
          have hf : (isSums p1 n1 && (isSums p2 n2 && viewOk (decC p0) (decI p1) (decI p2))) = false := by
            cases a : isSums p1 n1 with
            | false => rfl
            | true =>
              cases b : isSums p2 n2 with
              | false => rfl
              | true => exact absurd ⟨a, b⟩ hs
          rw [hf]
          generalize D.tup [p0, p1, p2] = V at *
          simp [mFn, mSeq, mSet, mRet, mDrop, mIf, mNext, mPass, sE, sT, putM, keepD, bnd, ret, lft, mC, mVar, mMov, mFrz, mSh, mOp2, mOp1, mOpN, mNil, mCons, mTst, mAnd, mOr, mNot, mAndV, mOrV, mNotV, mIfE, mYes_ap, mONo, mOSome, mCall, back, backO, backE, isSh, nbB_cons, nbB_nil, nb_none, nb_some, Md.nb, Md.nbs, Md.beq, Md.beqs, D.atm, D.atms, oI, oAdd, oSub, oMul, oDiv, oMod, oPow, oLt, oLe, oGt, oGe, oNeg, intOf, mChain, mLst, mTup, mgN, forT, compT, wipeS, itMd, elSh, D.isN, oIsN, oNotN, Md.okB, Md.okBs, lim1, lim2, lim3, lim4, lim0', m__law_is_view, b__law_is_view, oIsi, tyT, kb_tuple_tuple, lT, oNe_int, v0, v1, v2, e0, lG, g0, lR, mFor, mItL, e1]
      · have hf : (isGrid p0 && cellsB p0) = false := by
          cases a : isGrid p0 with
          | false => rfl
          | true =>
            cases b : cellsB p0 with
            | false => rfl
            | true => exact absurd ⟨a, b⟩ hc
        have hv2 : isView (.tup [p0, p1, p2]) = false := by rw [hv, ← Bool.and_assoc, hf, Bool.false_and]
        rw [hv2]
        rw [hf] at e0
        generalize D.tup [p0, p1, p2] = V at *
        simp [mFn, mSeq, mSet, mRet, mDrop, mIf, mNext, mPass, sE, sT, putM, keepD, bnd, ret, lft, mC, mVar, mMov, mFrz, mSh, mOp2, mOp1, mOpN, mNil, mCons, mTst, mAnd, mOr, mNot, mAndV, mOrV, mNotV, mIfE, mYes_ap, mONo, mOSome, mCall, back, backO, backE, isSh, nbB_cons, nbB_nil, nb_none, nb_some, Md.nb, Md.nbs, Md.beq, Md.beqs, D.atm, D.atms, oI, oAdd, oSub, oMul, oDiv, oMod, oPow, oLt, oLe, oGt, oGe, oNeg, intOf, mChain, mLst, mTup, mgN, forT, compT, wipeS, itMd, elSh, D.isN, oIsN, oNotN, Md.okB, Md.okBs, lim1, lim2, lim3, lim4, lim0', m__law_is_view, b__law_is_view, oIsi, tyT, kb_tuple_tuple, lT, oNe_int, v0, e0]
    · have lT : ∀ m, oLen [(D.tup ps, m)] = some (.int (ps.length : Int), .sh) := fun m => by simp [oLen]
      have h3' : ¬ (ps.length : Int) = 3 := by omega
      have hv : isView (.tup ps) = false := by
        match ps, h3 with
        | [], _ => rfl
        | [_], _ => rfl
        | [_, _], _ => rfl
        | [_, _, _], h => exact absurd rfl h
        | _ :: _ :: _ :: _ :: _, _ => rfl
      rw [hv]
      simp [mFn, mSeq, mSet, mRet, mDrop, mIf, mNext, mPass, sE, sT, putM, keepD, bnd, ret, lft, mC, mVar, mMov, mFrz, mSh, mOp2, mOp1, mOpN, mNil, mCons, mTst, mAnd, mOr, mNot, mAndV, mOrV, mNotV, mIfE, mYes_ap, mONo, mOSome, mCall, back, backO, backE, isSh, nbB_cons, nbB_nil, nb_none, nb_some, Md.nb, Md.nbs, Md.beq, Md.beqs, D.atm, D.atms, oI, oAdd, oSub, oMul, oDiv, oMod, oPow, oLt, oLe, oGt, oGe, oNeg, oIx, intOf, mChain, mLst, mTup, mgN, forT, compT, wipeS, itMd, elSh, D.isN, oIsN, oNotN, Md.okB, Md.okBs, lim1, lim2, lim3, lim4, lim0', m__law_is_view, b__law_is_view, oIsi, tyT, kb_tuple_tuple, lT, oNe_int, h3']
  · have hk : ∃ m, d.tyN = some m ∧ kitB m "tuple" = some false := by
      have := h.1
      cases d with
      | tup cs => exact absurd ⟨cs, rfl⟩ ht
      | _ => first | (simp [D.tyN] at this; done) | exact ⟨_, rfl, by first | exact kb_NoneType_tuple | exact kb_bool_tuple | exact kb_int_tuple | exact kb_str_tuple | exact kb_list_tuple | exact kb_dict_tuple⟩
    obtain ⟨m, hm, hk⟩ := hk
    have er : isView d = false := by
      cases d with
      | tup cs => exact absurd ⟨cs, rfl⟩ ht
      | _ => rfl
    rw [er]
    simp [mFn, mSeq, mSet, mRet, mDrop, mIf, mNext, mPass, sE, sT, putM, keepD, bnd, ret, lft, mC, mVar, mMov, mFrz, mSh, mOp2, mOp1, mOpN, mNil, mCons, mTst, mAnd, mOr, mNot, mAndV, mOrV, mNotV, mIfE, mYes_ap, mONo, mOSome, mCall, back, backO, backE, isSh, nbB_cons, nbB_nil, nb_none, nb_some, Md.nb, Md.nbs, Md.beq, Md.beqs, D.atm, D.atms, oI, oAdd, oSub, oMul, oDiv, oMod, oPow, oLt, oLe, oGt, oGe, oNeg, oIx, oLen, intOf, mChain, mLst, mTup, mgN, forT, compT, wipeS, itMd, elSh, D.isN, oIsN, oNotN, Md.okB, Md.okBs, lim1, lim2, lim3, lim4, lim0', m__law_is_view, b__law_is_view, oIsi, hm, hk]
end Ve

set_option Elab.async false
set_option linter.all false
set_option maxRecDepth 100000
set_option maxHeartbeats 4000000
namespace Ve
open PySem L2 L2H
section
variable {d : D}
theorem need_view_bad (h : kindlyV d) (hv : isView d = false) : m_need_view [d] = some (.er ⟨2, [], []⟩) := by
  have e := is_view_gen h
  rw [hv] at e
  simp [mFn, mSeq, mSet, mRet, mDrop, mIf, mNext, mPass, sE, sT, putM, keepD, bnd, ret, lft, mC, mVar, mMov, mFrz, mSh, mOp2, mOp1, mOpN, mNil, mCons, mTst, mAnd, mOr, mNot, mAndV, mOrV, mNotV, mIfE, mYes_ap, mONo, mOSome, mCall, back, backO, backE, isSh, nbB_cons, nbB_nil, nb_none, nb_some, Md.nb, Md.nbs, Md.beq, Md.beqs, D.atm, D.atms, oI, oAdd, oSub, oMul, oDiv, oMod, oPow, oLt, oLe, oGt, oGe, oNeg, oIx, oLen, intOf, mChain, mLst, mTup, mgN, forT, compT, wipeS, itMd, elSh, D.isN, oIsN, oNotN, Md.okB, Md.okBs, lim1, lim2, lim3, lim4, lim0', m_need_view, b_need_view, e, mRaise]
theorem hidden_bad (h : kindlyV d) (hv : isView d = false) : m_hidden_places [d] = some (.er ⟨2, [], []⟩) := by
  have e := need_view_bad h hv
  simp [mFn, mSeq, mSet, mRet, mDrop, mIf, mNext, mPass, sE, sT, putM, keepD, bnd, ret, lft, mC, mVar, mMov, mFrz, mSh, mOp2, mOp1, mOpN, mNil, mCons, mTst, mAnd, mOr, mNot, mAndV, mOrV, mNotV, mIfE, mYes_ap, mONo, mOSome, mCall, back, backO, backE, isSh, nbB_cons, nbB_nil, nb_none, nb_some, Md.nb, Md.nbs, Md.beq, Md.beqs, D.atm, D.atms, oI, oAdd, oSub, oMul, oDiv, oMod, oPow, oLt, oLe, oGt, oGe, oNeg, oIx, oLen, intOf, mChain, mLst, mTup, mgN, forT, compT, wipeS, itMd, elSh, D.isN, oIsN, oNotN, Md.okB, Md.okBs, lim1, lim2, lim3, lim4, lim0', m_hidden_places, b_hidden_places, e]
theorem rests_bad (h : kindlyV d) (hv : isView d = false) : m_rests [d] = some (.er ⟨2, [], []⟩) := by
  have e := need_view_bad h hv
  simp [mFn, mSeq, mSet, mRet, mDrop, mIf, mNext, mPass, sE, sT, putM, keepD, bnd, ret, lft, mC, mVar, mMov, mFrz, mSh, mOp2, mOp1, mOpN, mNil, mCons, mTst, mAnd, mOr, mNot, mAndV, mOrV, mNotV, mIfE, mYes_ap, mONo, mOSome, mCall, back, backO, backE, isSh, nbB_cons, nbB_nil, nb_none, nb_some, Md.nb, Md.nbs, Md.beq, Md.beqs, D.atm, D.atms, oI, oAdd, oSub, oMul, oDiv, oMod, oPow, oLt, oLe, oGt, oGe, oNeg, oIx, oLen, intOf, mChain, mLst, mTup, mgN, forT, compT, wipeS, itMd, elSh, D.isN, oIsN, oNotN, Md.okB, Md.okBs, lim1, lim2, lim3, lim4, lim0', m_rests, b_rests, e]
theorem filled_bad (h : kindlyV d) (hv : isView d = false) : m_filled_k05 [d] = some (.er ⟨2, [], []⟩) := by
  have e := hidden_bad h hv
  simp [mFn, mSeq, mSet, mRet, mDrop, mIf, mNext, mPass, sE, sT, putM, keepD, bnd, ret, lft, mC, mVar, mMov, mFrz, mSh, mOp2, mOp1, mOpN, mNil, mCons, mTst, mAnd, mOr, mNot, mAndV, mOrV, mNotV, mIfE, mYes_ap, mONo, mOSome, mCall, back, backO, backE, isSh, nbB_cons, nbB_nil, nb_none, nb_some, Md.nb, Md.nbs, Md.beq, Md.beqs, D.atm, D.atms, oI, oAdd, oSub, oMul, oDiv, oMod, oPow, oLt, oLe, oGt, oGe, oNeg, oIx, oLen, intOf, mChain, mLst, mTup, mgN, forT, compT, wipeS, itMd, elSh, D.isN, oIsN, oNotN, Md.okB, Md.okBs, lim1, lim2, lim3, lim4, lim0', m_filled_k05, b_filled_k05, e]
theorem needh_bad {p : D} (h : kindlyV d) (hv : isView d = false) : m_need_hidden_k05 [d, p] = some (.er ⟨2, [], []⟩) := by
  have e := hidden_bad h hv
  simp [mFn, mSeq, mSet, mRet, mDrop, mIf, mNext, mPass, sE, sT, putM, keepD, bnd, ret, lft, mC, mVar, mMov, mFrz, mSh, mOp2, mOp1, mOpN, mNil, mCons, mTst, mAnd, mOr, mNot, mAndV, mOrV, mNotV, mIfE, mYes_ap, mONo, mOSome, mCall, back, backO, backE, isSh, nbB_cons, nbB_nil, nb_none, nb_some, Md.nb, Md.nbs, Md.beq, Md.beqs, D.atm, D.atms, oI, oAdd, oSub, oMul, oDiv, oMod, oPow, oLt, oLe, oGt, oGe, oNeg, oIx, oLen, intOf, mChain, mLst, mTup, mgN, forT, compT, wipeS, itMd, elSh, D.isN, oIsN, oNotN, Md.okB, Md.okBs, lim1, lim2, lim3, lim4, lim0', m_need_hidden_k05, b_need_hidden_k05, e]
theorem ends_bad {p : D} (h : kindlyV d) (hv : isView d = false) : m_ends_k05 [d, p] = some (.er ⟨2, [], []⟩) := by
  have e := needh_bad (p := p) h hv
  simp [mFn, mSeq, mSet, mRet, mDrop, mIf, mNext, mPass, sE, sT, putM, keepD, bnd, ret, lft, mC, mVar, mMov, mFrz, mSh, mOp2, mOp1, mOpN, mNil, mCons, mTst, mAnd, mOr, mNot, mAndV, mOrV, mNotV, mIfE, mYes_ap, mONo, mOSome, mCall, back, backO, backE, isSh, nbB_cons, nbB_nil, nb_none, nb_some, Md.nb, Md.nbs, Md.beq, Md.beqs, D.atm, D.atms, oI, oAdd, oSub, oMul, oDiv, oMod, oPow, oLt, oLe, oGt, oGe, oNeg, oIx, oLen, intOf, mChain, mLst, mTup, mgN, forT, compT, wipeS, itMd, elSh, D.isN, oIsN, oNotN, Md.okB, Md.okBs, lim1, lim2, lim3, lim4, lim0', m_ends_k05, b_ends_k05, e]
theorem walls_bad {p : D} (h : kindlyV d) (hv : isView d = false) : m_walls_k05 [d, p] = some (.er ⟨2, [], []⟩) := by
  have e := needh_bad (p := p) h hv
  simp [mFn, mSeq, mSet, mRet, mDrop, mIf, mNext, mPass, sE, sT, putM, keepD, bnd, ret, lft, mC, mVar, mMov, mFrz, mSh, mOp2, mOp1, mOpN, mNil, mCons, mTst, mAnd, mOr, mNot, mAndV, mOrV, mNotV, mIfE, mYes_ap, mONo, mOSome, mCall, back, backO, backE, isSh, nbB_cons, nbB_nil, nb_none, nb_some, Md.nb, Md.nbs, Md.beq, Md.beqs, D.atm, D.atms, oI, oAdd, oSub, oMul, oDiv, oMod, oPow, oLt, oLe, oGt, oGe, oNeg, oIx, oLen, intOf, mChain, mLst, mTup, mgN, forT, compT, wipeS, itMd, elSh, D.isN, oIsN, oNotN, Md.okB, Md.okBs, lim1, lim2, lim3, lim4, lim0', m_walls_k05, b_walls_k05, e]
theorem given_bad {p : D} (h : kindlyV d) (hv : isView d = false) : m_given_away_k05 [d, p] = some (.er ⟨2, [], []⟩) := by
  have e := hidden_bad h hv
  simp [mFn, mSeq, mSet, mRet, mDrop, mIf, mNext, mPass, sE, sT, putM, keepD, bnd, ret, lft, mC, mVar, mMov, mFrz, mSh, mOp2, mOp1, mOpN, mNil, mCons, mTst, mAnd, mOr, mNot, mAndV, mOrV, mNotV, mIfE, mYes_ap, mONo, mOSome, mCall, back, backO, backE, isSh, nbB_cons, nbB_nil, nb_none, nb_some, Md.nb, Md.nbs, Md.beq, Md.beqs, D.atm, D.atms, oI, oAdd, oSub, oMul, oDiv, oMod, oPow, oLt, oLe, oGt, oGe, oNeg, oIx, oLen, intOf, mChain, mLst, mTup, mgN, forT, compT, wipeS, itMd, elSh, D.isN, oIsN, oNotN, Md.okB, Md.okBs, lim1, lim2, lim3, lim4, lim0', m_given_away_k05, b_given_away_k05, e]
theorem alone5_ok {a : Addr} : mCalmF (m__law_alone_v1 a 2) [.ex a] = some (.ok (.bl true, .sh)) := by
  simp [mFn, mSeq, mSet, mRet, mDrop, mIf, mNext, mPass, sE, sT, putM, keepD, bnd, ret, lft, mC, mVar, mMov, mFrz, mSh, mOp2, mOp1, mOpN, mNil, mCons, mTst, mAnd, mOr, mNot, mAndV, mOrV, mNotV, mIfE, mYes_ap, mONo, mOSome, mCall, back, backO, backE, isSh, nbB_cons, nbB_nil, nb_none, nb_some, Md.nb, Md.nbs, Md.beq, Md.beqs, D.atm, D.atms, oI, oAdd, oSub, oMul, oDiv, oMod, oPow, oLt, oLe, oGt, oGe, oNeg, oIx, oLen, intOf, mChain, mLst, mTup, mgN, forT, compT, wipeS, itMd, elSh, D.isN, oIsN, oNotN, Md.okB, Md.okBs, lim1, lim2, lim3, lim4, lim0', mCalmF, m__law_alone_v1, b__law_alone_v1, mIsE, subO, subC]
theorem refused5_ok {i : Int} (h0 : 0 ≤ i) (h6 : i < 6) (h : kindlyV d) (hv : isView d = false) : m__law_refused_v3 [.int i, d] = some (.ok (.bl true, .sh)) := by
  have e0 := hidden_bad h hv
  have e1 := filled_bad h hv
  have e2 := ends_bad (p := .tup [.int 0, .int 0]) h hv
  have e3 := walls_bad (p := .tup [.int 0, .int 0]) h hv
  have e4 := rests_bad h hv
  have e5 := given_bad (p := .int 0) h hv
  have : i = 0 ∨ i = 1 ∨ i = 2 ∨ i = 3 ∨ i = 4 ∨ i = 5 := by omega
  rcases this with rfl | rfl | rfl | rfl | rfl | rfl <;> simp [mFn, mSeq, mSet, mRet, mDrop, mIf, mNext, mPass, sE, sT, putM, keepD, bnd, ret, lft, mC, mVar, mMov, mFrz, mSh, mOp2, mOp1, mOpN, mNil, mCons, mTst, mAnd, mOr, mNot, mAndV, mOrV, mNotV, mIfE, mYes_ap, mONo, mOSome, mCall, back, backO, backE, isSh, nbB_cons, nbB_nil, nb_none, nb_some, Md.nb, Md.nbs, Md.beq, Md.beqs, D.atm, D.atms, oI, oAdd, oSub, oMul, oDiv, oMod, oPow, oLt, oLe, oGt, oGe, oNeg, oIx, oLen, intOf, mChain, mLst, mTup, mgN, forT, compT, wipeS, itMd, elSh, D.isN, oIsN, oNotN, Md.okB, Md.okBs, lim1, lim2, lim3, lim4, lim0', m__law_refused_v3, b__law_refused_v3, e0, e1, e2, e3, e4, e5, mTry, mHds, Hd.out, Hd.run, SO.mapS, SO.st, clrS, namS, okP, subC, mCalm, alone5_ok, oEq_int]
end
/-- things that may be handed in as a view, and that are like themselves -/
def GdV (d : D) : Prop := kindlyV d ∧ (d.oddT = true ∨ d.odd = true ∨ d.shp = true)
theorem gdV_ne {d : D} (h : GdV d) (m n : Md) : oNeT (d, m) (d, n) = some (.bl false, .sh) := by
  unfold oNeT
  by_cases ho : d.oddT = true
  · rw [if_pos ⟨rfl, ho⟩]
  · rw [if_neg (fun z => ho z.2)]
    unfold oNeS
    by_cases ho2 : d.odd = true
    · rw [if_pos ⟨rfl, ho2⟩]
    · rw [if_neg (fun z => ho2 z.2)]
      have hs : d.shp = true := (h.2.resolve_left ho).resolve_left ho2
      have e : d.eqv d = true := SeqAt.eqv_refl _ (SeqAt.canLay_of_shaped hs)
      simp [oNe, hs, e]
theorem oNeT_bl {i j : Bool} {m n : Md} : oNeT (.bl i, m) (.bl j, n) = some (.bl (!(i == j)), .sh) := by
  unfold oNeT
  rw [if_neg (fun z => by simp [D.oddT] at z)]
  unfold oNeS
  rw [if_neg (fun z => by simp [D.odd] at z)]
  simp [oNe, shp_bl, eqv_bl]
theorem mix_v1_eq : m__law_mix_v1 = m__law_mix := rfl
theorem view_v1_eq : m__law_view_v1 = m__law_view := rfl
/-- the law, where the thing is known -/
theorem law5_of (sp : ∀ (ns : List Int) (g : List (List Int)) (w : Nat) (ps : List Pl), ns.length ≤ 63 → Tb g w → ∃ d md, GdV d ∧ md.nb = true ∧ m__law_spoilt_v1 [(.fz ns, .sh), (dV (cellsT g w ps) (g.map List.sum) (colS g w), .tp [.ow (.ow .sh), .ow .sh, .ow .sh])] = some (d, md)) :
    ∀ ns : List Int, ns.length ≤ 63 → m_law_v4 [.fz ns] = some (.ok (.bl true, .sh)) := by
  intro ns hn
  have m0 := mix_ok hn (show (0 : Int) ≤ 0 by decide)
  have m1 := mix_ok hn (show (0 : Int) ≤ 1 by decide)
  rw [← mix_v1_eq] at m0 m1
  obtain ⟨h, eh, h1, h8⟩ := dim_of (ns := ns) (k := 0)
  obtain ⟨w, ew, w1, w8⟩ := dim_of (ns := ns) (k := 1)
  have tb := tab_tb (ns := ns) h1 h8 w1 w8
  have et := law_table_ok (ns := ns) hn h8 w8
  generalize tab ns h w = g at *
  have ep := law_places_ok hn tb
  generalize placesN ns g.length w = ps at *
  have ev := law_view_ok (ps := ps) tb
  rw [← view_v1_eq] at ev
  obtain ⟨d, md, gd, nb, es⟩ := sp ns g w ps hn tb
  generalize dV (cellsT g w ps) (g.map List.sum) (colS g w) = V at *
  have e3 := law_is_view_ok gd.1
  have e4 := is_view_gen gd.1
  have ne1 := fun m n => gdV_ne gd m n
  have n2 := fun i j m n => oNeT_bl (i := i) (j := j) (m := m) (n := n)
  have f1 : s_law_v4_1 [some (.fz ns, .sh), none, none, none, none, none, none] = some (.nx [some (.fz ns, .sh), some (dG g, .sh), none, none, none, none, none]) := by
    simp [mFn, mSeq, mSet, mRet, mDrop, mIf, mNext, mPass, sE, sT, putM, keepD, bnd, ret, lft, mC, mVar, mMov, mFrz, mSh, mOp2, mOp1, mOpN, mNil, mCons, mTst, mAnd, mOr, mNot, mAndV, mOrV, mNotV, mIfE, mYes_ap, mONo, mOSome, mCall, back, backO, backE, isSh, nbB_cons, nbB_nil, nb_none, nb_some, Md.nb, Md.nbs, Md.beq, Md.beqs, D.atm, D.atms, oI, oAdd, oSub, oMul, oDiv, oMod, oPow, oLt, oLe, oGt, oGe, oNeg, oIx, oLen, intOf, mChain, mLst, mTup, mgN, forT, compT, wipeS, itMd, elSh, D.isN, oIsN, oNotN, Md.okB, Md.okBs, lim1, lim2, lim3, lim4, lim0', s_law_v4_1, m0, m1, eh, ew, et]
  have f2 : s_law_v4_2 [some (.fz ns, .sh), some (dG g, .sh), none, none, none, none, none] = some (.nx [some (.fz ns, .sh), some (dG g, .sh), some (dPs ps, .sh), none, none, none, none]) := by
    simp [mFn, mSeq, mSet, mRet, mDrop, mIf, mNext, mPass, sE, sT, putM, keepD, bnd, ret, lft, mC, mVar, mMov, mFrz, mSh, mOp2, mOp1, mOpN, mNil, mCons, mTst, mAnd, mOr, mNot, mAndV, mOrV, mNotV, mIfE, mYes_ap, mONo, mOSome, mCall, back, backO, backE, isSh, nbB_cons, nbB_nil, nb_none, nb_some, Md.nb, Md.nbs, Md.beq, Md.beqs, D.atm, D.atms, oI, oAdd, oSub, oMul, oDiv, oMod, oPow, oLt, oLe, oGt, oGe, oNeg, oIx, oLen, intOf, mChain, mLst, mTup, mgN, forT, compT, wipeS, itMd, elSh, D.isN, oIsN, oNotN, Md.okB, Md.okBs, lim1, lim2, lim3, lim4, lim0', s_law_v4_2, ep]
  have cm : ∀ x3 x4 x5 x6 : Ent, mCallM m__law_spoilt_v1 2 m__law_view_v1 (mVar 0) (mCons (mVar 1) (mCons (mVar 2) mNil)) [some (.fz ns, .sh), some (dG g, .sh), some (dPs ps, .sh), x3, x4, x5, x6] = some (.ok (d, md), [some (.fz ns, .sh), some (dG g, .sh), some (dPs ps, .sh), x3, x4, x5, x6]) := fun x3 x4 x5 x6 => by
    simp [mFn, mSeq, mSet, mRet, mDrop, mIf, mNext, mPass, sE, sT, putM, keepD, bnd, ret, lft, mC, mVar, mMov, mFrz, mSh, mOp2, mOp1, mOpN, mNil, mCons, mTst, mAnd, mOr, mNot, mAndV, mOrV, mNotV, mIfE, mYes_ap, mONo, mOSome, mCall, back, backO, backE, isSh, nbB_cons, nbB_nil, nb_none, nb_some, Md.nb, Md.nbs, Md.beq, Md.beqs, D.atm, D.atms, oI, oAdd, oSub, oMul, oDiv, oMod, oPow, oLt, oLe, oGt, oGe, oNeg, oIx, oLen, intOf, mChain, mLst, mTup, mgN, forT, compT, wipeS, itMd, elSh, D.isN, oIsN, oNotN, Md.okB, Md.okBs, lim1, lim2, lim3, lim4, lim0', mCallM, ev, es, nb]
  have f3 : s_law_v4_3 [some (.fz ns, .sh), some (dG g, .sh), some (dPs ps, .sh), none, none, none, none] = some (.nx [some (.fz ns, .sh), some (dG g, .sh), some (dPs ps, .sh), some (d, .sh), none, none, none]) := by
    have c := cm none none none none
    unfold s_law_v4_3
    simp only [mSet, sE, mSh, bnd, c, lft, nb]
    simp [mFn, mSeq, mSet, mRet, mDrop, mIf, mNext, mPass, sE, sT, putM, keepD, bnd, ret, lft, mC, mVar, mMov, mFrz, mSh, mOp2, mOp1, mOpN, mNil, mCons, mTst, mAnd, mOr, mNot, mAndV, mOrV, mNotV, mIfE, mYes_ap, mONo, mOSome, mCall, back, backO, backE, isSh, nbB_cons, nbB_nil, nb_none, nb_some, Md.nb, Md.nbs, Md.beq, Md.beqs, D.atm, D.atms, oI, oAdd, oSub, oMul, oDiv, oMod, oPow, oLt, oLe, oGt, oGe, oNeg, oIx, oLen, intOf, mChain, mLst, mTup, mgN, forT, compT, wipeS, itMd, elSh, D.isN, oIsN, oNotN, Md.okB, Md.okBs, lim1, lim2, lim3, lim4, lim0']
  have f4 : s_law_v4_4 [some (.fz ns, .sh), some (dG g, .sh), some (dPs ps, .sh), some (d, .sh), none, none, none] = some (.nx [some (.fz ns, .sh), some (dG g, .sh), some (dPs ps, .sh), some (d, .sh), some (.bl (isView d), .sh), none, none]) := by
    simp [mFn, mSeq, mSet, mRet, mDrop, mIf, mNext, mPass, sE, sT, putM, keepD, bnd, ret, lft, mC, mVar, mMov, mFrz, mSh, mOp2, mOp1, mOpN, mNil, mCons, mTst, mAnd, mOr, mNot, mAndV, mOrV, mNotV, mIfE, mYes_ap, mONo, mOSome, mCall, back, backO, backE, isSh, nbB_cons, nbB_nil, nb_none, nb_some, Md.nb, Md.nbs, Md.beq, Md.beqs, D.atm, D.atms, oI, oAdd, oSub, oMul, oDiv, oMod, oPow, oLt, oLe, oGt, oGe, oNeg, oIx, oLen, intOf, mChain, mLst, mTup, mgN, forT, compT, wipeS, itMd, elSh, D.isN, oIsN, oNotN, Md.okB, Md.okBs, lim1, lim2, lim3, lim4, lim0', s_law_v4_4, e3]
  have f5 : s_law_v4_5 [some (.fz ns, .sh), some (dG g, .sh), some (dPs ps, .sh), some (d, .sh), some (.bl (isView d), .sh), none, none] = some (.nx [some (.fz ns, .sh), some (dG g, .sh), some (dPs ps, .sh), some (d, .sh), some (.bl (isView d), .sh), some (.bl (isView d), .sh), none]) := by
    simp [mFn, mSeq, mSet, mRet, mDrop, mIf, mNext, mPass, sE, sT, putM, keepD, bnd, ret, lft, mC, mVar, mMov, mFrz, mSh, mOp2, mOp1, mOpN, mNil, mCons, mTst, mAnd, mOr, mNot, mAndV, mOrV, mNotV, mIfE, mYes_ap, mONo, mOSome, mCall, back, backO, backE, isSh, nbB_cons, nbB_nil, nb_none, nb_some, Md.nb, Md.nbs, Md.beq, Md.beqs, D.atm, D.atms, oI, oAdd, oSub, oMul, oDiv, oMod, oPow, oLt, oLe, oGt, oGe, oNeg, oIx, oLen, intOf, mChain, mLst, mTup, mgN, forT, compT, wipeS, itMd, elSh, D.isN, oIsN, oNotN, Md.okB, Md.okBs, lim1, lim2, lim3, lim4, lim0', s_law_v4_5, e4]
  have f6 : s_law_v4_6 [some (.fz ns, .sh), some (dG g, .sh), some (dPs ps, .sh), some (d, .sh), some (.bl (isView d), .sh), some (.bl (isView d), .sh), none] = some (.nx [some (.fz ns, .sh), some (dG g, .sh), some (dPs ps, .sh), some (d, .sh), some (.bl (isView d), .sh), some (.bl (isView d), .sh), none]) := by
    simp [mFn, mSeq, mSet, mRet, mDrop, mIf, mNext, mPass, sE, sT, putM, keepD, bnd, ret, lft, mC, mVar, mMov, mFrz, mSh, mOp2, mOp1, mOpN, mNil, mCons, mTst, mAnd, mOr, mNot, mAndV, mOrV, mNotV, mIfE, mYes_ap, mONo, mOSome, mCall, back, backO, backE, isSh, nbB_cons, nbB_nil, nb_none, nb_some, Md.nb, Md.nbs, Md.beq, Md.beqs, D.atm, D.atms, oI, oAdd, oSub, oMul, oDiv, oMod, oPow, oLt, oLe, oGt, oGe, oNeg, oIx, oLen, intOf, mChain, mLst, mTup, mgN, forT, compT, wipeS, itMd, elSh, D.isN, oIsN, oNotN, Md.okB, Md.okBs, lim1, lim2, lim3, lim4, lim0', s_law_v4_6, oIsi, D.tyN, kb_bool_bool, n2, mCallM, ev, es, nb, ne1]
  have f7 : s_law_v4_7 [some (.fz ns, .sh), some (dG g, .sh), some (dPs ps, .sh), some (d, .sh), some (.bl (isView d), .sh), some (.bl (isView d), .sh), none] = some (.rt (.bl true, .sh) [some (.fz ns, .sh), some (dG g, .sh), some (dPs ps, .sh), some (d, .sh), some (.bl (isView d), .sh), some (.bl (isView d), .sh), none]) := by
    cases ht : isView d with
    | true => simp [mFn, mSeq, mSet, mRet, mDrop, mIf, mNext, mPass, sE, sT, putM, keepD, bnd, ret, lft, mC, mVar, mMov, mFrz, mSh, mOp2, mOp1, mOpN, mNil, mCons, mTst, mAnd, mOr, mNot, mAndV, mOrV, mNotV, mIfE, mYes_ap, mONo, mOSome, mCall, back, backO, backE, isSh, nbB_cons, nbB_nil, nb_none, nb_some, Md.nb, Md.nbs, Md.beq, Md.beqs, D.atm, D.atms, oI, oAdd, oSub, oMul, oDiv, oMod, oPow, oLt, oLe, oGt, oGe, oNeg, oIx, oLen, intOf, mChain, mLst, mTup, mgN, forT, compT, wipeS, itMd, elSh, D.isN, oIsN, oNotN, Md.okB, Md.okBs, lim1, lim2, lim3, lim4, lim0', s_law_v4_7]
    | false =>
      have ir : iR [(.int 6, Md.sh)] = some (rng 6) := iR_nat (n := 6) (by decide)
      have inner : compL .sh [6] (mgN 6) mYes e_law_v4_1 (rng 6) [] [some (.fz ns, .sh), some (dG g, .sh), some (dPs ps, .sh), some (d, .sh), some (.bl false, .sh), some (.bl false, .sh), none] = some ((List.range 6).map (fun _ => D.bl true), [some (.fz ns, .sh), some (dG g, .sh), some (dPs ps, .sh), some (d, .sh), some (.bl false, .sh), some (.bl false, .sh), none]) := compL_rng fun i hi => by
        have e := refused5_ok (d := d) (i := (i : Int)) (by omega) (by omega) gd.1 ht
        simp [mFn, mSeq, mSet, mRet, mDrop, mIf, mNext, mPass, sE, sT, putM, keepD, bnd, ret, lft, mC, mVar, mMov, mFrz, mSh, mOp2, mOp1, mOpN, mNil, mCons, mTst, mAnd, mOr, mNot, mAndV, mOrV, mNotV, mIfE, mYes_ap, mONo, mOSome, mCall, back, backO, backE, isSh, nbB_cons, nbB_nil, nb_none, nb_some, Md.nb, Md.nbs, Md.beq, Md.beqs, D.atm, D.atms, oI, oAdd, oSub, oMul, oDiv, oMod, oPow, oLt, oLe, oGt, oGe, oNeg, oIx, oLen, intOf, mChain, mLst, mTup, mgN, forT, compT, wipeS, itMd, elSh, D.isN, oIsN, oNotN, Md.okB, Md.okBs, lim1, lim2, lim3, lim4, lim0', e_law_v4_1, e]
      have ha := fun m => all_fun (p := fun _ : Nat => true) (xs := List.range 6) (m := m)
      have l3 : (rng 6).length ≤ lim := by rw [rng_len]; exact le_lim (by decide)
      generalize hA : (List.range 6).map (fun _ => D.bl true) = A at *
      have hall : (List.range 6).all (fun _ => true) = true := rfl
      rw [hall] at ha
      simp [mFn, mSeq, mSet, mRet, mDrop, mIf, mNext, mPass, sE, sT, putM, keepD, bnd, ret, lft, mC, mVar, mMov, mFrz, mSh, mOp2, mOp1, mOpN, mNil, mCons, mTst, mAnd, mOr, mNot, mAndV, mOrV, mNotV, mIfE, mYes_ap, mONo, mOSome, mCall, back, backO, backE, isSh, nbB_cons, nbB_nil, nb_none, nb_some, Md.nb, Md.nbs, Md.beq, Md.beqs, D.atm, D.atms, oI, oAdd, oSub, oMul, oDiv, oMod, oPow, oLt, oLe, oGt, oGe, oNeg, oIx, oLen, intOf, mChain, mLst, mTup, mgN, forT, compT, wipeS, itMd, elSh, D.isN, oIsN, oNotN, Md.okB, Md.okBs, lim1, lim2, lim3, lim4, lim0', s_law_v4_7, mComp, mItR, ir, inner, ha, l3]
  have main : b_law_v4 [some (.fz ns, .sh), none, none, none, none, none, none] = some (.rt (.bl true, .sh) [some (.fz ns, .sh), some (dG g, .sh), some (dPs ps, .sh), some (d, .sh), some (.bl (isView d), .sh), some (.bl (isView d), .sh), none]) := by
    unfold b_law_v4
    rw [mSeq_nx f1 rfl, mSeq_nx f2 rfl, mSeq_nx f3 rfl, mSeq_nx f4 rfl, mSeq_nx f5 rfl, mSeq_nx f6 rfl, f7]
  have st : ([D.fz ns].map fun d => (some (d, Md.sh) : Ent)) ++ List.replicate 6 none = [some (.fz ns, .sh), none, none, none, none, none, none] := rfl
  simp only [m_law_v4, mFn, st, main]
  simp [Md.nb]
end Ve

set_option Elab.async false
set_option linter.all false
set_option maxRecDepth 100000
set_option maxHeartbeats 4000000
namespace Ve
open PySem L2 L2H
theorem ixN_lt5 {n r : Nat} {i : Int} (h : ixN n i = some r) : r < n := (ixN_seq h).2.1
theorem ixI5 {xs : List Int} {i : Int} {c : Nat} {m n : Md} (h : ixN xs.length i = some c) : oIx (dI xs, m) (.int i, n) = some (.int (xs.getD c 0), .sh) := by
  have hr := ixN_lt5 h
  simp only [oIx, dI, atI, List.length_map, h, Option.bind_some, List.getElem?_map]
  simp [hr, itMd, D.atm]
theorem ixM5 {n r : Nat} (h : r < n) : ∃ q, ixN n ((r : Int) - 1) = some q ∧ q < n := by
  unfold ixN
  by_cases h0 : r = 0
  · subst h0
    refine ⟨n - 1, ?_, by omega⟩
    rw [if_neg (by omega), if_pos (by omega)]
    congr 1
    omega
  · refine ⟨r - 1, ?_, by omega⟩
    rw [if_pos (by omega), if_pos (by omega)]
    congr 1
    omega
abbrev tV (p0 : D) (xs ys : List D) : D := .tup [p0, .lst xs, .lst ys]
abbrev mV (m0 : Md) : Md := .tp [m0, .ow .sh, .ow .sh]
theorem dV_tV {C : Cs} {R S : List Int} : dV C R S = tV (dC C) (R.map .int) (S.map .int) := rfl
section
variable {i : Nat} {me mj mk : ME} {ss : SS} {p0 o : D} {xs ys : List D} {m0 m2 m3 : Md} {k : Int} {kn : Nat}
theorem plc_1 {mj : ME} {ss : SS} (hs : ss[i]? = some (some (tV p0 xs ys, mV m0))) (hn : nbB ss = true) (e : mj ss = some (.ok (.int 1, m2), ss)) : mPlc i mj ss = some (1, ss) := by
  have hx : ixN 3 1 = some 1 := rfl
  simp [mPlc, tupOf, partOf, hs, e, intOf, hx, hn]
theorem plc_2 {mj : ME} {ss : SS} (hs : ss[i]? = some (some (tV p0 xs ys, mV m0))) (hn : nbB ss = true) (e : mj ss = some (.ok (.int 2, m2), ss)) : mPlc i mj ss = some (2, ss) := by
  have hx : ixN 3 2 = some 2 := rfl
  simp [mPlc, tupOf, partOf, hs, e, intOf, hx, hn]
theorem stP1 (hs : ss[i]? = some (some (tV p0 xs ys, mV m0))) (hn : nbB ss = true) (e1 : me ss = some (.ok (o, .sh), ss)) (e2 : mj ss = some (.ok (.int 1, m2), ss)) (e3 : mk ss = some (.ok (.int k, m3), ss)) (hk : ixN xs.length k = some kn) :
    mStP i me mj mk ss = some (.nx (ss.set i (some (tV p0 (xs.set kn o) ys, mV m0)))) := by
  have pl := plc_1 hs hn e2
  simp only [mStP, e1, pl, Option.bind_some, e3, intOf]
  simp [partOf, setPart, tupOf, hs, hk, Md.beq, isSh, hn]
theorem stP2 (hs : ss[i]? = some (some (tV p0 xs ys, mV m0))) (hn : nbB ss = true) (e1 : me ss = some (.ok (o, .sh), ss)) (e2 : mj ss = some (.ok (.int 2, m2), ss)) (e3 : mk ss = some (.ok (.int k, m3), ss)) (hk : ixN ys.length k = some kn) :
    mStP i me mj mk ss = some (.nx (ss.set i (some (tV p0 xs (ys.set kn o), mV m0)))) := by
  have pl := plc_2 hs hn e2
  simp only [mStP, e1, pl, Option.bind_some, e3, intOf]
  simp [partOf, setPart, tupOf, hs, hk, Md.beq, isSh, hn]
end
theorem atm_tV {p0 : D} {xs ys : List D} : (tV p0 xs ys).atm = false := by simp [D.atm, D.atms]
theorem ixV1 {p0 : D} {xs ys : List D} {n : Md} : oIx (tV p0 xs ys, .bw) (.int 1, n) = some (.lst xs, .bw) := by simp [oIx, atI_nat', itMd, D.atm, isSh]
theorem ixV2 {p0 : D} {xs ys : List D} {n : Md} : oIx (tV p0 xs ys, .bw) (.int 2, n) = some (.lst ys, .bw) := by simp [oIx, atI_nat', itMd, D.atm, isSh]
theorem ixLI {xs : List Int} {k : Int} {kn : Nat} {m n : Md} (h : ixN xs.length k = some kn) : oIx (.lst (xs.map .int), m) (.int k, n) = some (.int (xs.getD kn 0), .sh) := ixI5 h
theorem set_int {xs : List Int} {k : Nat} {v : Int} : (xs.map D.int).set k (.int v) = (xs.set k v).map D.int := by rw [List.map_set]
abbrev uS (C : Cs) (R S : List Int) (way r c more : Int) (x5 x6 x7 : Ent) : SS := [some (dV C R S, mV (.ow (.ow .sh))), some (.int way, .sh), some (.int r, .sh), some (.int c, .sh), some (.int more, .sh), x5, x6, x7]
theorem uS_nb {C : Cs} {R S : List Int} {way r c more : Int} {x5 x6 x7 : Ent} (h5 : Ent.nb x5 = true) (h6 : Ent.nb x6 = true) (h7 : Ent.nb x7 = true) : nbB (uS C R S way r c more x5 x6 x7) = true := by
  simp [nbB_cons, nb_some, Md.nb, Md.nbs, h5, h6, h7, nbB_nil]
theorem mSeq_rt5 {m n : MS} {ss s : SS} {v : Dm} (h : m ss = some (.rt v s)) : mSeq m n ss = some (.rt v s) := by simp [mSeq, h]
theorem law_sums5_ok {C : Cs} {R S : List Int} {way more : Int} {r c : Nat} (v : Vw C R S) (hr : r < R.length) (hc : c < S.length) (hm : 0 ≤ more) : ∃ R' S', m__law_sums_v1 [(dV C R S, mV (.ow (.ow .sh))), (.int way, .sh), (.int (r : Int), .sh), (.int (c : Int), .sh), (.int more, .sh)] = some (dV C R' S', mV (.ow (.ow .sh))) := by
  have fin : ∀ (R' S' : List Int) (s : SS), b__law_sums_v1 (uS C R S way r c more none none none) = some (.rt (dV C R' S', mV (.ow (.ow .sh))) s) → ∃ R' S', m__law_sums_v1 [(dV C R S, mV (.ow (.ow .sh))), (.int way, .sh), (.int (r : Int), .sh), (.int (c : Int), .sh), (.int more, .sh)] = some (dV C R' S', mV (.ow (.ow .sh))) := fun R' S' s e => by
    refine ⟨R', S', ?_⟩
    have st : ([(dV C R S, mV (.ow (.ow .sh))), (D.int way, Md.sh), (D.int (r : Int), Md.sh), (D.int (c : Int), Md.sh), (D.int more, Md.sh)].map some : SS) ++ List.replicate 3 none = uS C R S way r c more none none none := rfl
    simp only [m__law_sums_v1, mFnM, st, e]
    simp [Md.nb, Md.nbs]
  have hm2 : more % 2 = 0 ∨ more % 2 = 1 := by omega
  have er := law_rests_ok v
  have ixr : ixN R.length (r : Int) = some r := ixN_nat hr
  have ixc : ixN S.length (c : Int) = some c := ixN_nat hc
  have a1 : ∀ R S, (dV C R S).atm = false := fun R S => atm_tV
  have a2 : ∀ xs, (dI xs).atm = false := fun _ => rfl
  have vb1 : ∀ R S n, oIx (dV C R S, .bw) (.int 1, n) = some (dI R, .bw) := fun R S n => ixV1
  have vb2 : ∀ R S n, oIx (dV C R S, .bw) (.int 2, n) = some (dI S, .bw) := fun R S n => ixV2
  have p1 : ∀ n, oIx (.lst [.int (r : Int), .int (c : Int)], .sh) (.int 0, n) = some (.int (r : Int), .sh) := fun n => oIx_sh rfl
  have p2 : ∀ n, oIx (.lst [.int (r : Int), .int (c : Int)], .sh) (.int 1, n) = some (.int (c : Int), .sh) := fun n => oIx_sh rfl
  have okr : Md.okB (.tp [.ow .sh, .ow .sh]) (.tup [dI (leftV R C), dI (belowV C S)]) = true := by
    show (Md.okB (.ow .sh) (dI (leftV R C)) && (Md.okB (.ow .sh) (dI (belowV C S)) && true)) = true
    rw [okB_dI, okB_dI]
    rfl
  have z1 : ∀ n, oIx (.tup [dI (leftV R C), dI (belowV C S)], .sh) (.int 0, n) = some (dI (leftV R C), .sh) := fun n => ix_tup (i := 0) rfl
  have z2 : ∀ n, oIx (.tup [dI (leftV R C), dI (belowV C S)], .sh) (.int 1, n) = some (dI (belowV C S), .sh) := fun n => ix_tup (i := 1) rfl
  have lL : (leftV R C).length = R.length := by simp [leftV, v.rl]
  have lB : (belowV C S).length = S.length := by simp [belowV]
  have g1 := fun m n => ixI5 (xs := leftV R C) (i := (r : Int)) (c := r) (m := m) (n := n) (by rw [lL]; exact ixr)
  have g2 := fun m n => ixI5 (xs := belowV C S) (i := (c : Int)) (c := c) (m := m) (n := n) (by rw [lB]; exact ixc)
  rcases hm2 with h2 | h2
  · have f1 : s__law_sums_v1_1 (uS C R S way r c more none none none) = some (.nx (uS C R S way r c more (some (.int 1, .sh)) none none)) := by simp [mFn, mSeq, mSet, mRet, mDrop, mIf, mNext, mPass, sE, sT, putM, keepD, bnd, ret, lft, mC, mVar, mMov, mFrz, mSh, mOp2, mOp1, mOpN, mNil, mCons, mTst, mAnd, mOr, mNot, mAndV, mOrV, mNotV, mIfE, mYes_ap, mONo, mOSome, mCall, back, backO, backE, isSh, nbB_cons, nbB_nil, nb_none, nb_some, Md.nb, Md.nbs, Md.beq, Md.beqs, D.atm, D.atms, oI, oAdd, oSub, oMul, oDiv, oMod, oPow, oLt, oLe, oGt, oGe, oNeg, oIx, oLen, intOf, mChain, mLst, mTup, mgN, forT, compT, wipeS, itMd, elSh, D.isN, oIsN, oNotN, Md.okB, Md.okBs, lim1, lim2, lim3, lim4, lim0', s__law_sums_v1_1, h2]
    have f2 : s__law_sums_v1_2 (uS C R S way r c more (some (.int 1, .sh)) none none) = some (.nx (uS C R S way r c more (some (.int 1, .sh)) (some (.int (r : Int), .sh)) none)) := by simp [mFn, mSeq, mSet, mRet, mDrop, mIf, mNext, mPass, sE, sT, putM, keepD, bnd, ret, lft, mC, mVar, mMov, mFrz, mSh, mOp2, mOp1, mOpN, mNil, mCons, mTst, mAnd, mOr, mNot, mAndV, mOrV, mNotV, mIfE, mYes_ap, mONo, mOSome, mCall, back, backO, backE, isSh, nbB_cons, nbB_nil, nb_none, nb_some, Md.nb, Md.nbs, Md.beq, Md.beqs, D.atm, D.atms, oI, oAdd, oSub, oMul, oDiv, oMod, oPow, oLt, oLe, oGt, oGe, oNeg, oLen, intOf, mChain, mLst, mTup, mgN, forT, compT, wipeS, itMd, elSh, D.isN, oIsN, oNotN, Md.okB, Md.okBs, lim1, lim2, lim3, lim4, lim0', s__law_sums_v1_2, p1]
    by_cases hw : way = 4
    · subst hw
      obtain ⟨q, eq, hq⟩ := ixM5 hr
      let t := (leftV R C).getD r 0
      let R1 := R.set r (R.getD r 0 - t - 1)
      let R2 := R1.set q (R1.getD q 0 + t + 1)
      have c1 : mTst (mOp2 oEq (mVar 1) (mC (.int 4))) (uS C R S 4 r c more (some (.int 1, .sh)) (some (.int (r : Int), .sh)) none) = some (.ok true, uS C R S 4 r c more (some (.int 1, .sh)) (some (.int (r : Int), .sh)) none) := by simp [mFn, mSeq, mSet, mRet, mDrop, mIf, mNext, mPass, sE, sT, putM, keepD, bnd, ret, lft, mC, mVar, mMov, mFrz, mSh, mOp2, mOp1, mOpN, mNil, mCons, mTst, mAnd, mOr, mNot, mAndV, mOrV, mNotV, mIfE, mYes_ap, mONo, mOSome, mCall, back, backO, backE, isSh, nbB_cons, nbB_nil, nb_none, nb_some, Md.nb, Md.nbs, Md.beq, Md.beqs, D.atm, D.atms, oI, oAdd, oSub, oMul, oDiv, oMod, oPow, oLt, oLe, oGt, oGe, oNeg, oIx, oLen, intOf, mChain, mLst, mTup, mgN, forT, compT, wipeS, itMd, elSh, D.isN, oIsN, oNotN, Md.okB, Md.okBs, lim1, lim2, lim3, lim4, lim0', oEq_int]
      have k1 : mSet 7 (mOp2 oIx (mOp2 oIx (mSh (mCall 1 m__law_rests_v1 (mCons (mVar 0) mNil))) (mOp2 oSub (mVar 5) (mC (.int 1)))) (mVar 6)) (uS C R S 4 r c more (some (.int 1, .sh)) (some (.int (r : Int), .sh)) none) = some (.nx (uS C R S 4 r c more (some (.int 1, .sh)) (some (.int (r : Int), .sh)) (some (.int t, .sh)))) := by
        have a1' := a1 R S
        simp only [uS]
        generalize hL : leftV R C = L at *
        generalize hB : belowV C S = Bw at *
        generalize dV C R S = V at *
        simp [mFn, mSeq, mSet, mRet, mDrop, mIf, mNext, mPass, sE, sT, putM, keepD, bnd, ret, lft, mC, mVar, mMov, mFrz, mSh, mOp2, mOp1, mOpN, mNil, mCons, mTst, mAnd, mOr, mNot, mAndV, mOrV, mNotV, mIfE, mYes_ap, mONo, mOSome, mCall, back, backO, backE, isSh, nbB_cons, nbB_nil, nb_none, nb_some, Md.nb, Md.nbs, Md.beq, Md.beqs, D.atm, D.atms, oI, oAdd, oSub, oMul, oDiv, oMod, oPow, oLt, oLe, oGt, oGe, oNeg, oLen, intOf, mChain, mLst, mTup, mgN, forT, compT, wipeS, itMd, elSh, D.isN, oIsN, oNotN, lim1, lim2, lim3, lim4, lim0', er, a1', okr, z1, g1]
        try simp [t, hL]
      have k2 : mStP 0 (mOp2 oSub (mOp2 oSub (mOp2 oIx (mOp2 oIx (mVar 0) (mVar 5)) (mVar 6)) (mVar 7)) (mC (.int 1))) (mVar 5) (mVar 6) (uS C R S 4 r c more (some (.int 1, .sh)) (some (.int (r : Int), .sh)) (some (.int t, .sh))) = some (.nx (uS C R1 S 4 r c more (some (.int 1, .sh)) (some (.int (r : Int), .sh)) (some (.int t, .sh)))) := by
        have g3 := fun m n => ixI5 (xs := R) (i := (r : Int)) (c := r) (m := m) (n := n) ixr
        have a1' := a1 R S
        have vb1' := vb1 R S
        have := stP1 (i := 0) (me := mOp2 oSub (mOp2 oSub (mOp2 oIx (mOp2 oIx (mVar 0) (mVar 5)) (mVar 6)) (mVar 7)) (mC (.int 1))) (mj := mVar 5) (mk := mVar 6) (ss := uS C R S 4 r c more (some (.int 1, .sh)) (some (.int (r : Int), .sh)) (some (.int t, .sh))) (p0 := dC C) (o := .int (R.getD r 0 - t - 1)) (xs := R.map .int) (ys := S.map .int) (m0 := .ow (.ow .sh)) (m2 := .sh) (m3 := .sh) (k := r) (kn := r) rfl (uS_nb rfl rfl rfl)
          (by
            simp only [uS]
            generalize dV C R S = V at *
            generalize R.getD r 0 = y at *
            simp [mFn, mSeq, mSet, mRet, mDrop, mIf, mNext, mPass, sE, sT, putM, keepD, bnd, ret, lft, mC, mVar, mMov, mFrz, mSh, mOp2, mOp1, mOpN, mNil, mCons, mTst, mAnd, mOr, mNot, mAndV, mOrV, mNotV, mIfE, mYes_ap, mONo, mOSome, mCall, back, backO, backE, isSh, nbB_cons, nbB_nil, nb_none, nb_some, Md.nb, Md.nbs, Md.beq, Md.beqs, D.atm, D.atms, oI, oAdd, oSub, oMul, oDiv, oMod, oPow, oLt, oLe, oGt, oGe, oNeg, oLen, intOf, mChain, mLst, mTup, mgN, forT, compT, wipeS, itMd, elSh, D.isN, oIsN, oNotN, Md.okB, Md.okBs, lim1, lim2, lim3, lim4, lim0', uS, a1', vb1', g3]) (by simp [mFn, mSeq, mSet, mRet, mDrop, mIf, mNext, mPass, sE, sT, putM, keepD, bnd, ret, lft, mC, mVar, mMov, mFrz, mSh, mOp2, mOp1, mOpN, mNil, mCons, mTst, mAnd, mOr, mNot, mAndV, mOrV, mNotV, mIfE, mYes_ap, mONo, mOSome, mCall, back, backO, backE, isSh, nbB_cons, nbB_nil, nb_none, nb_some, Md.nb, Md.nbs, Md.beq, Md.beqs, D.atm, D.atms, oI, oAdd, oSub, oMul, oDiv, oMod, oPow, oLt, oLe, oGt, oGe, oNeg, oIx, oLen, intOf, mChain, mLst, mTup, mgN, forT, compT, wipeS, itMd, elSh, D.isN, oIsN, oNotN, Md.okB, Md.okBs, lim1, lim2, lim3, lim4, lim0', uS]) (by simp [mFn, mSeq, mSet, mRet, mDrop, mIf, mNext, mPass, sE, sT, putM, keepD, bnd, ret, lft, mC, mVar, mMov, mFrz, mSh, mOp2, mOp1, mOpN, mNil, mCons, mTst, mAnd, mOr, mNot, mAndV, mOrV, mNotV, mIfE, mYes_ap, mONo, mOSome, mCall, back, backO, backE, isSh, nbB_cons, nbB_nil, nb_none, nb_some, Md.nb, Md.nbs, Md.beq, Md.beqs, D.atm, D.atms, oI, oAdd, oSub, oMul, oDiv, oMod, oPow, oLt, oLe, oGt, oGe, oNeg, oIx, oLen, intOf, mChain, mLst, mTup, mgN, forT, compT, wipeS, itMd, elSh, D.isN, oIsN, oNotN, Md.okB, Md.okBs, lim1, lim2, lim3, lim4, lim0', uS]) (by rw [List.length_map]; exact ixr)
        rw [this, set_int]
        rfl
      have k3 : mStP 0 (mOp2 oAdd (mOp2 oAdd (mOp2 oIx (mOp2 oIx (mVar 0) (mVar 5)) (mOp2 oSub (mVar 6) (mC (.int 1)))) (mVar 7)) (mC (.int 1))) (mVar 5) (mOp2 oSub (mVar 6) (mC (.int 1))) (uS C R1 S 4 r c more (some (.int 1, .sh)) (some (.int (r : Int), .sh)) (some (.int t, .sh))) = some (.nx (uS C R2 S 4 r c more (some (.int 1, .sh)) (some (.int (r : Int), .sh)) (some (.int t, .sh)))) := by
        have l1 : R1.length = R.length := by simp [R1]
        have ixq : ixN R1.length ((r : Int) - 1) = some q := by rw [l1]; exact eq
        have g3 := fun m n => ixI5 (xs := R1) (i := (r : Int) - 1) (c := q) (m := m) (n := n) ixq
        have a1' := a1 R1 S
        have vb1' := vb1 R1 S
        have hR2 : R2 = R1.set q (R1.getD q 0 + t + 1) := rfl
        rw [hR2]
        generalize R1 = Rx at *
        have := stP1 (i := 0) (me := mOp2 oAdd (mOp2 oAdd (mOp2 oIx (mOp2 oIx (mVar 0) (mVar 5)) (mOp2 oSub (mVar 6) (mC (.int 1)))) (mVar 7)) (mC (.int 1))) (mj := mVar 5) (mk := mOp2 oSub (mVar 6) (mC (.int 1))) (ss := uS C Rx S 4 r c more (some (.int 1, .sh)) (some (.int (r : Int), .sh)) (some (.int t, .sh))) (p0 := dC C) (o := .int (Rx.getD q 0 + t + 1)) (xs := Rx.map .int) (ys := S.map .int) (m0 := .ow (.ow .sh)) (m2 := .sh) (m3 := .sh) (k := (r : Int) - 1) (kn := q) rfl (uS_nb rfl rfl rfl)
          (by
            simp only [uS]
            generalize dV C Rx S = V at *
            generalize Rx.getD q 0 = y at *
            simp [mFn, mSeq, mSet, mRet, mDrop, mIf, mNext, mPass, sE, sT, putM, keepD, bnd, ret, lft, mC, mVar, mMov, mFrz, mSh, mOp2, mOp1, mOpN, mNil, mCons, mTst, mAnd, mOr, mNot, mAndV, mOrV, mNotV, mIfE, mYes_ap, mONo, mOSome, mCall, back, backO, backE, isSh, nbB_cons, nbB_nil, nb_none, nb_some, Md.nb, Md.nbs, Md.beq, Md.beqs, D.atm, D.atms, oI, oAdd, oSub, oMul, oDiv, oMod, oPow, oLt, oLe, oGt, oGe, oNeg, oLen, intOf, mChain, mLst, mTup, mgN, forT, compT, wipeS, itMd, elSh, D.isN, oIsN, oNotN, Md.okB, Md.okBs, lim1, lim2, lim3, lim4, lim0', uS, a1', vb1', g3]) (by simp [mFn, mSeq, mSet, mRet, mDrop, mIf, mNext, mPass, sE, sT, putM, keepD, bnd, ret, lft, mC, mVar, mMov, mFrz, mSh, mOp2, mOp1, mOpN, mNil, mCons, mTst, mAnd, mOr, mNot, mAndV, mOrV, mNotV, mIfE, mYes_ap, mONo, mOSome, mCall, back, backO, backE, isSh, nbB_cons, nbB_nil, nb_none, nb_some, Md.nb, Md.nbs, Md.beq, Md.beqs, D.atm, D.atms, oI, oAdd, oSub, oMul, oDiv, oMod, oPow, oLt, oLe, oGt, oGe, oNeg, oIx, oLen, intOf, mChain, mLst, mTup, mgN, forT, compT, wipeS, itMd, elSh, D.isN, oIsN, oNotN, Md.okB, Md.okBs, lim1, lim2, lim3, lim4, lim0', uS]) (by simp [mFn, mSeq, mSet, mRet, mDrop, mIf, mNext, mPass, sE, sT, putM, keepD, bnd, ret, lft, mC, mVar, mMov, mFrz, mSh, mOp2, mOp1, mOpN, mNil, mCons, mTst, mAnd, mOr, mNot, mAndV, mOrV, mNotV, mIfE, mYes_ap, mONo, mOSome, mCall, back, backO, backE, isSh, nbB_cons, nbB_nil, nb_none, nb_some, Md.nb, Md.nbs, Md.beq, Md.beqs, D.atm, D.atms, oI, oAdd, oSub, oMul, oDiv, oMod, oPow, oLt, oLe, oGt, oGe, oNeg, oIx, oLen, intOf, mChain, mLst, mTup, mgN, forT, compT, wipeS, itMd, elSh, D.isN, oIsN, oNotN, Md.okB, Md.okBs, lim1, lim2, lim3, lim4, lim0', uS]) (by rw [List.length_map]; exact ixq)
        rw [this, set_int]
        rfl
      refine fin R2 S [none, some (.int 4, .sh), some (.int (r : Int), .sh), some (.int (c : Int), .sh), some (.int more, .sh), some (.int 1, .sh), some (.int (r : Int), .sh), some (.int t, .sh)] ?_
      unfold b__law_sums_v1
      rw [mSeq_nx f1 (uS_nb rfl rfl rfl), mSeq_nx f2 (uS_nb rfl rfl rfl)]
      refine mSeq_rt5 ?_
      unfold s__law_sums_v1_3
      rw [mIf_t c1 (uS_nb rfl rfl rfl), mSeq_nx k1 (uS_nb rfl rfl rfl), mSeq_nx k2 (uS_nb rfl rfl rfl), mSeq_nx k3 (uS_nb rfl rfl rfl)]
      simp [mFn, mSeq, mSet, mRet, mDrop, mIf, mNext, mPass, sE, sT, putM, keepD, bnd, ret, lft, mC, mVar, mMov, mFrz, mSh, mOp2, mOp1, mOpN, mNil, mCons, mTst, mAnd, mOr, mNot, mAndV, mOrV, mNotV, mIfE, mYes_ap, mONo, mOSome, mCall, back, backO, backE, isSh, nbB_cons, nbB_nil, nb_none, nb_some, Md.nb, Md.nbs, Md.beq, Md.beqs, D.atm, D.atms, oI, oAdd, oSub, oMul, oDiv, oMod, oPow, oLt, oLe, oGt, oGe, oNeg, oIx, oLen, intOf, mChain, mLst, mTup, mgN, forT, compT, wipeS, itMd, elSh, D.isN, oIsN, oNotN, Md.okB, Md.okBs, lim1, lim2, lim3, lim4, lim0', uS]
    · let R1 := R.set r (R.getD r 0 + more)
      have hb0 := uS_nb (C := C) (R := R) (S := S) (way := way) (r := r) (c := c) (more := more) (x5 := some (.int 1, .sh)) (x6 := some (.int (r : Int), .sh)) (x7 := none) rfl rfl rfl
      have f3 : s__law_sums_v1_3 (uS C R S way r c more (some (.int 1, .sh)) (some (.int (r : Int), .sh)) none) = some (.nx (uS C R S way r c more (some (.int 1, .sh)) (some (.int (r : Int), .sh)) none)) := by
        have c1 : mTst (mOp2 oEq (mVar 1) (mC (.int 4))) (uS C R S way r c more (some (.int 1, .sh)) (some (.int (r : Int), .sh)) none) = some (.ok false, uS C R S way r c more (some (.int 1, .sh)) (some (.int (r : Int), .sh)) none) := by simp [mFn, mSeq, mSet, mRet, mDrop, mIf, mNext, mPass, sE, sT, putM, keepD, bnd, ret, lft, mC, mVar, mMov, mFrz, mSh, mOp2, mOp1, mOpN, mNil, mCons, mTst, mAnd, mOr, mNot, mAndV, mOrV, mNotV, mIfE, mYes_ap, mONo, mOSome, mCall, back, backO, backE, isSh, nbB_cons, nbB_nil, nb_none, nb_some, Md.nb, Md.nbs, Md.beq, Md.beqs, D.atm, D.atms, oI, oAdd, oSub, oMul, oDiv, oMod, oPow, oLt, oLe, oGt, oGe, oNeg, oIx, oLen, intOf, mChain, mLst, mTup, mgN, forT, compT, wipeS, itMd, elSh, D.isN, oIsN, oNotN, Md.okB, Md.okBs, lim1, lim2, lim3, lim4, lim0', oEq_int, hw]
        unfold s__law_sums_v1_3
        rw [mIf_f c1 hb0]
        rfl
      have f4 : s__law_sums_v1_4 (uS C R S way r c more (some (.int 1, .sh)) (some (.int (r : Int), .sh)) none) = some (.nx (uS C R1 S way r c more (some (.int 1, .sh)) (some (.int (r : Int), .sh)) none)) := by
        have g3 := fun m n => ixI5 (xs := R) (i := (r : Int)) (c := r) (m := m) (n := n) ixr
        have a1' := a1 R S
        have vb1' := vb1 R S
        have := stP1 (i := 0) (me := mOp2 oAdd (mOp2 oIx (mOp2 oIx (mVar 0) (mVar 5)) (mVar 6)) (mVar 4)) (mj := mVar 5) (mk := mVar 6) (ss := uS C R S way r c more (some (.int 1, .sh)) (some (.int (r : Int), .sh)) none) (p0 := dC C) (o := .int (R.getD r 0 + more)) (xs := R.map .int) (ys := S.map .int) (m0 := .ow (.ow .sh)) (m2 := .sh) (m3 := .sh) (k := r) (kn := r) rfl hb0
          (by
            simp only [uS]
            generalize dV C R S = V at *
            generalize R.getD r 0 = y at *
            simp [mFn, mSeq, mSet, mRet, mDrop, mIf, mNext, mPass, sE, sT, putM, keepD, bnd, ret, lft, mC, mVar, mMov, mFrz, mSh, mOp2, mOp1, mOpN, mNil, mCons, mTst, mAnd, mOr, mNot, mAndV, mOrV, mNotV, mIfE, mYes_ap, mONo, mOSome, mCall, back, backO, backE, isSh, nbB_cons, nbB_nil, nb_none, nb_some, Md.nb, Md.nbs, Md.beq, Md.beqs, D.atm, D.atms, oI, oAdd, oSub, oMul, oDiv, oMod, oPow, oLt, oLe, oGt, oGe, oNeg, oLen, intOf, mChain, mLst, mTup, mgN, forT, compT, wipeS, itMd, elSh, D.isN, oIsN, oNotN, Md.okB, Md.okBs, lim1, lim2, lim3, lim4, lim0', uS, a1', vb1', g3]) (by simp [mFn, mSeq, mSet, mRet, mDrop, mIf, mNext, mPass, sE, sT, putM, keepD, bnd, ret, lft, mC, mVar, mMov, mFrz, mSh, mOp2, mOp1, mOpN, mNil, mCons, mTst, mAnd, mOr, mNot, mAndV, mOrV, mNotV, mIfE, mYes_ap, mONo, mOSome, mCall, back, backO, backE, isSh, nbB_cons, nbB_nil, nb_none, nb_some, Md.nb, Md.nbs, Md.beq, Md.beqs, D.atm, D.atms, oI, oAdd, oSub, oMul, oDiv, oMod, oPow, oLt, oLe, oGt, oGe, oNeg, oIx, oLen, intOf, mChain, mLst, mTup, mgN, forT, compT, wipeS, itMd, elSh, D.isN, oIsN, oNotN, Md.okB, Md.okBs, lim1, lim2, lim3, lim4, lim0', uS]) (by simp [mFn, mSeq, mSet, mRet, mDrop, mIf, mNext, mPass, sE, sT, putM, keepD, bnd, ret, lft, mC, mVar, mMov, mFrz, mSh, mOp2, mOp1, mOpN, mNil, mCons, mTst, mAnd, mOr, mNot, mAndV, mOrV, mNotV, mIfE, mYes_ap, mONo, mOSome, mCall, back, backO, backE, isSh, nbB_cons, nbB_nil, nb_none, nb_some, Md.nb, Md.nbs, Md.beq, Md.beqs, D.atm, D.atms, oI, oAdd, oSub, oMul, oDiv, oMod, oPow, oLt, oLe, oGt, oGe, oNeg, oIx, oLen, intOf, mChain, mLst, mTup, mgN, forT, compT, wipeS, itMd, elSh, D.isN, oIsN, oNotN, Md.okB, Md.okBs, lim1, lim2, lim3, lim4, lim0', uS]) (by rw [List.length_map]; exact ixr)
        unfold s__law_sums_v1_4
        rw [this, set_int]
        rfl
      have hb1 := uS_nb (C := C) (R := R1) (S := S) (way := way) (r := r) (c := c) (more := more) (x5 := some (.int 1, .sh)) (x6 := some (.int (r : Int), .sh)) (x7 := none) rfl rfl rfl
      by_cases h5 : way = 5
      · subst h5
        let S1 := S.set c (S.getD c 0 + more)
        have c1 : mTst (mOp2 oEq (mVar 1) (mC (.int 5))) (uS C R1 S 5 r c more (some (.int 1, .sh)) (some (.int (r : Int), .sh)) none) = some (.ok true, uS C R1 S 5 r c more (some (.int 1, .sh)) (some (.int (r : Int), .sh)) none) := by simp [mFn, mSeq, mSet, mRet, mDrop, mIf, mNext, mPass, sE, sT, putM, keepD, bnd, ret, lft, mC, mVar, mMov, mFrz, mSh, mOp2, mOp1, mOpN, mNil, mCons, mTst, mAnd, mOr, mNot, mAndV, mOrV, mNotV, mIfE, mYes_ap, mONo, mOSome, mCall, back, backO, backE, isSh, nbB_cons, nbB_nil, nb_none, nb_some, Md.nb, Md.nbs, Md.beq, Md.beqs, D.atm, D.atms, oI, oAdd, oSub, oMul, oDiv, oMod, oPow, oLt, oLe, oGt, oGe, oNeg, oIx, oLen, intOf, mChain, mLst, mTup, mgN, forT, compT, wipeS, itMd, elSh, D.isN, oIsN, oNotN, Md.okB, Md.okBs, lim1, lim2, lim3, lim4, lim0', oEq_int]
        have f5 : s__law_sums_v1_5 (uS C R1 S 5 r c more (some (.int 1, .sh)) (some (.int (r : Int), .sh)) none) = some (.nx (uS C R1 S1 5 r c more (some (.int 1, .sh)) (some (.int (r : Int), .sh)) none)) := by
          have g3 := fun m n => ixI5 (xs := S) (i := (c : Int)) (c := c) (m := m) (n := n) ixc
          have a1' := a1 R1 S
          have vb2' := vb2 R1 S
          unfold s__law_sums_v1_5
          rw [mIf_t c1 hb1]
          have := stP2 (i := 0) (me := mOp2 oAdd (mOp2 oIx (mOp2 oIx (mVar 0) (mOp2 oSub (mC (.int 3)) (mVar 5))) (mOp2 oIx (mSh (mLst .sh (mCons (mVar 2) (mCons (mVar 3) mNil)))) (mOp2 oSub (mC (.int 2)) (mVar 5)))) (mVar 4)) (mj := mOp2 oSub (mC (.int 3)) (mVar 5)) (mk := mOp2 oIx (mSh (mLst .sh (mCons (mVar 2) (mCons (mVar 3) mNil)))) (mOp2 oSub (mC (.int 2)) (mVar 5))) (ss := uS C R1 S 5 r c more (some (.int 1, .sh)) (some (.int (r : Int), .sh)) none) (p0 := dC C) (o := .int (S.getD c 0 + more)) (xs := R1.map .int) (ys := S.map .int) (m0 := .ow (.ow .sh)) (m2 := .sh) (m3 := .sh) (k := c) (kn := c) rfl hb1
            (by
              simp only [uS]
              generalize dV C R1 S = V at *
              generalize S.getD c 0 = y at *
              simp [mFn, mSeq, mSet, mRet, mDrop, mIf, mNext, mPass, sE, sT, putM, keepD, bnd, ret, lft, mC, mVar, mMov, mFrz, mSh, mOp2, mOp1, mOpN, mNil, mCons, mTst, mAnd, mOr, mNot, mAndV, mOrV, mNotV, mIfE, mYes_ap, mONo, mOSome, mCall, back, backO, backE, isSh, nbB_cons, nbB_nil, nb_none, nb_some, Md.nb, Md.nbs, Md.beq, Md.beqs, D.atm, D.atms, oI, oAdd, oSub, oMul, oDiv, oMod, oPow, oLt, oLe, oGt, oGe, oNeg, oLen, intOf, mChain, mLst, mTup, mgN, forT, compT, wipeS, itMd, elSh, D.isN, oIsN, oNotN, Md.okB, Md.okBs, lim1, lim2, lim3, lim4, lim0', uS, a1', vb2', g3, p2]) (by simp [mFn, mSeq, mSet, mRet, mDrop, mIf, mNext, mPass, sE, sT, putM, keepD, bnd, ret, lft, mC, mVar, mMov, mFrz, mSh, mOp2, mOp1, mOpN, mNil, mCons, mTst, mAnd, mOr, mNot, mAndV, mOrV, mNotV, mIfE, mYes_ap, mONo, mOSome, mCall, back, backO, backE, isSh, nbB_cons, nbB_nil, nb_none, nb_some, Md.nb, Md.nbs, Md.beq, Md.beqs, D.atm, D.atms, oI, oAdd, oSub, oMul, oDiv, oMod, oPow, oLt, oLe, oGt, oGe, oNeg, oIx, oLen, intOf, mChain, mLst, mTup, mgN, forT, compT, wipeS, itMd, elSh, D.isN, oIsN, oNotN, Md.okB, Md.okBs, lim1, lim2, lim3, lim4, lim0', uS]) (by simp [mFn, mSeq, mSet, mRet, mDrop, mIf, mNext, mPass, sE, sT, putM, keepD, bnd, ret, lft, mC, mVar, mMov, mFrz, mSh, mOp2, mOp1, mOpN, mNil, mCons, mTst, mAnd, mOr, mNot, mAndV, mOrV, mNotV, mIfE, mYes_ap, mONo, mOSome, mCall, back, backO, backE, isSh, nbB_cons, nbB_nil, nb_none, nb_some, Md.nb, Md.nbs, Md.beq, Md.beqs, D.atm, D.atms, oI, oAdd, oSub, oMul, oDiv, oMod, oPow, oLt, oLe, oGt, oGe, oNeg, oLen, intOf, mChain, mLst, mTup, mgN, forT, compT, wipeS, itMd, elSh, D.isN, oIsN, oNotN, Md.okB, Md.okBs, lim1, lim2, lim3, lim4, lim0', uS, p2]) (by rw [List.length_map]; exact ixc)
          rw [this, set_int]
          rfl
        refine fin R1 S1 [none, some (.int 5, .sh), some (.int (r : Int), .sh), some (.int (c : Int), .sh), some (.int more, .sh), some (.int 1, .sh), some (.int (r : Int), .sh), none] ?_
        unfold b__law_sums_v1
        rw [mSeq_nx f1 (uS_nb rfl rfl rfl), mSeq_nx f2 hb0, mSeq_nx f3 hb0, mSeq_nx f4 hb1, mSeq_nx f5 (uS_nb rfl rfl rfl)]
        simp [mFn, mSeq, mSet, mRet, mDrop, mIf, mNext, mPass, sE, sT, putM, keepD, bnd, ret, lft, mC, mVar, mMov, mFrz, mSh, mOp2, mOp1, mOpN, mNil, mCons, mTst, mAnd, mOr, mNot, mAndV, mOrV, mNotV, mIfE, mYes_ap, mONo, mOSome, mCall, back, backO, backE, isSh, nbB_cons, nbB_nil, nb_none, nb_some, Md.nb, Md.nbs, Md.beq, Md.beqs, D.atm, D.atms, oI, oAdd, oSub, oMul, oDiv, oMod, oPow, oLt, oLe, oGt, oGe, oNeg, oIx, oLen, intOf, mChain, mLst, mTup, mgN, forT, compT, wipeS, itMd, elSh, D.isN, oIsN, oNotN, Md.okB, Md.okBs, lim1, lim2, lim3, lim4, lim0', s__law_sums_v1_6, uS]
      · have f5 : s__law_sums_v1_5 (uS C R1 S way r c more (some (.int 1, .sh)) (some (.int (r : Int), .sh)) none) = some (.nx (uS C R1 S way r c more (some (.int 1, .sh)) (some (.int (r : Int), .sh)) none)) := by
          have c1 : mTst (mOp2 oEq (mVar 1) (mC (.int 5))) (uS C R1 S way r c more (some (.int 1, .sh)) (some (.int (r : Int), .sh)) none) = some (.ok false, uS C R1 S way r c more (some (.int 1, .sh)) (some (.int (r : Int), .sh)) none) := by simp [mFn, mSeq, mSet, mRet, mDrop, mIf, mNext, mPass, sE, sT, putM, keepD, bnd, ret, lft, mC, mVar, mMov, mFrz, mSh, mOp2, mOp1, mOpN, mNil, mCons, mTst, mAnd, mOr, mNot, mAndV, mOrV, mNotV, mIfE, mYes_ap, mONo, mOSome, mCall, back, backO, backE, isSh, nbB_cons, nbB_nil, nb_none, nb_some, Md.nb, Md.nbs, Md.beq, Md.beqs, D.atm, D.atms, oI, oAdd, oSub, oMul, oDiv, oMod, oPow, oLt, oLe, oGt, oGe, oNeg, oIx, oLen, intOf, mChain, mLst, mTup, mgN, forT, compT, wipeS, itMd, elSh, D.isN, oIsN, oNotN, Md.okB, Md.okBs, lim1, lim2, lim3, lim4, lim0', oEq_int, h5]
          unfold s__law_sums_v1_5
          rw [mIf_f c1 hb1]
          rfl
        refine fin R1 S [none, some (.int way, .sh), some (.int (r : Int), .sh), some (.int (c : Int), .sh), some (.int more, .sh), some (.int 1, .sh), some (.int (r : Int), .sh), none] ?_
        unfold b__law_sums_v1
        rw [mSeq_nx f1 (uS_nb rfl rfl rfl), mSeq_nx f2 hb0, mSeq_nx f3 hb0, mSeq_nx f4 hb1, mSeq_nx f5 hb1]
        simp [mFn, mSeq, mSet, mRet, mDrop, mIf, mNext, mPass, sE, sT, putM, keepD, bnd, ret, lft, mC, mVar, mMov, mFrz, mSh, mOp2, mOp1, mOpN, mNil, mCons, mTst, mAnd, mOr, mNot, mAndV, mOrV, mNotV, mIfE, mYes_ap, mONo, mOSome, mCall, back, backO, backE, isSh, nbB_cons, nbB_nil, nb_none, nb_some, Md.nb, Md.nbs, Md.beq, Md.beqs, D.atm, D.atms, oI, oAdd, oSub, oMul, oDiv, oMod, oPow, oLt, oLe, oGt, oGe, oNeg, oIx, oLen, intOf, mChain, mLst, mTup, mgN, forT, compT, wipeS, itMd, elSh, D.isN, oIsN, oNotN, Md.okB, Md.okBs, lim1, lim2, lim3, lim4, lim0', s__law_sums_v1_6, uS]
  · have f1 : s__law_sums_v1_1 (uS C R S way r c more none none none) = some (.nx (uS C R S way r c more (some (.int 2, .sh)) none none)) := by simp [mFn, mSeq, mSet, mRet, mDrop, mIf, mNext, mPass, sE, sT, putM, keepD, bnd, ret, lft, mC, mVar, mMov, mFrz, mSh, mOp2, mOp1, mOpN, mNil, mCons, mTst, mAnd, mOr, mNot, mAndV, mOrV, mNotV, mIfE, mYes_ap, mONo, mOSome, mCall, back, backO, backE, isSh, nbB_cons, nbB_nil, nb_none, nb_some, Md.nb, Md.nbs, Md.beq, Md.beqs, D.atm, D.atms, oI, oAdd, oSub, oMul, oDiv, oMod, oPow, oLt, oLe, oGt, oGe, oNeg, oIx, oLen, intOf, mChain, mLst, mTup, mgN, forT, compT, wipeS, itMd, elSh, D.isN, oIsN, oNotN, Md.okB, Md.okBs, lim1, lim2, lim3, lim4, lim0', s__law_sums_v1_1, h2]
    have f2 : s__law_sums_v1_2 (uS C R S way r c more (some (.int 2, .sh)) none none) = some (.nx (uS C R S way r c more (some (.int 2, .sh)) (some (.int (c : Int), .sh)) none)) := by simp [mFn, mSeq, mSet, mRet, mDrop, mIf, mNext, mPass, sE, sT, putM, keepD, bnd, ret, lft, mC, mVar, mMov, mFrz, mSh, mOp2, mOp1, mOpN, mNil, mCons, mTst, mAnd, mOr, mNot, mAndV, mOrV, mNotV, mIfE, mYes_ap, mONo, mOSome, mCall, back, backO, backE, isSh, nbB_cons, nbB_nil, nb_none, nb_some, Md.nb, Md.nbs, Md.beq, Md.beqs, D.atm, D.atms, oI, oAdd, oSub, oMul, oDiv, oMod, oPow, oLt, oLe, oGt, oGe, oNeg, oLen, intOf, mChain, mLst, mTup, mgN, forT, compT, wipeS, itMd, elSh, D.isN, oIsN, oNotN, Md.okB, Md.okBs, lim1, lim2, lim3, lim4, lim0', s__law_sums_v1_2, p2]
    by_cases hw : way = 4
    · subst hw
      obtain ⟨q, eq, hq⟩ := ixM5 hc
      let t := (belowV C S).getD c 0
      let S1 := S.set c (S.getD c 0 - t - 1)
      let S2 := S1.set q (S1.getD q 0 + t + 1)
      have c1 : mTst (mOp2 oEq (mVar 1) (mC (.int 4))) (uS C R S 4 r c more (some (.int 2, .sh)) (some (.int (c : Int), .sh)) none) = some (.ok true, uS C R S 4 r c more (some (.int 2, .sh)) (some (.int (c : Int), .sh)) none) := by simp [mFn, mSeq, mSet, mRet, mDrop, mIf, mNext, mPass, sE, sT, putM, keepD, bnd, ret, lft, mC, mVar, mMov, mFrz, mSh, mOp2, mOp1, mOpN, mNil, mCons, mTst, mAnd, mOr, mNot, mAndV, mOrV, mNotV, mIfE, mYes_ap, mONo, mOSome, mCall, back, backO, backE, isSh, nbB_cons, nbB_nil, nb_none, nb_some, Md.nb, Md.nbs, Md.beq, Md.beqs, D.atm, D.atms, oI, oAdd, oSub, oMul, oDiv, oMod, oPow, oLt, oLe, oGt, oGe, oNeg, oIx, oLen, intOf, mChain, mLst, mTup, mgN, forT, compT, wipeS, itMd, elSh, D.isN, oIsN, oNotN, Md.okB, Md.okBs, lim1, lim2, lim3, lim4, lim0', oEq_int]
      have k1 : mSet 7 (mOp2 oIx (mOp2 oIx (mSh (mCall 1 m__law_rests_v1 (mCons (mVar 0) mNil))) (mOp2 oSub (mVar 5) (mC (.int 1)))) (mVar 6)) (uS C R S 4 r c more (some (.int 2, .sh)) (some (.int (c : Int), .sh)) none) = some (.nx (uS C R S 4 r c more (some (.int 2, .sh)) (some (.int (c : Int), .sh)) (some (.int t, .sh)))) := by
        have a1' := a1 R S
        simp only [uS]
        generalize hL : leftV R C = L at *
        generalize hB : belowV C S = Bw at *
        generalize dV C R S = V at *
        simp [mFn, mSeq, mSet, mRet, mDrop, mIf, mNext, mPass, sE, sT, putM, keepD, bnd, ret, lft, mC, mVar, mMov, mFrz, mSh, mOp2, mOp1, mOpN, mNil, mCons, mTst, mAnd, mOr, mNot, mAndV, mOrV, mNotV, mIfE, mYes_ap, mONo, mOSome, mCall, back, backO, backE, isSh, nbB_cons, nbB_nil, nb_none, nb_some, Md.nb, Md.nbs, Md.beq, Md.beqs, D.atm, D.atms, oI, oAdd, oSub, oMul, oDiv, oMod, oPow, oLt, oLe, oGt, oGe, oNeg, oLen, intOf, mChain, mLst, mTup, mgN, forT, compT, wipeS, itMd, elSh, D.isN, oIsN, oNotN, lim1, lim2, lim3, lim4, lim0', er, a1', okr, z2, g2]
        try simp [t, hB]
      have k2 : mStP 0 (mOp2 oSub (mOp2 oSub (mOp2 oIx (mOp2 oIx (mVar 0) (mVar 5)) (mVar 6)) (mVar 7)) (mC (.int 1))) (mVar 5) (mVar 6) (uS C R S 4 r c more (some (.int 2, .sh)) (some (.int (c : Int), .sh)) (some (.int t, .sh))) = some (.nx (uS C R S1 4 r c more (some (.int 2, .sh)) (some (.int (c : Int), .sh)) (some (.int t, .sh)))) := by
        have g3 := fun m n => ixI5 (xs := S) (i := (c : Int)) (c := c) (m := m) (n := n) ixc
        have a1' := a1 R S
        have vb2' := vb2 R S
        have := stP2 (i := 0) (me := mOp2 oSub (mOp2 oSub (mOp2 oIx (mOp2 oIx (mVar 0) (mVar 5)) (mVar 6)) (mVar 7)) (mC (.int 1))) (mj := mVar 5) (mk := mVar 6) (ss := uS C R S 4 r c more (some (.int 2, .sh)) (some (.int (c : Int), .sh)) (some (.int t, .sh))) (p0 := dC C) (o := .int (S.getD c 0 - t - 1)) (xs := R.map .int) (ys := S.map .int) (m0 := .ow (.ow .sh)) (m2 := .sh) (m3 := .sh) (k := c) (kn := c) rfl (uS_nb rfl rfl rfl)
          (by
            simp only [uS]
            generalize dV C R S = V at *
            generalize S.getD c 0 = y at *
            simp [mFn, mSeq, mSet, mRet, mDrop, mIf, mNext, mPass, sE, sT, putM, keepD, bnd, ret, lft, mC, mVar, mMov, mFrz, mSh, mOp2, mOp1, mOpN, mNil, mCons, mTst, mAnd, mOr, mNot, mAndV, mOrV, mNotV, mIfE, mYes_ap, mONo, mOSome, mCall, back, backO, backE, isSh, nbB_cons, nbB_nil, nb_none, nb_some, Md.nb, Md.nbs, Md.beq, Md.beqs, D.atm, D.atms, oI, oAdd, oSub, oMul, oDiv, oMod, oPow, oLt, oLe, oGt, oGe, oNeg, oLen, intOf, mChain, mLst, mTup, mgN, forT, compT, wipeS, itMd, elSh, D.isN, oIsN, oNotN, Md.okB, Md.okBs, lim1, lim2, lim3, lim4, lim0', uS, a1', vb2', g3]) (by simp [mFn, mSeq, mSet, mRet, mDrop, mIf, mNext, mPass, sE, sT, putM, keepD, bnd, ret, lft, mC, mVar, mMov, mFrz, mSh, mOp2, mOp1, mOpN, mNil, mCons, mTst, mAnd, mOr, mNot, mAndV, mOrV, mNotV, mIfE, mYes_ap, mONo, mOSome, mCall, back, backO, backE, isSh, nbB_cons, nbB_nil, nb_none, nb_some, Md.nb, Md.nbs, Md.beq, Md.beqs, D.atm, D.atms, oI, oAdd, oSub, oMul, oDiv, oMod, oPow, oLt, oLe, oGt, oGe, oNeg, oIx, oLen, intOf, mChain, mLst, mTup, mgN, forT, compT, wipeS, itMd, elSh, D.isN, oIsN, oNotN, Md.okB, Md.okBs, lim1, lim2, lim3, lim4, lim0', uS]) (by simp [mFn, mSeq, mSet, mRet, mDrop, mIf, mNext, mPass, sE, sT, putM, keepD, bnd, ret, lft, mC, mVar, mMov, mFrz, mSh, mOp2, mOp1, mOpN, mNil, mCons, mTst, mAnd, mOr, mNot, mAndV, mOrV, mNotV, mIfE, mYes_ap, mONo, mOSome, mCall, back, backO, backE, isSh, nbB_cons, nbB_nil, nb_none, nb_some, Md.nb, Md.nbs, Md.beq, Md.beqs, D.atm, D.atms, oI, oAdd, oSub, oMul, oDiv, oMod, oPow, oLt, oLe, oGt, oGe, oNeg, oIx, oLen, intOf, mChain, mLst, mTup, mgN, forT, compT, wipeS, itMd, elSh, D.isN, oIsN, oNotN, Md.okB, Md.okBs, lim1, lim2, lim3, lim4, lim0', uS]) (by rw [List.length_map]; exact ixc)
        rw [this, set_int]
        rfl
      have k3 : mStP 0 (mOp2 oAdd (mOp2 oAdd (mOp2 oIx (mOp2 oIx (mVar 0) (mVar 5)) (mOp2 oSub (mVar 6) (mC (.int 1)))) (mVar 7)) (mC (.int 1))) (mVar 5) (mOp2 oSub (mVar 6) (mC (.int 1))) (uS C R S1 4 r c more (some (.int 2, .sh)) (some (.int (c : Int), .sh)) (some (.int t, .sh))) = some (.nx (uS C R S2 4 r c more (some (.int 2, .sh)) (some (.int (c : Int), .sh)) (some (.int t, .sh)))) := by
        have l1 : S1.length = S.length := by simp [S1]
        have ixq : ixN S1.length ((c : Int) - 1) = some q := by rw [l1]; exact eq
        have g3 := fun m n => ixI5 (xs := S1) (i := (c : Int) - 1) (c := q) (m := m) (n := n) ixq
        have a1' := a1 R S1
        have vb2' := vb2 R S1
        have hR2 : S2 = S1.set q (S1.getD q 0 + t + 1) := rfl
        rw [hR2]
        generalize S1 = Sx at *
        have := stP2 (i := 0) (me := mOp2 oAdd (mOp2 oAdd (mOp2 oIx (mOp2 oIx (mVar 0) (mVar 5)) (mOp2 oSub (mVar 6) (mC (.int 1)))) (mVar 7)) (mC (.int 1))) (mj := mVar 5) (mk := mOp2 oSub (mVar 6) (mC (.int 1))) (ss := uS C R Sx 4 r c more (some (.int 2, .sh)) (some (.int (c : Int), .sh)) (some (.int t, .sh))) (p0 := dC C) (o := .int (Sx.getD q 0 + t + 1)) (xs := R.map .int) (ys := Sx.map .int) (m0 := .ow (.ow .sh)) (m2 := .sh) (m3 := .sh) (k := (c : Int) - 1) (kn := q) rfl (uS_nb rfl rfl rfl)
          (by
            simp only [uS]
            generalize dV C R Sx = V at *
            generalize Sx.getD q 0 = y at *
            simp [mFn, mSeq, mSet, mRet, mDrop, mIf, mNext, mPass, sE, sT, putM, keepD, bnd, ret, lft, mC, mVar, mMov, mFrz, mSh, mOp2, mOp1, mOpN, mNil, mCons, mTst, mAnd, mOr, mNot, mAndV, mOrV, mNotV, mIfE, mYes_ap, mONo, mOSome, mCall, back, backO, backE, isSh, nbB_cons, nbB_nil, nb_none, nb_some, Md.nb, Md.nbs, Md.beq, Md.beqs, D.atm, D.atms, oI, oAdd, oSub, oMul, oDiv, oMod, oPow, oLt, oLe, oGt, oGe, oNeg, oLen, intOf, mChain, mLst, mTup, mgN, forT, compT, wipeS, itMd, elSh, D.isN, oIsN, oNotN, Md.okB, Md.okBs, lim1, lim2, lim3, lim4, lim0', uS, a1', vb2', g3]) (by simp [mFn, mSeq, mSet, mRet, mDrop, mIf, mNext, mPass, sE, sT, putM, keepD, bnd, ret, lft, mC, mVar, mMov, mFrz, mSh, mOp2, mOp1, mOpN, mNil, mCons, mTst, mAnd, mOr, mNot, mAndV, mOrV, mNotV, mIfE, mYes_ap, mONo, mOSome, mCall, back, backO, backE, isSh, nbB_cons, nbB_nil, nb_none, nb_some, Md.nb, Md.nbs, Md.beq, Md.beqs, D.atm, D.atms, oI, oAdd, oSub, oMul, oDiv, oMod, oPow, oLt, oLe, oGt, oGe, oNeg, oIx, oLen, intOf, mChain, mLst, mTup, mgN, forT, compT, wipeS, itMd, elSh, D.isN, oIsN, oNotN, Md.okB, Md.okBs, lim1, lim2, lim3, lim4, lim0', uS]) (by simp [mFn, mSeq, mSet, mRet, mDrop, mIf, mNext, mPass, sE, sT, putM, keepD, bnd, ret, lft, mC, mVar, mMov, mFrz, mSh, mOp2, mOp1, mOpN, mNil, mCons, mTst, mAnd, mOr, mNot, mAndV, mOrV, mNotV, mIfE, mYes_ap, mONo, mOSome, mCall, back, backO, backE, isSh, nbB_cons, nbB_nil, nb_none, nb_some, Md.nb, Md.nbs, Md.beq, Md.beqs, D.atm, D.atms, oI, oAdd, oSub, oMul, oDiv, oMod, oPow, oLt, oLe, oGt, oGe, oNeg, oIx, oLen, intOf, mChain, mLst, mTup, mgN, forT, compT, wipeS, itMd, elSh, D.isN, oIsN, oNotN, Md.okB, Md.okBs, lim1, lim2, lim3, lim4, lim0', uS]) (by rw [List.length_map]; exact ixq)
        rw [this, set_int]
        rfl
      refine fin R S2 [none, some (.int 4, .sh), some (.int (r : Int), .sh), some (.int (c : Int), .sh), some (.int more, .sh), some (.int 2, .sh), some (.int (c : Int), .sh), some (.int t, .sh)] ?_
      unfold b__law_sums_v1
      rw [mSeq_nx f1 (uS_nb rfl rfl rfl), mSeq_nx f2 (uS_nb rfl rfl rfl)]
      refine mSeq_rt5 ?_
      unfold s__law_sums_v1_3
      rw [mIf_t c1 (uS_nb rfl rfl rfl), mSeq_nx k1 (uS_nb rfl rfl rfl), mSeq_nx k2 (uS_nb rfl rfl rfl), mSeq_nx k3 (uS_nb rfl rfl rfl)]
      simp [mFn, mSeq, mSet, mRet, mDrop, mIf, mNext, mPass, sE, sT, putM, keepD, bnd, ret, lft, mC, mVar, mMov, mFrz, mSh, mOp2, mOp1, mOpN, mNil, mCons, mTst, mAnd, mOr, mNot, mAndV, mOrV, mNotV, mIfE, mYes_ap, mONo, mOSome, mCall, back, backO, backE, isSh, nbB_cons, nbB_nil, nb_none, nb_some, Md.nb, Md.nbs, Md.beq, Md.beqs, D.atm, D.atms, oI, oAdd, oSub, oMul, oDiv, oMod, oPow, oLt, oLe, oGt, oGe, oNeg, oIx, oLen, intOf, mChain, mLst, mTup, mgN, forT, compT, wipeS, itMd, elSh, D.isN, oIsN, oNotN, Md.okB, Md.okBs, lim1, lim2, lim3, lim4, lim0', uS]
    · let S1 := S.set c (S.getD c 0 + more)
      have hb0 := uS_nb (C := C) (R := R) (S := S) (way := way) (r := r) (c := c) (more := more) (x5 := some (.int 2, .sh)) (x6 := some (.int (c : Int), .sh)) (x7 := none) rfl rfl rfl
      have f3 : s__law_sums_v1_3 (uS C R S way r c more (some (.int 2, .sh)) (some (.int (c : Int), .sh)) none) = some (.nx (uS C R S way r c more (some (.int 2, .sh)) (some (.int (c : Int), .sh)) none)) := by
        have c1 : mTst (mOp2 oEq (mVar 1) (mC (.int 4))) (uS C R S way r c more (some (.int 2, .sh)) (some (.int (c : Int), .sh)) none) = some (.ok false, uS C R S way r c more (some (.int 2, .sh)) (some (.int (c : Int), .sh)) none) := by simp [mFn, mSeq, mSet, mRet, mDrop, mIf, mNext, mPass, sE, sT, putM, keepD, bnd, ret, lft, mC, mVar, mMov, mFrz, mSh, mOp2, mOp1, mOpN, mNil, mCons, mTst, mAnd, mOr, mNot, mAndV, mOrV, mNotV, mIfE, mYes_ap, mONo, mOSome, mCall, back, backO, backE, isSh, nbB_cons, nbB_nil, nb_none, nb_some, Md.nb, Md.nbs, Md.beq, Md.beqs, D.atm, D.atms, oI, oAdd, oSub, oMul, oDiv, oMod, oPow, oLt, oLe, oGt, oGe, oNeg, oIx, oLen, intOf, mChain, mLst, mTup, mgN, forT, compT, wipeS, itMd, elSh, D.isN, oIsN, oNotN, Md.okB, Md.okBs, lim1, lim2, lim3, lim4, lim0', oEq_int, hw]
        unfold s__law_sums_v1_3
        rw [mIf_f c1 hb0]
        rfl
      have f4 : s__law_sums_v1_4 (uS C R S way r c more (some (.int 2, .sh)) (some (.int (c : Int), .sh)) none) = some (.nx (uS C R S1 way r c more (some (.int 2, .sh)) (some (.int (c : Int), .sh)) none)) := by
        have g3 := fun m n => ixI5 (xs := S) (i := (c : Int)) (c := c) (m := m) (n := n) ixc
        have a1' := a1 R S
        have vb2' := vb2 R S
        have := stP2 (i := 0) (me := mOp2 oAdd (mOp2 oIx (mOp2 oIx (mVar 0) (mVar 5)) (mVar 6)) (mVar 4)) (mj := mVar 5) (mk := mVar 6) (ss := uS C R S way r c more (some (.int 2, .sh)) (some (.int (c : Int), .sh)) none) (p0 := dC C) (o := .int (S.getD c 0 + more)) (xs := R.map .int) (ys := S.map .int) (m0 := .ow (.ow .sh)) (m2 := .sh) (m3 := .sh) (k := c) (kn := c) rfl hb0
          (by
            simp only [uS]
            generalize dV C R S = V at *
            generalize S.getD c 0 = y at *
            simp [mFn, mSeq, mSet, mRet, mDrop, mIf, mNext, mPass, sE, sT, putM, keepD, bnd, ret, lft, mC, mVar, mMov, mFrz, mSh, mOp2, mOp1, mOpN, mNil, mCons, mTst, mAnd, mOr, mNot, mAndV, mOrV, mNotV, mIfE, mYes_ap, mONo, mOSome, mCall, back, backO, backE, isSh, nbB_cons, nbB_nil, nb_none, nb_some, Md.nb, Md.nbs, Md.beq, Md.beqs, D.atm, D.atms, oI, oAdd, oSub, oMul, oDiv, oMod, oPow, oLt, oLe, oGt, oGe, oNeg, oLen, intOf, mChain, mLst, mTup, mgN, forT, compT, wipeS, itMd, elSh, D.isN, oIsN, oNotN, Md.okB, Md.okBs, lim1, lim2, lim3, lim4, lim0', uS, a1', vb2', g3]) (by simp [mFn, mSeq, mSet, mRet, mDrop, mIf, mNext, mPass, sE, sT, putM, keepD, bnd, ret, lft, mC, mVar, mMov, mFrz, mSh, mOp2, mOp1, mOpN, mNil, mCons, mTst, mAnd, mOr, mNot, mAndV, mOrV, mNotV, mIfE, mYes_ap, mONo, mOSome, mCall, back, backO, backE, isSh, nbB_cons, nbB_nil, nb_none, nb_some, Md.nb, Md.nbs, Md.beq, Md.beqs, D.atm, D.atms, oI, oAdd, oSub, oMul, oDiv, oMod, oPow, oLt, oLe, oGt, oGe, oNeg, oIx, oLen, intOf, mChain, mLst, mTup, mgN, forT, compT, wipeS, itMd, elSh, D.isN, oIsN, oNotN, Md.okB, Md.okBs, lim1, lim2, lim3, lim4, lim0', uS]) (by simp [mFn, mSeq, mSet, mRet, mDrop, mIf, mNext, mPass, sE, sT, putM, keepD, bnd, ret, lft, mC, mVar, mMov, mFrz, mSh, mOp2, mOp1, mOpN, mNil, mCons, mTst, mAnd, mOr, mNot, mAndV, mOrV, mNotV, mIfE, mYes_ap, mONo, mOSome, mCall, back, backO, backE, isSh, nbB_cons, nbB_nil, nb_none, nb_some, Md.nb, Md.nbs, Md.beq, Md.beqs, D.atm, D.atms, oI, oAdd, oSub, oMul, oDiv, oMod, oPow, oLt, oLe, oGt, oGe, oNeg, oIx, oLen, intOf, mChain, mLst, mTup, mgN, forT, compT, wipeS, itMd, elSh, D.isN, oIsN, oNotN, Md.okB, Md.okBs, lim1, lim2, lim3, lim4, lim0', uS]) (by rw [List.length_map]; exact ixc)
        unfold s__law_sums_v1_4
        rw [this, set_int]
        rfl
      have hb1 := uS_nb (C := C) (R := R) (S := S1) (way := way) (r := r) (c := c) (more := more) (x5 := some (.int 2, .sh)) (x6 := some (.int (c : Int), .sh)) (x7 := none) rfl rfl rfl
      by_cases h5 : way = 5
      · subst h5
        let R1 := R.set r (R.getD r 0 + more)
        have c1 : mTst (mOp2 oEq (mVar 1) (mC (.int 5))) (uS C R S1 5 r c more (some (.int 2, .sh)) (some (.int (c : Int), .sh)) none) = some (.ok true, uS C R S1 5 r c more (some (.int 2, .sh)) (some (.int (c : Int), .sh)) none) := by simp [mFn, mSeq, mSet, mRet, mDrop, mIf, mNext, mPass, sE, sT, putM, keepD, bnd, ret, lft, mC, mVar, mMov, mFrz, mSh, mOp2, mOp1, mOpN, mNil, mCons, mTst, mAnd, mOr, mNot, mAndV, mOrV, mNotV, mIfE, mYes_ap, mONo, mOSome, mCall, back, backO, backE, isSh, nbB_cons, nbB_nil, nb_none, nb_some, Md.nb, Md.nbs, Md.beq, Md.beqs, D.atm, D.atms, oI, oAdd, oSub, oMul, oDiv, oMod, oPow, oLt, oLe, oGt, oGe, oNeg, oIx, oLen, intOf, mChain, mLst, mTup, mgN, forT, compT, wipeS, itMd, elSh, D.isN, oIsN, oNotN, Md.okB, Md.okBs, lim1, lim2, lim3, lim4, lim0', oEq_int]
        have f5 : s__law_sums_v1_5 (uS C R S1 5 r c more (some (.int 2, .sh)) (some (.int (c : Int), .sh)) none) = some (.nx (uS C R1 S1 5 r c more (some (.int 2, .sh)) (some (.int (c : Int), .sh)) none)) := by
          have g3 := fun m n => ixI5 (xs := R) (i := (r : Int)) (c := r) (m := m) (n := n) ixr
          have a1' := a1 R S1
          have vb1' := vb1 R S1
          unfold s__law_sums_v1_5
          rw [mIf_t c1 hb1]
          have := stP1 (i := 0) (me := mOp2 oAdd (mOp2 oIx (mOp2 oIx (mVar 0) (mOp2 oSub (mC (.int 3)) (mVar 5))) (mOp2 oIx (mSh (mLst .sh (mCons (mVar 2) (mCons (mVar 3) mNil)))) (mOp2 oSub (mC (.int 2)) (mVar 5)))) (mVar 4)) (mj := mOp2 oSub (mC (.int 3)) (mVar 5)) (mk := mOp2 oIx (mSh (mLst .sh (mCons (mVar 2) (mCons (mVar 3) mNil)))) (mOp2 oSub (mC (.int 2)) (mVar 5))) (ss := uS C R S1 5 r c more (some (.int 2, .sh)) (some (.int (c : Int), .sh)) none) (p0 := dC C) (o := .int (R.getD r 0 + more)) (xs := R.map .int) (ys := S1.map .int) (m0 := .ow (.ow .sh)) (m2 := .sh) (m3 := .sh) (k := r) (kn := r) rfl hb1
            (by
              simp only [uS]
              generalize dV C R S1 = V at *
              generalize R.getD r 0 = y at *
              simp [mFn, mSeq, mSet, mRet, mDrop, mIf, mNext, mPass, sE, sT, putM, keepD, bnd, ret, lft, mC, mVar, mMov, mFrz, mSh, mOp2, mOp1, mOpN, mNil, mCons, mTst, mAnd, mOr, mNot, mAndV, mOrV, mNotV, mIfE, mYes_ap, mONo, mOSome, mCall, back, backO, backE, isSh, nbB_cons, nbB_nil, nb_none, nb_some, Md.nb, Md.nbs, Md.beq, Md.beqs, D.atm, D.atms, oI, oAdd, oSub, oMul, oDiv, oMod, oPow, oLt, oLe, oGt, oGe, oNeg, oLen, intOf, mChain, mLst, mTup, mgN, forT, compT, wipeS, itMd, elSh, D.isN, oIsN, oNotN, Md.okB, Md.okBs, lim1, lim2, lim3, lim4, lim0', uS, a1', vb1', g3, p1]) (by simp [mFn, mSeq, mSet, mRet, mDrop, mIf, mNext, mPass, sE, sT, putM, keepD, bnd, ret, lft, mC, mVar, mMov, mFrz, mSh, mOp2, mOp1, mOpN, mNil, mCons, mTst, mAnd, mOr, mNot, mAndV, mOrV, mNotV, mIfE, mYes_ap, mONo, mOSome, mCall, back, backO, backE, isSh, nbB_cons, nbB_nil, nb_none, nb_some, Md.nb, Md.nbs, Md.beq, Md.beqs, D.atm, D.atms, oI, oAdd, oSub, oMul, oDiv, oMod, oPow, oLt, oLe, oGt, oGe, oNeg, oIx, oLen, intOf, mChain, mLst, mTup, mgN, forT, compT, wipeS, itMd, elSh, D.isN, oIsN, oNotN, Md.okB, Md.okBs, lim1, lim2, lim3, lim4, lim0', uS]) (by simp [mFn, mSeq, mSet, mRet, mDrop, mIf, mNext, mPass, sE, sT, putM, keepD, bnd, ret, lft, mC, mVar, mMov, mFrz, mSh, mOp2, mOp1, mOpN, mNil, mCons, mTst, mAnd, mOr, mNot, mAndV, mOrV, mNotV, mIfE, mYes_ap, mONo, mOSome, mCall, back, backO, backE, isSh, nbB_cons, nbB_nil, nb_none, nb_some, Md.nb, Md.nbs, Md.beq, Md.beqs, D.atm, D.atms, oI, oAdd, oSub, oMul, oDiv, oMod, oPow, oLt, oLe, oGt, oGe, oNeg, oLen, intOf, mChain, mLst, mTup, mgN, forT, compT, wipeS, itMd, elSh, D.isN, oIsN, oNotN, Md.okB, Md.okBs, lim1, lim2, lim3, lim4, lim0', uS, p1]) (by rw [List.length_map]; exact ixr)
          rw [this, set_int]
          rfl
        refine fin R1 S1 [none, some (.int 5, .sh), some (.int (r : Int), .sh), some (.int (c : Int), .sh), some (.int more, .sh), some (.int 2, .sh), some (.int (c : Int), .sh), none] ?_
        unfold b__law_sums_v1
        rw [mSeq_nx f1 (uS_nb rfl rfl rfl), mSeq_nx f2 hb0, mSeq_nx f3 hb0, mSeq_nx f4 hb1, mSeq_nx f5 (uS_nb rfl rfl rfl)]
        simp [mFn, mSeq, mSet, mRet, mDrop, mIf, mNext, mPass, sE, sT, putM, keepD, bnd, ret, lft, mC, mVar, mMov, mFrz, mSh, mOp2, mOp1, mOpN, mNil, mCons, mTst, mAnd, mOr, mNot, mAndV, mOrV, mNotV, mIfE, mYes_ap, mONo, mOSome, mCall, back, backO, backE, isSh, nbB_cons, nbB_nil, nb_none, nb_some, Md.nb, Md.nbs, Md.beq, Md.beqs, D.atm, D.atms, oI, oAdd, oSub, oMul, oDiv, oMod, oPow, oLt, oLe, oGt, oGe, oNeg, oIx, oLen, intOf, mChain, mLst, mTup, mgN, forT, compT, wipeS, itMd, elSh, D.isN, oIsN, oNotN, Md.okB, Md.okBs, lim1, lim2, lim3, lim4, lim0', s__law_sums_v1_6, uS]
      · have f5 : s__law_sums_v1_5 (uS C R S1 way r c more (some (.int 2, .sh)) (some (.int (c : Int), .sh)) none) = some (.nx (uS C R S1 way r c more (some (.int 2, .sh)) (some (.int (c : Int), .sh)) none)) := by
          have c1 : mTst (mOp2 oEq (mVar 1) (mC (.int 5))) (uS C R S1 way r c more (some (.int 2, .sh)) (some (.int (c : Int), .sh)) none) = some (.ok false, uS C R S1 way r c more (some (.int 2, .sh)) (some (.int (c : Int), .sh)) none) := by simp [mFn, mSeq, mSet, mRet, mDrop, mIf, mNext, mPass, sE, sT, putM, keepD, bnd, ret, lft, mC, mVar, mMov, mFrz, mSh, mOp2, mOp1, mOpN, mNil, mCons, mTst, mAnd, mOr, mNot, mAndV, mOrV, mNotV, mIfE, mYes_ap, mONo, mOSome, mCall, back, backO, backE, isSh, nbB_cons, nbB_nil, nb_none, nb_some, Md.nb, Md.nbs, Md.beq, Md.beqs, D.atm, D.atms, oI, oAdd, oSub, oMul, oDiv, oMod, oPow, oLt, oLe, oGt, oGe, oNeg, oIx, oLen, intOf, mChain, mLst, mTup, mgN, forT, compT, wipeS, itMd, elSh, D.isN, oIsN, oNotN, Md.okB, Md.okBs, lim1, lim2, lim3, lim4, lim0', oEq_int, h5]
          unfold s__law_sums_v1_5
          rw [mIf_f c1 hb1]
          rfl
        refine fin R S1 [none, some (.int way, .sh), some (.int (r : Int), .sh), some (.int (c : Int), .sh), some (.int more, .sh), some (.int 2, .sh), some (.int (c : Int), .sh), none] ?_
        unfold b__law_sums_v1
        rw [mSeq_nx f1 (uS_nb rfl rfl rfl), mSeq_nx f2 hb0, mSeq_nx f3 hb0, mSeq_nx f4 hb1, mSeq_nx f5 hb1]
        simp [mFn, mSeq, mSet, mRet, mDrop, mIf, mNext, mPass, sE, sT, putM, keepD, bnd, ret, lft, mC, mVar, mMov, mFrz, mSh, mOp2, mOp1, mOpN, mNil, mCons, mTst, mAnd, mOr, mNot, mAndV, mOrV, mNotV, mIfE, mYes_ap, mONo, mOSome, mCall, back, backO, backE, isSh, nbB_cons, nbB_nil, nb_none, nb_some, Md.nb, Md.nbs, Md.beq, Md.beqs, D.atm, D.atms, oI, oAdd, oSub, oMul, oDiv, oMod, oPow, oLt, oLe, oGt, oGe, oNeg, oIx, oLen, intOf, mChain, mLst, mTup, mgN, forT, compT, wipeS, itMd, elSh, D.isN, oIsN, oNotN, Md.okB, Md.okBs, lim1, lim2, lim3, lim4, lim0', s__law_sums_v1_6, uS]
end Ve

set_option Elab.async false
set_option linter.all false
set_option maxRecDepth 100000
set_option maxHeartbeats 4000000
namespace Ve
open PySem L2 L2H
theorem tames5 : ∀ {ds : List D}, D.tames ds = true ↔ ∀ d ∈ ds, d.tame = true
  | [] => by simp [D.tames]
  | d :: ds => by simp [D.tames, tames5 (ds := ds)]
theorem deps5 {n : Nat} : ∀ {ds : List D}, D.deps ds ≤ n ↔ ∀ d ∈ ds, d.dep ≤ n
  | [] => by simp [D.deps]
  | d :: ds => by
    simp only [D.deps, List.mem_cons, forall_eq_or_imp, Nat.max_le, deps5 (ds := ds)]
/-- a thing in a cell's or a sum's or a row's place -/
def ItG (r : D) : Prop := r.tyN.isSome = true ∧ (r.tame = true ∧ r.dep ≤ 10) ∧ ∀ cs, r = .lst cs → ∀ c ∈ cs, c.tyN.isSome = true
def CeG (c : D) : Prop := (c.tyN.isSome = true ∧ c.tame = true ∧ c.dep ≤ 9) ∧ ∀ cs, c = .lst cs → ∀ x ∈ cs, x.tyN.isSome = true
theorem CeG.it {c : D} (h : CeG c) : ItG c := ⟨h.1.1, ⟨h.1.2.1, Nat.le_trans h.1.2.2 (by decide)⟩, h.2⟩
theorem ce_int {i : Int} : CeG (.int i) := ⟨⟨rfl, rfl, by simp [D.dep]⟩, fun cs z => nomatch z⟩
theorem ce_O {x : Option Int} : CeG (dO x) := by
  cases x
  · exact ⟨⟨rfl, rfl, by simp [dO, D.dep]⟩, fun cs z => nomatch z⟩
  · exact ce_int
theorem it_lst {cs : List D} (h : ∀ c ∈ cs, CeG c) : ItG (.lst cs) := by
  refine ⟨rfl, ⟨tames5.mpr fun c hc => (h c hc).1.2.1, ?_⟩, fun cs' e c hc => by cases e; exact (h c hc).1.1⟩
  simp only [D.dep]
  have := deps5.mpr fun c hc => (h c hc).1.2.2
  omega
theorem it_R {r : List (Option Int)} : ItG (dR r) := it_lst fun c hc => by
  obtain ⟨x, _, rfl⟩ := List.mem_map.mp hc
  exact ce_O
/-- a part of a view -/
def PaG (p : D) : Prop := kindly p ∧ p.tame = true ∧ p.dep ≤ 20
theorem pa_lst {xs : List D} (h : ∀ x ∈ xs, ItG x) : PaG (.lst xs) := by
  refine ⟨⟨rfl, fun rows e r hr => ?_⟩, tames5.mpr fun x hx => (h x hx).2.1.1, ?_⟩
  · cases e
    exact ⟨(h r hr).1, (h r hr).2.2⟩
  · simp only [D.dep]
    have := deps5.mpr fun x hx => (h x hx).2.1.2
    omega
theorem pa_tup {xs : List D} (h : ∀ x ∈ xs, ItG x) : PaG (.tup xs) := by
  refine ⟨⟨rfl, fun rows e => nomatch e⟩, tames5.mpr fun x hx => (h x hx).2.1.1, ?_⟩
  simp only [D.dep]
  have := deps5.mpr fun x hx => (h x hx).2.1.2
  omega
theorem pa_I {R : List Int} : PaG (dI R) := pa_lst fun x hx => by
  obtain ⟨i, _, rfl⟩ := List.mem_map.mp hx
  exact ce_int.it
theorem pa_C {C : Cs} : PaG (dC C) := pa_lst fun x hx => by
  obtain ⟨i, _, rfl⟩ := List.mem_map.mp hx
  exact it_R
theorem gdV_tup {ps : List D} (h : ∀ p ∈ ps, PaG p) : GdV (.tup ps) := by
  refine ⟨⟨rfl, fun ps' e p hp => by cases e; exact (h p hp).1⟩, .inl ?_⟩
  simp only [D.oddT, Bool.and_eq_true, decide_eq_true_eq]
  exact ⟨tames5.mpr fun p hp => (h p hp).2.1, deps5.mpr fun p hp => Nat.le_trans (h p hp).2.2 (by decide)⟩
theorem gdV_lst {ps : List D} (h : ∀ p ∈ ps, PaG p) : GdV (.lst ps) := by
  refine ⟨⟨rfl, fun ps' e => nomatch e⟩, .inr (.inl ?_)⟩
  simp only [D.odd, Bool.and_eq_true, decide_eq_true_eq]
  exact ⟨tames5.mpr fun p hp => (h p hp).2.1, deps5.mpr fun p hp => Nat.le_trans (h p hp).2.2 (by decide)⟩
theorem mem3 {a b c : D} {P : D → Prop} (ha : P a) (hb : P b) (hc : P c) : ∀ p ∈ [a, b, c], P p := fun p hp => by
  simp only [List.mem_cons, List.not_mem_nil, or_false] at hp
  rcases hp with rfl | rfl | rfl <;> assumption
theorem gdV_V {C : Cs} {R S : List Int} : GdV (dV C R S) := gdV_tup (mem3 pa_C pa_I pa_I)
theorem odd5_ok {n : Int} (h0 : 0 ≤ n) : ∃ o, CeG o ∧ m__law_odd_v2 [.int n] = some (.ok (o, .sh)) := by
  obtain ⟨o, ho, e⟩ := atI_some (xs := [D.bl true, .bl false, .non, .int (-1), .str "1", .lst [.int 1], .tup [.int 1], .dK [] [], .int (-1000000000000000000000000000000)]) (k := n % 9) (by omega) (by simp; omega)
  refine ⟨o, ?_, ?_⟩
  · simp only [List.mem_cons, List.not_mem_nil, or_false] at ho
    rcases ho with rfl | rfl | rfl | rfl | rfl | rfl | rfl | rfl | rfl
    · exact ⟨⟨rfl, rfl, by simp [D.dep]⟩, fun cs z => nomatch z⟩
    · exact ⟨⟨rfl, rfl, by simp [D.dep]⟩, fun cs z => nomatch z⟩
    · exact ⟨⟨rfl, rfl, by simp [D.dep]⟩, fun cs z => nomatch z⟩
    · exact ce_int
    · exact ⟨⟨rfl, rfl, by simp [D.dep]⟩, fun cs z => nomatch z⟩
    · exact ⟨⟨rfl, rfl, by simp [D.dep, D.deps]⟩, fun cs z x hx => by
        cases z
        simp only [List.mem_cons, List.not_mem_nil, or_false] at hx
        subst hx
        rfl⟩
    · exact ⟨⟨rfl, rfl, by simp [D.dep, D.deps]⟩, fun cs z => nomatch z⟩
    · exact ⟨⟨rfl, rfl, by simp [D.dep, D.deps]⟩, fun cs z => nomatch z⟩
    · exact ce_int
  · have e2 := oIx_sh (n := .sh) e
    have l9 : 9 ≤ lim := lim9
    simp [mFn, mSeq, mSet, mRet, mDrop, mIf, mNext, mPass, sE, sT, putM, keepD, bnd, ret, lft, mC, mVar, mMov, mFrz, mSh, mOp2, mOp1, mOpN, mNil, mCons, mTst, mAnd, mOr, mNot, mAndV, mOrV, mNotV, mIfE, mYes_ap, mONo, mOSome, mCall, back, backO, backE, isSh, nbB_cons, nbB_nil, nb_none, nb_some, Md.nb, Md.nbs, Md.beq, Md.beqs, D.atm, D.atms, oI, oAdd, oSub, oMul, oDiv, oMod, oPow, oLt, oLe, oGt, oGe, oNeg, oLen, intOf, mChain, mLst, mTup, mgN, forT, compT, wipeS, itMd, elSh, D.isN, oIsN, oNotN, Md.okB, Md.okBs, lim1, lim2, lim3, lim4, lim0', m__law_odd_v2, b__law_odd_v2, l9, e2]
theorem other5_ok {C : Cs} {R S : List Int} {n : Int} (h0 : 0 ≤ n) : ∃ x, GdV x ∧ m__law_other_v1 [dV C R S, .int n] = some (.ok (x, .sh)) := by
  obtain ⟨x, hx, e⟩ := atI_some (xs := [D.lst [dC C, dI R, dI S], .tup [dC C, dI R], .tup [dC C, dI R, dI S, .lst []], .non, .int 7, .str "view", .dK [] [], .tup [], .tup [dC C, .tup (R.map .int), dI S],
    .tup [.tup (C.map dR), dI R, dI S], .tup [.lst [], .lst [], .lst []], .tup [.lst [.lst []], .lst [.int 0], .lst []], .tup [dC C, dI S, dI R, .lst []]]) (k := n % 13) (by omega) (by simp; omega)
  have pe : PaG (.lst []) := pa_lst fun x hx => nomatch hx
  refine ⟨x, ?_, ?_⟩
  · simp only [List.mem_cons, List.not_mem_nil, or_false] at hx
    rcases hx with rfl | rfl | rfl | rfl | rfl | rfl | rfl | rfl | rfl | rfl | rfl | rfl | rfl
    · exact gdV_lst (mem3 pa_C pa_I pa_I)
    · exact gdV_tup fun p hp => by
        simp only [List.mem_cons, List.not_mem_nil, or_false] at hp
        rcases hp with rfl | rfl
        · exact pa_C
        · exact pa_I
    · exact gdV_tup fun p hp => by
        simp only [List.mem_cons, List.not_mem_nil, or_false] at hp
        rcases hp with rfl | rfl | rfl | rfl
        · exact pa_C
        · exact pa_I
        · exact pa_I
        · exact pe
    · exact ⟨⟨rfl, fun ps e => nomatch e⟩, .inr (.inr shp_non)⟩
    · exact ⟨⟨rfl, fun ps e => nomatch e⟩, .inr (.inr shp_int)⟩
    · exact ⟨⟨rfl, fun ps e => nomatch e⟩, .inr (.inr (by decide +kernel))⟩
    · exact ⟨⟨rfl, fun ps e => nomatch e⟩, .inr (.inl rfl)⟩
    · exact gdV_tup fun p hp => nomatch hp
    · exact gdV_tup (mem3 pa_C (pa_tup fun x hx => by obtain ⟨i, _, rfl⟩ := List.mem_map.mp hx; exact ce_int.it) pa_I)
    · exact gdV_tup (mem3 (pa_tup fun x hx => by obtain ⟨i, _, rfl⟩ := List.mem_map.mp hx; exact it_R) pa_I pa_I)
    · exact gdV_tup (mem3 pe pe pe)
    · exact gdV_tup (mem3 (pa_lst fun x hx => by
        simp only [List.mem_cons, List.not_mem_nil, or_false] at hx
        subst hx
        exact it_lst fun c hc => nomatch hc) (pa_lst fun x hx => by
        simp only [List.mem_cons, List.not_mem_nil, or_false] at hx
        subst hx
        exact ce_int.it) pe)
    · exact gdV_tup fun p hp => by
        simp only [List.mem_cons, List.not_mem_nil, or_false] at hp
        rcases hp with rfl | rfl | rfl | rfl
        · exact pa_C
        · exact pa_I
        · exact pa_I
        · exact pe
  · have e2 := oIx_sh (n := .sh) e
    have l9 : 9 ≤ lim := lim9
    have l13 : 13 ≤ lim := le_lim (by decide)
    have v0 := fun n => oIx_V0 (cs := C) (R := R) (S := S) (n := n)
    have v1 := fun n => oIx_V1 (cs := C) (R := R) (S := S) (n := n)
    have v2 := fun n => oIx_V2 (cs := C) (R := R) (S := S) (n := n)
    have ol : ∀ m, oList [(dV C R S, .sh)] = some (.lst [dC C, dI R, dI S], m) ∨ True := fun _ => .inr trivial
    have ol : oList [(dV C R S, .sh)] = some (.lst [dC C, dI R, dI S], .ow .sh) := rfl
    have es : oSlT (dV C R S, .sh) none (some 2) = some (.tup [dC C, dI R], .sh) := by
      have := cut_to (ds := [dC C, dI R, dI S]) (r := 2) (by simp)
      simp only [oSlT, dV]
      rw [show ((2 : Nat) : Int) = (2 : Int) from rfl] at this
      rw [this]
      rfl
    have oc : oCatT (dV C R S, .sh) (.tup [.lst []], .sh) = some (.tup [dC C, dI R, dI S, .lst []], .sh) := by
      have : 4 ≤ lim := lim4
      simp [oCatT, dV, this]
    have ot1 : oTuple [(dI R, .sh)] = some (.tup (R.map .int), .sh) := rfl
    have ot2 : oTuple [(dC C, .sh)] = some (.tup (C.map dR), .sh) := rfl
    generalize dV C R S = V at *
    generalize dC C = c0 at *
    generalize dI R = r0 at *
    generalize dI S = s0 at *
    generalize D.tup (R.map .int) = t1 at *
    generalize D.tup (C.map dR) = t2 at *
    simp [mFn, mSeq, mSet, mRet, mDrop, mIf, mNext, mPass, sE, sT, putM, keepD, bnd, ret, lft, mC, mVar, mMov, mFrz, mSh, mOp2, mOp1, mOpN, mNil, mCons, mTst, mAnd, mOr, mNot, mAndV, mOrV, mNotV, mIfE, mYes_ap, mONo, mOSome, mCall, back, backO, backE, isSh, nbB_cons, nbB_nil, nb_none, nb_some, Md.nb, Md.nbs, Md.beq, Md.beqs, D.atm, D.atms, oI, oAdd, oSub, oMul, oDiv, oMod, oPow, oLt, oLe, oGt, oGe, oNeg, oLen, intOf, mChain, mLst, mTup, mgN, forT, compT, wipeS, itMd, elSh, D.isN, oIsN, oNotN, Md.okB, Md.okBs, lim1, lim2, lim3, lim4, lim0', m__law_other_v1, b__law_other_v1, l9, l13, v0, v1, v2, ol, mSlT, es, oc, ot1, ot2, oCat, e2]
end Ve

set_option Elab.async false
set_option linter.all false
set_option maxRecDepth 100000
set_option maxHeartbeats 4000000
namespace Ve
open PySem L2 L2H
abbrev M05 : Md := mV (.ow (.ow .sh))
abbrev pS (ns : List Int) (v : D) (m : Md) (way r c n : Int) (x6 x7 x8 x9 : Ent) : SS := [some (.fz ns, .sh), some (v, m), some (.int way, .sh), some (.int r, .sh), some (.int c, .sh), some (.int n, .sh), x6, x7, x8, x9]
section
variable {ns : List Int} {v : D} {m : Md} {way r c n : Int} {x6 x7 x8 x9 : Ent}
theorem pS_nb (hm : m.nb = true) (h6 : Ent.nb x6 = true) (h7 : Ent.nb x7 = true) (h8 : Ent.nb x8 = true) (h9 : Ent.nb x9 = true) : nbB (pS ns v m way r c n x6 x7 x8 x9) = true := by
  simp [nbB_cons, nb_some, Md.nb, Md.nbs, hm, h6, h7, h8, h9, nbB_nil]
theorem ck2 (j : Int) : mTst (mOp2 oLt (mVar 2) (mC (.int j))) (pS ns v m way r c n x6 x7 x8 x9) = some (.ok (decide (way < j)), pS ns v m way r c n x6 x7 x8 x9) := by simp [mFn, mSeq, mSet, mRet, mDrop, mIf, mNext, mPass, sE, sT, putM, keepD, bnd, ret, lft, mC, mVar, mMov, mFrz, mSh, mOp2, mOp1, mOpN, mNil, mCons, mTst, mAnd, mOr, mNot, mAndV, mOrV, mNotV, mIfE, mYes_ap, mONo, mOSome, mCall, back, backO, backE, isSh, nbB_cons, nbB_nil, nb_none, nb_some, Md.nb, Md.nbs, Md.beq, Md.beqs, D.atm, D.atms, oI, oAdd, oSub, oMul, oDiv, oMod, oPow, oLt, oLe, oGt, oGe, oNeg, oIx, oLen, intOf, mChain, mLst, mTup, mgN, forT, compT, wipeS, itMd, elSh, D.isN, oIsN, oNotN, Md.okB, Md.okBs, lim1, lim2, lim3, lim4, lim0']
theorem ckE (j : Int) : mTst (mOp2 oEq (mVar 2) (mC (.int j))) (pS ns v m way r c n x6 x7 x8 x9) = some (.ok (decide (way = j)), pS ns v m way r c n x6 x7 x8 x9) := by simp [mFn, mSeq, mSet, mRet, mDrop, mIf, mNext, mPass, sE, sT, putM, keepD, bnd, ret, lft, mC, mVar, mMov, mFrz, mSh, mOp2, mOp1, mOpN, mNil, mCons, mTst, mAnd, mOr, mNot, mAndV, mOrV, mNotV, mIfE, mYes_ap, mONo, mOSome, mCall, back, backO, backE, isSh, nbB_cons, nbB_nil, nb_none, nb_some, Md.nb, Md.nbs, Md.beq, Md.beqs, D.atm, D.atms, oI, oAdd, oSub, oMul, oDiv, oMod, oPow, oLt, oLe, oGt, oGe, oNeg, oIx, oLen, intOf, mChain, mLst, mTup, mgN, forT, compT, wipeS, itMd, elSh, D.isN, oIsN, oNotN, Md.okB, Md.okBs, lim1, lim2, lim3, lim4, lim0', oEq_int]
theorem ckN : mTst (mOp2 oEq (mOp2 oMod (mVar 5) (mC (.int 2))) (mC (.int 0))) (pS ns v m way r c n x6 x7 x8 x9) = some (.ok (decide (n % 2 = 0)), pS ns v m way r c n x6 x7 x8 x9) := by simp [mFn, mSeq, mSet, mRet, mDrop, mIf, mNext, mPass, sE, sT, putM, keepD, bnd, ret, lft, mC, mVar, mMov, mFrz, mSh, mOp2, mOp1, mOpN, mNil, mCons, mTst, mAnd, mOr, mNot, mAndV, mOrV, mNotV, mIfE, mYes_ap, mONo, mOSome, mCall, back, backO, backE, isSh, nbB_cons, nbB_nil, nb_none, nb_some, Md.nb, Md.nbs, Md.beq, Md.beqs, D.atm, D.atms, oI, oAdd, oSub, oMul, oDiv, oMod, oPow, oLt, oLe, oGt, oGe, oNeg, oIx, oLen, intOf, mChain, mLst, mTup, mgN, forT, compT, wipeS, itMd, elSh, D.isN, oIsN, oNotN, Md.okB, Md.okBs, lim1, lim2, lim3, lim4, lim0', oEq_int]
variable (hb : nbB (pS ns v m way r c n x6 x7 x8 x9) = true)
include hb
theorem sk5 (h : ¬ way < 2) : s__law_spoilt_v1_5 (pS ns v m way r c n x6 x7 x8 x9) = some (.nx (pS ns v m way r c n x6 x7 x8 x9)) := by
  have e := ck2 (ns := ns) (v := v) (m := m) (way := way) (r := r) (c := c) (n := n) (x6 := x6) (x7 := x7) (x8 := x8) (x9 := x9) 2
  rw [decide_eq_false h] at e
  exact mIf_f e hb
theorem sk6 (h : ¬ way < 6) : s__law_spoilt_v1_6 (pS ns v m way r c n x6 x7 x8 x9) = some (.nx (pS ns v m way r c n x6 x7 x8 x9)) := by
  have e := ck2 (ns := ns) (v := v) (m := m) (way := way) (r := r) (c := c) (n := n) (x6 := x6) (x7 := x7) (x8 := x8) (x9 := x9) 6
  rw [decide_eq_false h] at e
  exact mIf_f e hb
theorem ckF {j : Int} (h : way ≠ j) : mTst (mOp2 oEq (mVar 2) (mC (.int j))) (pS ns v m way r c n x6 x7 x8 x9) = some (.ok false, pS ns v m way r c n x6 x7 x8 x9) := by
  rw [ckE, decide_eq_false h]
theorem sk7 (h : way ≠ 6) : s__law_spoilt_v1_7 (pS ns v m way r c n x6 x7 x8 x9) = some (.nx (pS ns v m way r c n x6 x7 x8 x9)) := mIf_f (ckF hb h) hb
theorem sk8 (h : way ≠ 7) : s__law_spoilt_v1_8 (pS ns v m way r c n x6 x7 x8 x9) = some (.nx (pS ns v m way r c n x6 x7 x8 x9)) := mIf_f (ckF hb h) hb
theorem sk9 (h : way ≠ 8) : s__law_spoilt_v1_9 (pS ns v m way r c n x6 x7 x8 x9) = some (.nx (pS ns v m way r c n x6 x7 x8 x9)) := by
  unfold s__law_spoilt_v1_9
  rw [mIf_f (by simp [mAnd, bnd, ckF hb h, ret]) hb, mIf_f (ckF hb h) hb]
  rfl
theorem sk10 (h : way ≠ 9) : s__law_spoilt_v1_10 (pS ns v m way r c n x6 x7 x8 x9) = some (.nx (pS ns v m way r c n x6 x7 x8 x9)) := mIf_f (ckF hb h) hb
theorem sk11 (h : way ≠ 10) : s__law_spoilt_v1_11 (pS ns v m way r c n x6 x7 x8 x9) = some (.nx (pS ns v m way r c n x6 x7 x8 x9)) := mIf_f (ckF hb h) hb
theorem sk12 (h : way ≠ 11) : s__law_spoilt_v1_12 (pS ns v m way r c n x6 x7 x8 x9) = some (.nx (pS ns v m way r c n x6 x7 x8 x9)) := mIf_f (ckF hb h) hb
/-- what is left when the thing has been made -/
theorem end13 (hm : m.nb = true) : s__law_spoilt_v1_13 (pS ns v m way r c n x6 x7 x8 x9) = some (.rt (v, m) ([some (.fz ns, .sh), none, some (.int way, .sh), some (.int r, .sh), some (.int c, .sh), some (.int n, .sh), x6, x7, x8, x9])) := by
  simp [mFn, mSeq, mSet, mRet, mDrop, mIf, mNext, mPass, sE, sT, putM, keepD, bnd, ret, lft, mC, mVar, mMov, mFrz, mSh, mOp2, mOp1, mOpN, mNil, mCons, mTst, mAnd, mOr, mNot, mAndV, mOrV, mNotV, mIfE, mYes_ap, mONo, mOSome, mCall, back, backO, backE, isSh, nbB_cons, nbB_nil, nb_none, nb_some, Md.nb, Md.nbs, Md.beq, Md.beqs, D.atm, D.atms, oI, oAdd, oSub, oMul, oDiv, oMod, oPow, oLt, oLe, oGt, oGe, oNeg, oIx, oLen, intOf, mChain, mLst, mTup, mgN, forT, compT, wipeS, itMd, elSh, D.isN, oIsN, oNotN, Md.okB, Md.okBs, lim1, lim2, lim3, lim4, lim0', s__law_spoilt_v1_13, hm]
end
theorem plc_g {i : Nat} {mj : ME} {ss : SS} {ds zs : List D} {ms : List Md} {em m2 : Md} {j : Int} {jn : Nat} (hs : ss[i]? = some (some (.tup ds, .tp ms))) (hn : nbB ss = true) (e : mj ss = some (.ok (.int j, m2), ss)) (hj : ixN ds.length j = some jn) (hd : ds[jn]? = some (.lst zs)) (hm : ms[jn]? = some (.ow em)) : mPlc i mj ss = some (jn, ss) := by
  simp [mPlc, tupOf, partOf, hs, e, intOf, hj, hd, hm, hn]
theorem mem_set5 {xs : List D} {k : Nat} {o : D} {P : D → Prop} (h : ∀ x ∈ xs, P x) (ho : P o) : ∀ x ∈ xs.set k o, P x := fun x hx => by
  rcases List.mem_or_eq_of_mem_set hx with h1 | h1
  · exact h x h1
  · exact h1 ▸ ho
theorem it_ints {R : List Int} : ∀ x ∈ R.map D.int, ItG x := fun x hx => by
  obtain ⟨i, _, rfl⟩ := List.mem_map.mp hx
  exact ce_int.it
theorem it_rows {C : Cs} : ∀ x ∈ C.map dR, ItG x := fun x hx => by
  obtain ⟨i, _, rfl⟩ := List.mem_map.mp hx
  exact it_R
theorem ce_cells {x : List (Option Int)} : ∀ c ∈ x.map dO, CeG c := fun c hc => by
  obtain ⟨y, _, rfl⟩ := List.mem_map.mp hc
  exact ce_O
/-- the seventh way: one cell is another thing -/
theorem way6 {ns : List Int} {C : Cs} {R S : List Int} {n : Int} {r c : Nat} (v : Vw C R S) (hr : r < R.length) (hc : c < S.length) (h0 : 0 ≤ n) : ∃ d, GdV d ∧ s__law_spoilt_v1_7 (pS ns (dV C R S) M05 6 r c n none none none none) = some (.nx (pS ns d M05 6 r c n none none none none)) := by
  obtain ⟨o, go, eo⟩ := odd5_ok h0
  have hrC : r < C.length := by rw [← v.rl]; exact hr
  have hx := List.getElem?_eq_getElem hrC
  obtain ⟨x, ex⟩ : ∃ x, C[r] = x := ⟨_, rfl⟩
  rw [ex] at hx
  have xl : x.length = S.length := v.row x (ex ▸ List.getElem_mem _)
  refine ⟨tV (.lst ((C.map dR).set r (.lst ((x.map dO).set c o)))) (R.map .int) (S.map .int), gdV_tup (mem3 (pa_lst (mem_set5 it_rows (it_lst (mem_set5 ce_cells go)))) (pa_lst it_ints) (pa_lst it_ints)), ?_⟩
  have hb := pS_nb (ns := ns) (v := dV C R S) (m := M05) (way := 6) (r := (r : Int)) (c := (c : Int)) (n := n) (x6 := none) (x7 := none) (x8 := none) (x9 := none) rfl rfl rfl rfl rfl
  unfold s__law_spoilt_v1_7
  rw [mIf_t (ckE 6) hb]
  have e1 : mCall 1 m__law_odd_v2 (mCons (mVar 5) mNil) (pS ns (dV C R S) M05 6 r c n none none none none) = some (.ok (o, .sh), pS ns (dV C R S) M05 6 r c n none none none none) := by
    simp only [pS]
    generalize dV C R S = V
    simp [mFn, mSeq, mSet, mRet, mDrop, mIf, mNext, mPass, sE, sT, putM, keepD, bnd, ret, lft, mC, mVar, mMov, mFrz, mSh, mOp2, mOp1, mOpN, mNil, mCons, mTst, mAnd, mOr, mNot, mAndV, mOrV, mNotV, mIfE, mYes_ap, mONo, mOSome, mCall, back, backO, backE, isSh, nbB_cons, nbB_nil, nb_none, nb_some, Md.nb, Md.nbs, Md.beq, Md.beqs, D.atm, D.atms, oI, oAdd, oSub, oMul, oDiv, oMod, oPow, oLt, oLe, oGt, oGe, oNeg, oIx, oLen, intOf, mChain, mLst, mTup, mgN, forT, compT, wipeS, itMd, elSh, D.isN, oIsN, oNotN, Md.okB, Md.okBs, lim1, lim2, lim3, lim4, lim0', eo]
  have hm : mPlc 1 (mC (.int 0)) (pS ns (dV C R S) M05 6 r c n none none none none) = some (0, pS ns (dV C R S) M05 6 r c n none none none none) :=
    plc_g (ds := [dC C, dI R, dI S]) (ms := [.ow (.ow .sh), .ow .sh, .ow .sh]) (zs := C.map dR) (em := .ow .sh) (m2 := .sh) (j := 0) rfl hb rfl rfl rfl rfl
  have er : mVar 3 (pS ns (dV C R S) M05 6 r c n none none none none) = some (.ok (.int r, .sh), pS ns (dV C R S) M05 6 r c n none none none none) := by simp [mFn, mSeq, mSet, mRet, mDrop, mIf, mNext, mPass, sE, sT, putM, keepD, bnd, ret, lft, mC, mVar, mMov, mFrz, mSh, mOp2, mOp1, mOpN, mNil, mCons, mTst, mAnd, mOr, mNot, mAndV, mOrV, mNotV, mIfE, mYes_ap, mONo, mOSome, mCall, back, backO, backE, isSh, nbB_cons, nbB_nil, nb_none, nb_some, Md.nb, Md.nbs, Md.beq, Md.beqs, D.atm, D.atms, oI, oAdd, oSub, oMul, oDiv, oMod, oPow, oLt, oLe, oGt, oGe, oNeg, oIx, oLen, intOf, mChain, mLst, mTup, mgN, forT, compT, wipeS, itMd, elSh, D.isN, oIsN, oNotN, Md.okB, Md.okBs, lim1, lim2, lim3, lim4, lim0']
  have ec : mVar 4 (pS ns (dV C R S) M05 6 r c n none none none none) = some (.ok (.int c, .sh), pS ns (dV C R S) M05 6 r c n none none none none) := by simp [mFn, mSeq, mSet, mRet, mDrop, mIf, mNext, mPass, sE, sT, putM, keepD, bnd, ret, lft, mC, mVar, mMov, mFrz, mSh, mOp2, mOp1, mOpN, mNil, mCons, mTst, mAnd, mOr, mNot, mAndV, mOrV, mNotV, mIfE, mYes_ap, mONo, mOSome, mCall, back, backO, backE, isSh, nbB_cons, nbB_nil, nb_none, nb_some, Md.nb, Md.nbs, Md.beq, Md.beqs, D.atm, D.atms, oI, oAdd, oSub, oMul, oDiv, oMod, oPow, oLt, oLe, oGt, oGe, oNeg, oIx, oLen, intOf, mChain, mLst, mTup, mgN, forT, compT, wipeS, itMd, elSh, D.isN, oIsN, oNotN, Md.okB, Md.okBs, lim1, lim2, lim3, lim4, lim0']
  have ir : ixN C.length (r : Int) = some r := ixN_nat hrC
  have ic : ixN x.length (c : Int) = some c := ixN_nat (by rw [xl]; exact hc)
  simp only [mStQ, e1, hm, Option.bind_some, er, ec, intOf]
  simp [partOf, tupOf, setPart, dV, dC, ir, ic, hb, hx, Md.beq, isSh, dR]
  simp [nbB_cons, nb_some, nb_none, Md.nb, Md.nbs, nbB_nil, tV, dI, dR]
/-- the eighth way: a sum is another thing -/
theorem way7 {ns : List Int} {C : Cs} {R S : List Int} {n : Int} {r c : Nat} (v : Vw C R S) (hr : r < R.length) (hc : c < S.length) (h0 : 0 ≤ n) : ∃ d, GdV d ∧ s__law_spoilt_v1_8 (pS ns (dV C R S) M05 7 r c n none none none none) = some (.nx (pS ns d M05 7 r c n none none none none)) := by
  obtain ⟨o, go, eo⟩ := odd5_ok (n := n / 2) (by omega)
  have hb := pS_nb (ns := ns) (v := dV C R S) (m := M05) (way := 7) (r := (r : Int)) (c := (c : Int)) (n := n) (x6 := none) (x7 := none) (x8 := none) (x9 := none) rfl rfl rfl rfl rfl
  have e1 : mCall 1 m__law_odd_v2 (mCons (mOp2 oDiv (mVar 5) (mC (.int 2))) mNil) (pS ns (dV C R S) M05 7 r c n none none none none) = some (.ok (o, .sh), pS ns (dV C R S) M05 7 r c n none none none none) := by
    simp only [pS]
    generalize dV C R S = V
    simp [mFn, mSeq, mSet, mRet, mDrop, mIf, mNext, mPass, sE, sT, putM, keepD, bnd, ret, lft, mC, mVar, mMov, mFrz, mSh, mOp2, mOp1, mOpN, mNil, mCons, mTst, mAnd, mOr, mNot, mAndV, mOrV, mNotV, mIfE, mYes_ap, mONo, mOSome, mCall, back, backO, backE, isSh, nbB_cons, nbB_nil, nb_none, nb_some, Md.nb, Md.nbs, Md.beq, Md.beqs, D.atm, D.atms, oI, oAdd, oSub, oMul, oDiv, oMod, oPow, oLt, oLe, oGt, oGe, oNeg, oIx, oLen, intOf, mChain, mLst, mTup, mgN, forT, compT, wipeS, itMd, elSh, D.isN, oIsN, oNotN, Md.okB, Md.okBs, lim1, lim2, lim3, lim4, lim0', eo]
  have p1 : ∀ n, oIx (.lst [.int (r : Int), .int (c : Int)], .sh) (.int 0, n) = some (.int (r : Int), .sh) := fun n => oIx_sh rfl
  have p2 : ∀ n, oIx (.lst [.int (r : Int), .int (c : Int)], .sh) (.int 1, n) = some (.int (c : Int), .sh) := fun n => oIx_sh rfl
  have hm : n % 2 = 0 ∨ n % 2 = 1 := by omega
  unfold s__law_spoilt_v1_8
  rw [mIf_t (ckE 7) hb]
  rcases hm with h2 | h2
  · refine ⟨tV (dC C) ((R.map .int).set r o) (S.map .int), gdV_tup (mem3 pa_C (pa_lst (mem_set5 it_ints go.it)) (pa_lst it_ints)), ?_⟩
    exact stP1 (p0 := dC C) (o := o) (xs := R.map .int) (ys := S.map .int) (m0 := .ow (.ow .sh)) (m2 := .sh) (m3 := .sh) (k := r) (kn := r) rfl hb e1
      (by simp only [pS]; generalize dV C R S = V; simp [mFn, mSeq, mSet, mRet, mDrop, mIf, mNext, mPass, sE, sT, putM, keepD, bnd, ret, lft, mC, mVar, mMov, mFrz, mSh, mOp2, mOp1, mOpN, mNil, mCons, mTst, mAnd, mOr, mNot, mAndV, mOrV, mNotV, mIfE, mYes_ap, mONo, mOSome, mCall, back, backO, backE, isSh, nbB_cons, nbB_nil, nb_none, nb_some, Md.nb, Md.nbs, Md.beq, Md.beqs, D.atm, D.atms, oI, oAdd, oSub, oMul, oDiv, oMod, oPow, oLt, oLe, oGt, oGe, oNeg, oIx, oLen, intOf, mChain, mLst, mTup, mgN, forT, compT, wipeS, itMd, elSh, D.isN, oIsN, oNotN, Md.okB, Md.okBs, lim1, lim2, lim3, lim4, lim0', h2]) (by simp only [pS]; generalize dV C R S = V; simp [mFn, mSeq, mSet, mRet, mDrop, mIf, mNext, mPass, sE, sT, putM, keepD, bnd, ret, lft, mC, mVar, mMov, mFrz, mSh, mOp2, mOp1, mOpN, mNil, mCons, mTst, mAnd, mOr, mNot, mAndV, mOrV, mNotV, mIfE, mYes_ap, mONo, mOSome, mCall, back, backO, backE, isSh, nbB_cons, nbB_nil, nb_none, nb_some, Md.nb, Md.nbs, Md.beq, Md.beqs, D.atm, D.atms, oI, oAdd, oSub, oMul, oDiv, oMod, oPow, oLt, oLe, oGt, oGe, oNeg, oLen, intOf, mChain, mLst, mTup, mgN, forT, compT, wipeS, itMd, elSh, D.isN, oIsN, oNotN, Md.okB, Md.okBs, lim1, lim2, lim3, lim4, lim0', h2, p1]) (by rw [List.length_map]; exact ixN_nat hr)
  · refine ⟨tV (dC C) (R.map .int) ((S.map .int).set c o), gdV_tup (mem3 pa_C (pa_lst it_ints) (pa_lst (mem_set5 it_ints go.it))), ?_⟩
    exact stP2 (p0 := dC C) (o := o) (xs := R.map .int) (ys := S.map .int) (m0 := .ow (.ow .sh)) (m2 := .sh) (m3 := .sh) (k := c) (kn := c) rfl hb e1
      (by simp only [pS]; generalize dV C R S = V; simp [mFn, mSeq, mSet, mRet, mDrop, mIf, mNext, mPass, sE, sT, putM, keepD, bnd, ret, lft, mC, mVar, mMov, mFrz, mSh, mOp2, mOp1, mOpN, mNil, mCons, mTst, mAnd, mOr, mNot, mAndV, mOrV, mNotV, mIfE, mYes_ap, mONo, mOSome, mCall, back, backO, backE, isSh, nbB_cons, nbB_nil, nb_none, nb_some, Md.nb, Md.nbs, Md.beq, Md.beqs, D.atm, D.atms, oI, oAdd, oSub, oMul, oDiv, oMod, oPow, oLt, oLe, oGt, oGe, oNeg, oIx, oLen, intOf, mChain, mLst, mTup, mgN, forT, compT, wipeS, itMd, elSh, D.isN, oIsN, oNotN, Md.okB, Md.okBs, lim1, lim2, lim3, lim4, lim0', h2]) (by simp only [pS]; generalize dV C R S = V; simp [mFn, mSeq, mSet, mRet, mDrop, mIf, mNext, mPass, sE, sT, putM, keepD, bnd, ret, lft, mC, mVar, mMov, mFrz, mSh, mOp2, mOp1, mOpN, mNil, mCons, mTst, mAnd, mOr, mNot, mAndV, mOrV, mNotV, mIfE, mYes_ap, mONo, mOSome, mCall, back, backO, backE, isSh, nbB_cons, nbB_nil, nb_none, nb_some, Md.nb, Md.nbs, Md.beq, Md.beqs, D.atm, D.atms, oI, oAdd, oSub, oMul, oDiv, oMod, oPow, oLt, oLe, oGt, oGe, oNeg, oLen, intOf, mChain, mLst, mTup, mgN, forT, compT, wipeS, itMd, elSh, D.isN, oIsN, oNotN, Md.okB, Md.okBs, lim1, lim2, lim3, lim4, lim0', h2, p2]) (by rw [List.length_map]; exact ixN_nat hc)
end Ve

set_option Elab.async false
set_option linter.all false
set_option maxRecDepth 100000
set_option maxHeartbeats 4000000
namespace Ve
open PySem L2 L2H
abbrev M15 : Md := .tp [.ow .sh, .ow .sh, .ow .sh]
theorem part0_V {ns : List Int} {C : Cs} {R S : List Int} {way r c n : Int} {x6 x7 x8 x9 : Ent} {m : MS} (hb : nbB (pS ns (dV C R S) M05 way r c n x6 x7 x8 x9) = true) : mShP 1 0 m (pS ns (dV C R S) M05 way r c n x6 x7 x8 x9) = m (pS ns (dV C R S) M15 way r c n x6 x7 x8 x9) := by
  have e : partOf (pS ns (dV C R S) M05 way r c n x6 x7 x8 x9) 1 0 = some (C.map dR, .ow .sh) := rfl
  simp only [mShP, e, Option.bind_some, if_pos hb]
  rfl
theorem mem_drop5 {xs : List D} {P : D → Prop} (h : ∀ x ∈ xs, P x) : ∀ x ∈ xs.dropLast, P x := fun x hx => h x (List.dropLast_subset _ hx)
theorem mem_app5 {xs : List D} {o : D} {P : D → Prop} (h : ∀ x ∈ xs, P x) (ho : P o) : ∀ x ∈ xs ++ [o], P x := fun x hx => by
  rcases List.mem_append.mp hx with h1 | h1
  · exact h x h1
  · rw [List.mem_singleton.mp h1]; exact ho
/-- the ninth way: a part is longer or shorter -/
theorem way8 {ns : List Int} {C : Cs} {R S : List Int} {n : Int} {r c : Nat} (v : Vw C R S) (h0 : 0 ≤ n) : ∃ d M, GdV d ∧ M.nb = true ∧ s__law_spoilt_v1_9 (pS ns (dV C R S) M05 8 r c n none none none none) = some (.nx (pS ns d M 8 r c n none none none none)) := by
  have hb := pS_nb (ns := ns) (v := dV C R S) (m := M05) (way := 8) (r := (r : Int)) (c := (c : Int)) (n := n) (x6 := none) (x7 := none) (x8 := none) (x9 := none) rfl rfl rfl rfl rfl
  have hb1 := pS_nb (ns := ns) (v := dV C R S) (m := M15) (way := 8) (r := (r : Int)) (c := (c : Int)) (n := n) (x6 := none) (x7 := none) (x8 := none) (x9 := none) rfl rfl rfl rfl rfl
  have nC : C.map dR ≠ [] := fun z => by have := v.h1; rw [List.map_eq_nil_iff.mp z] at this; simp at this
  have nR : R.map D.int ≠ [] := fun z => by have := v.h1; have := v.rl; rw [List.map_eq_nil_iff.mp z] at this; simp at this; omega
  have nS : S.map D.int ≠ [] := fun z => by have := v.w1; rw [List.map_eq_nil_iff.mp z] at this; simp at this
  have hm : n % 2 = 0 ∨ n % 2 = 1 := by omega
  unfold s__law_spoilt_v1_9
  rcases hm with h2 | h2
  · rw [mIf_t (by simp [mAnd, bnd, ckE, ckN, h2]) hb, part0_V hb]
    have hj : n / 2 % 3 = 0 ∨ n / 2 % 3 = 1 ∨ n / 2 % 3 = 2 := by omega
    rcases hj with hj | hj | hj
    · have hm : mPlc 1 (mOp2 oMod (mOp2 oDiv (mVar 5) (mC (.int 2))) (mC (.int 3))) (pS ns (dV C R S) M15 8 r c n none none none none) = some (0, pS ns (dV C R S) M15 8 r c n none none none none) :=
        plc_g (ds := [dC C, dI R, dI S]) (ms := [.ow .sh, .ow .sh, .ow .sh]) (zs := C.map dR) (em := .sh) (m2 := .sh) (j := 0) rfl hb1 (by simp only [pS]; generalize dV C R S = V; simp [mFn, mSeq, mSet, mRet, mDrop, mIf, mNext, mPass, sE, sT, putM, keepD, bnd, ret, lft, mC, mVar, mMov, mFrz, mSh, mOp2, mOp1, mOpN, mNil, mCons, mTst, mAnd, mOr, mNot, mAndV, mOrV, mNotV, mIfE, mYes_ap, mONo, mOSome, mCall, back, backO, backE, isSh, nbB_cons, nbB_nil, nb_none, nb_some, Md.nb, Md.nbs, Md.beq, Md.beqs, D.atm, D.atms, oI, oAdd, oSub, oMul, oDiv, oMod, oPow, oLt, oLe, oGt, oGe, oNeg, oIx, oLen, intOf, mChain, mLst, mTup, mgN, forT, compT, wipeS, itMd, elSh, D.isN, oIsN, oNotN, Md.okB, Md.okBs, lim1, lim2, lim3, lim4, lim0', hj]) rfl rfl rfl
      refine ⟨.tup [.lst (C.map dR).dropLast, dI R, dI S], M15, gdV_tup (mem3 (pa_lst (mem_drop5 it_rows)) pa_I pa_I), rfl, ?_⟩
      have e : partOf (pS ns (dV C R S) M15 8 r c n none none none none) 1 0 = some (C.map dR, .sh) := rfl
      simp only [mPopP, hm, Option.bind_some, e, hb1, decide_eq_true nC, Md.beq, Bool.and_self, if_true]
      rfl
    · have hm : mPlc 1 (mOp2 oMod (mOp2 oDiv (mVar 5) (mC (.int 2))) (mC (.int 3))) (pS ns (dV C R S) M15 8 r c n none none none none) = some (1, pS ns (dV C R S) M15 8 r c n none none none none) :=
        plc_g (ds := [dC C, dI R, dI S]) (ms := [.ow .sh, .ow .sh, .ow .sh]) (zs := R.map D.int) (em := .sh) (m2 := .sh) (j := 1) rfl hb1 (by simp only [pS]; generalize dV C R S = V; simp [mFn, mSeq, mSet, mRet, mDrop, mIf, mNext, mPass, sE, sT, putM, keepD, bnd, ret, lft, mC, mVar, mMov, mFrz, mSh, mOp2, mOp1, mOpN, mNil, mCons, mTst, mAnd, mOr, mNot, mAndV, mOrV, mNotV, mIfE, mYes_ap, mONo, mOSome, mCall, back, backO, backE, isSh, nbB_cons, nbB_nil, nb_none, nb_some, Md.nb, Md.nbs, Md.beq, Md.beqs, D.atm, D.atms, oI, oAdd, oSub, oMul, oDiv, oMod, oPow, oLt, oLe, oGt, oGe, oNeg, oIx, oLen, intOf, mChain, mLst, mTup, mgN, forT, compT, wipeS, itMd, elSh, D.isN, oIsN, oNotN, Md.okB, Md.okBs, lim1, lim2, lim3, lim4, lim0', hj]) rfl rfl rfl
      refine ⟨.tup [dC C, .lst (R.map D.int).dropLast, dI S], M15, gdV_tup (mem3 pa_C (pa_lst (mem_drop5 it_ints)) pa_I), rfl, ?_⟩
      have e : partOf (pS ns (dV C R S) M15 8 r c n none none none none) 1 1 = some (R.map D.int, .sh) := rfl
      simp only [mPopP, hm, Option.bind_some, e, hb1, decide_eq_true nR, Md.beq, Bool.and_self, if_true]
      rfl
    · have hm : mPlc 1 (mOp2 oMod (mOp2 oDiv (mVar 5) (mC (.int 2))) (mC (.int 3))) (pS ns (dV C R S) M15 8 r c n none none none none) = some (2, pS ns (dV C R S) M15 8 r c n none none none none) :=
        plc_g (ds := [dC C, dI R, dI S]) (ms := [.ow .sh, .ow .sh, .ow .sh]) (zs := S.map D.int) (em := .sh) (m2 := .sh) (j := 2) rfl hb1 (by simp only [pS]; generalize dV C R S = V; simp [mFn, mSeq, mSet, mRet, mDrop, mIf, mNext, mPass, sE, sT, putM, keepD, bnd, ret, lft, mC, mVar, mMov, mFrz, mSh, mOp2, mOp1, mOpN, mNil, mCons, mTst, mAnd, mOr, mNot, mAndV, mOrV, mNotV, mIfE, mYes_ap, mONo, mOSome, mCall, back, backO, backE, isSh, nbB_cons, nbB_nil, nb_none, nb_some, Md.nb, Md.nbs, Md.beq, Md.beqs, D.atm, D.atms, oI, oAdd, oSub, oMul, oDiv, oMod, oPow, oLt, oLe, oGt, oGe, oNeg, oIx, oLen, intOf, mChain, mLst, mTup, mgN, forT, compT, wipeS, itMd, elSh, D.isN, oIsN, oNotN, Md.okB, Md.okBs, lim1, lim2, lim3, lim4, lim0', hj]) rfl rfl rfl
      refine ⟨.tup [dC C, dI R, .lst (S.map D.int).dropLast], M15, gdV_tup (mem3 pa_C pa_I (pa_lst (mem_drop5 it_ints))), rfl, ?_⟩
      have e : partOf (pS ns (dV C R S) M15 8 r c n none none none none) 1 2 = some (S.map D.int, .sh) := rfl
      simp only [mPopP, hm, Option.bind_some, e, hb1, decide_eq_true nS, Md.beq, Bool.and_self, if_true]
      rfl
  · rw [mIf_f (by simp [mAnd, bnd, ckE, ckN, h2]) hb, mIf_t (ckE 8) hb]
    have lR : (R.map D.int).length < lim := by rw [List.length_map, v.rl]; exact Nat.lt_of_lt_of_le (Nat.lt_succ_of_le v.h8) (le_lim (by decide))
    have lS : (S.map D.int).length < lim := by rw [List.length_map]; exact Nat.lt_of_lt_of_le (Nat.lt_succ_of_le v.w8) (le_lim (by decide))
    have hj : n / 2 % 2 = 0 ∨ n / 2 % 2 = 1 := by omega
    have ez : mC (.int 0) (pS ns (dV C R S) M05 8 r c n none none none none) = some (.ok (.int 0, .sh), pS ns (dV C R S) M05 8 r c n none none none none) := rfl
    rcases hj with hj | hj
    · have hm : mPlc 1 (mOp2 oAdd (mC (.int 1)) (mOp2 oMod (mOp2 oDiv (mVar 5) (mC (.int 2))) (mC (.int 2)))) (pS ns (dV C R S) M05 8 r c n none none none none) = some (1, pS ns (dV C R S) M05 8 r c n none none none none) :=
        plc_g (ds := [dC C, dI R, dI S]) (ms := [.ow (.ow .sh), .ow .sh, .ow .sh]) (zs := R.map D.int) (em := .sh) (m2 := .sh) (j := 1) rfl hb (by simp only [pS]; generalize dV C R S = V; simp [mFn, mSeq, mSet, mRet, mDrop, mIf, mNext, mPass, sE, sT, putM, keepD, bnd, ret, lft, mC, mVar, mMov, mFrz, mSh, mOp2, mOp1, mOpN, mNil, mCons, mTst, mAnd, mOr, mNot, mAndV, mOrV, mNotV, mIfE, mYes_ap, mONo, mOSome, mCall, back, backO, backE, isSh, nbB_cons, nbB_nil, nb_none, nb_some, Md.nb, Md.nbs, Md.beq, Md.beqs, D.atm, D.atms, oI, oAdd, oSub, oMul, oDiv, oMod, oPow, oLt, oLe, oGt, oGe, oNeg, oIx, oLen, intOf, mChain, mLst, mTup, mgN, forT, compT, wipeS, itMd, elSh, D.isN, oIsN, oNotN, Md.okB, Md.okBs, lim1, lim2, lim3, lim4, lim0', hj]) rfl rfl rfl
      refine ⟨.tup [dC C, .lst (R.map D.int ++ [.int 0]), dI S], M05, gdV_tup (mem3 pa_C (pa_lst (mem_app5 it_ints ce_int.it)) pa_I), rfl, ?_⟩
      have e : partOf (pS ns (dV C R S) M05 8 r c n none none none none) 1 1 = some (R.map D.int, .sh) := rfl
      simp only [mApP, hm, ez, Option.bind_some, e, hb, decide_eq_true lR, Md.beq, isSh, Bool.and_self, if_true]
      rfl
    · have hm : mPlc 1 (mOp2 oAdd (mC (.int 1)) (mOp2 oMod (mOp2 oDiv (mVar 5) (mC (.int 2))) (mC (.int 2)))) (pS ns (dV C R S) M05 8 r c n none none none none) = some (2, pS ns (dV C R S) M05 8 r c n none none none none) :=
        plc_g (ds := [dC C, dI R, dI S]) (ms := [.ow (.ow .sh), .ow .sh, .ow .sh]) (zs := S.map D.int) (em := .sh) (m2 := .sh) (j := 2) rfl hb (by simp only [pS]; generalize dV C R S = V; simp [mFn, mSeq, mSet, mRet, mDrop, mIf, mNext, mPass, sE, sT, putM, keepD, bnd, ret, lft, mC, mVar, mMov, mFrz, mSh, mOp2, mOp1, mOpN, mNil, mCons, mTst, mAnd, mOr, mNot, mAndV, mOrV, mNotV, mIfE, mYes_ap, mONo, mOSome, mCall, back, backO, backE, isSh, nbB_cons, nbB_nil, nb_none, nb_some, Md.nb, Md.nbs, Md.beq, Md.beqs, D.atm, D.atms, oI, oAdd, oSub, oMul, oDiv, oMod, oPow, oLt, oLe, oGt, oGe, oNeg, oIx, oLen, intOf, mChain, mLst, mTup, mgN, forT, compT, wipeS, itMd, elSh, D.isN, oIsN, oNotN, Md.okB, Md.okBs, lim1, lim2, lim3, lim4, lim0', hj]) rfl rfl rfl
      refine ⟨.tup [dC C, dI R, .lst (S.map D.int ++ [.int 0])], M05, gdV_tup (mem3 pa_C pa_I (pa_lst (mem_app5 it_ints ce_int.it))), rfl, ?_⟩
      have e : partOf (pS ns (dV C R S) M05 8 r c n none none none none) 1 2 = some (S.map D.int, .sh) := rfl
      simp only [mApP, hm, ez, Option.bind_some, e, hb, decide_eq_true lS, Md.beq, isSh, Bool.and_self, if_true]
      rfl
/-- the tenth way: another thing altogether -/
theorem way9 {ns : List Int} {C : Cs} {R S : List Int} {n : Int} {r c : Nat} (h0 : 0 ≤ n) : ∃ d s, GdV d ∧ s__law_spoilt_v1_10 (pS ns (dV C R S) M05 9 r c n none none none none) = some (.rt (d, .sh) s) := by
  obtain ⟨x, gx, ex⟩ := other5_ok (C := C) (R := R) (S := S) h0
  have hb := pS_nb (ns := ns) (v := dV C R S) (m := M05) (way := 9) (r := (r : Int)) (c := (c : Int)) (n := n) (x6 := none) (x7 := none) (x8 := none) (x9 := none) rfl rfl rfl rfl rfl
  refine ⟨x, pS ns (dV C R S) .sh 9 r c n none none none none, gx, ?_⟩
  unfold s__law_spoilt_v1_10
  rw [mIf_t (ckE 9) hb]
  simp only [pS]
  generalize dV C R S = V at *
  simp [mFn, mSeq, mSet, mRet, mDrop, mIf, mNext, mPass, sE, sT, putM, keepD, bnd, ret, lft, mC, mVar, mMov, mFrz, mSh, mOp2, mOp1, mOpN, mNil, mCons, mTst, mAnd, mOr, mNot, mAndV, mOrV, mNotV, mIfE, mYes_ap, mONo, mOSome, mCall, back, backO, backE, isSh, nbB_cons, nbB_nil, nb_none, nb_some, Md.nb, Md.nbs, Md.beq, Md.beqs, D.atm, D.atms, oI, oAdd, oSub, oMul, oDiv, oMod, oPow, oLt, oLe, oGt, oGe, oNeg, oIx, oLen, intOf, mChain, mLst, mTup, mgN, forT, compT, wipeS, itMd, elSh, D.isN, oIsN, oNotN, Md.okB, Md.okBs, lim1, lim2, lim3, lim4, lim0', ex]
theorem vb0_V {C : Cs} {R S : List Int} {n : Md} : oIx (dV C R S, .bw) (.int 0, n) = some (dC C, .bw) := by simp [oIx, dV, atI_nat', itMd, D.atm, isSh, dC]
theorem rb_V {C : Cs} {r : Nat} {x : List (Option Int)} {n : Md} (h : C[r]? = some x) : oIx (dC C, .bw) (.int (r : Int), n) = some (dR x, .bw) := by
  simp [oIx, dC, atI_nat', itMd, D.atm, isSh, dR, h]
theorem atms_O {x : List (Option Int)} : D.atms (x.map dO) = true := by
  induction x with
  | nil => rfl
  | cons a x ih => cases a <;> simp [D.atms, dO, D.atm, ih]
/-- the eleventh way: a row is another thing -/
theorem way10 {ns : List Int} {C : Cs} {R S : List Int} {n : Int} {r c : Nat} (v : Vw C R S) (hr : r < R.length) (h0 : 0 ≤ n) : ∃ d M y6, GdV d ∧ M.nb = true ∧ Ent.nb y6 = true ∧ s__law_spoilt_v1_11 (pS ns (dV C R S) M05 10 r c n none none none none) = some (.nx (pS ns d M 10 r c n y6 none none none)) := by
  have hb := pS_nb (ns := ns) (v := dV C R S) (m := M05) (way := 10) (r := (r : Int)) (c := (c : Int)) (n := n) (x6 := none) (x7 := none) (x8 := none) (x9 := none) rfl rfl rfl rfl rfl
  have hrC : r < C.length := by rw [← v.rl]; exact hr
  have hx := List.getElem?_eq_getElem hrC
  obtain ⟨x, ex⟩ : ∃ x, C[r] = x := ⟨_, rfl⟩
  rw [ex] at hx
  have xl : x.length = S.length := v.row x (ex ▸ List.getElem_mem _)
  have x8 := v.w8
  have hxl : x.length + 1 ≤ lim := le_lim (by omega)
  obtain ⟨o, ho, e⟩ := atI_some (xs := [D.tup (x.map dO), .non, .str "ab", .int 7, .lst (cutD (x.map dO) none (some (-1))), .lst (x.map dO ++ [.non]), .lst [], .dK [] []]) (k := n % 8) (by omega) (by simp; omega)
  have go : ItG o := by
    simp only [List.mem_cons, List.not_mem_nil, or_false] at ho
    rcases ho with rfl | rfl | rfl | rfl | rfl | rfl | rfl | rfl
    · refine ⟨rfl, ⟨tames5.mpr fun c hc => (ce_cells c hc).1.2.1, ?_⟩, fun cs z => nomatch z⟩
      simp only [D.dep]
      have := deps5.mpr fun c hc => (ce_cells (x := x) c hc).1.2.2
      omega
    · exact ⟨rfl, ⟨rfl, by simp [D.dep]⟩, fun cs z => nomatch z⟩
    · exact ⟨rfl, ⟨rfl, by simp [D.dep]⟩, fun cs z => nomatch z⟩
    · exact ce_int.it
    · exact it_lst fun c hc => ce_cells c (List.mem_of_mem_drop (List.mem_of_mem_take hc))
    · refine it_lst fun c hc => ?_
      rcases List.mem_append.mp hc with h1 | h1
      · exact ce_cells c h1
      · rw [List.mem_singleton.mp h1]
        exact ⟨⟨rfl, rfl, by simp [D.dep]⟩, fun cs z => nomatch z⟩
    · exact it_lst fun c hc => nomatch hc
    · exact ⟨rfl, ⟨rfl, by simp [D.dep, D.deps]⟩, fun cs z => nomatch z⟩
  let L : List D := [D.tup (x.map dO), .non, .str "ab", .int 7, .lst (cutD (x.map dO) none (some (-1))), .lst (x.map dO ++ [.non]), .lst [], .dK [] []]
  have hL : L = [D.tup (x.map dO), .non, .str "ab", .int 7, .lst (cutD (x.map dO) none (some (-1))), .lst (x.map dO ++ [.non]), .lst [], .dK [] []] := rfl
  refine ⟨tV (.lst ((C.map dR).set r o)) (R.map .int) (S.map .int), M15, some (.lst L, .sh), gdV_tup (mem3 (pa_lst (mem_set5 it_rows go)) (pa_lst it_ints) (pa_lst it_ints)), rfl, rfl, ?_⟩
  have v0 := fun n => vb0_V (C := C) (R := R) (S := S) (n := n)
  have rb := fun n => rb_V (n := n) hx
  have a1 : (dV C R S).atm = false := atm_tV
  have a2 : (dC C).atm = false := rfl
  have a3 : (dR x).atm = false := rfl
  have tu : oTuple [(dR x, .bw)] = some (.tup (x.map dO), .sh) := by simp [oTuple, dR, elSh, atms_O]
  have sl : oSl (dR x, .bw) none (some (-1)) = some (.lst (cutD (x.map dO) none (some (-1))), .ow .sh) := by simp [oSl, dR, elSh, atms_O]
  have ca : ∀ m, oCat (dR x, .bw) (.lst [.non], m) = some (.lst (x.map dO ++ [.non]), .ow .sh) := fun m => by
    have : elSh m [D.non] = true := by unfold elSh; split <;> first | rfl | simp [D.atms, D.atm]
    have q : elSh .bw (x.map dO) = true := atms_O
    simp [oCat, dR, q, hxl, this]
  have l8 : 8 ≤ lim := le_lim (by decide)
  have f1 : mSet 6 (mSh (mLst .sh (mCons (mOpN oTuple (mCons (mOp2 oIx (mOp2 oIx (mVar 1) (mC (.int 0))) (mVar 3)) mNil)) (mCons (mC .non) (mCons (mC (.str "ab")) (mCons (mC (.int 7)) (mCons (mSh (mSl (mOp2 oIx (mOp2 oIx (mVar 1) (mC (.int 0))) (mVar 3)) mONo (mOSome (mOp1 oNeg (mC (.int 1)))))) (mCons (mSh (mOp2 oCat (mOp2 oIx (mOp2 oIx (mVar 1) (mC (.int 0))) (mVar 3)) (mLst .sh (mCons (mC .non) mNil)))) (mCons (mSh (mLst .sh mNil)) (mCons (mC (.dK [] [])) mNil)))))))))) (pS ns (dV C R S) M05 10 r c n none none none none) = some (.nx (pS ns (dV C R S) M05 10 r c n (some (.lst L, .sh)) none none none)) := by
    rw [hL]
    simp only [pS]
    generalize dV C R S = V at *
    generalize dC C = c0 at *
    generalize dR x = r0 at *
    simp [mFn, mSeq, mSet, mRet, mDrop, mIf, mNext, mPass, sE, sT, putM, keepD, bnd, ret, lft, mC, mVar, mMov, mFrz, mSh, mOp2, mOp1, mOpN, mNil, mCons, mTst, mAnd, mOr, mNot, mAndV, mOrV, mNotV, mIfE, mYes_ap, mONo, mOSome, mCall, back, backO, backE, isSh, nbB_cons, nbB_nil, nb_none, nb_some, Md.nb, Md.nbs, Md.beq, Md.beqs, D.atm, D.atms, oI, oAdd, oSub, oMul, oDiv, oMod, oPow, oLt, oLe, oGt, oGe, oNeg, oLen, intOf, mChain, mLst, mTup, mgN, forT, compT, wipeS, itMd, elSh, D.isN, oIsN, oNotN, Md.okB, Md.okBs, lim1, lim2, lim3, lim4, lim0', v0, rb, a1, a2, a3, tu, sl, ca, mSl, l8]
  have hb2 := pS_nb (ns := ns) (v := dV C R S) (m := M05) (way := 10) (r := (r : Int)) (c := (c : Int)) (n := n) (x6 := some (.lst L, .sh)) (x7 := none) (x8 := none) (x9 := none) rfl rfl rfl rfl rfl
  have hb3 := pS_nb (ns := ns) (v := dV C R S) (m := M15) (way := 10) (r := (r : Int)) (c := (c : Int)) (n := n) (x6 := some (.lst L, .sh)) (x7 := none) (x8 := none) (x9 := none) rfl rfl rfl rfl rfl
  unfold s__law_spoilt_v1_11
  rw [mIf_t (ckE 10) hb, mSeq_nx f1 hb2, part0_V hb2]
  have hm : mPlc 1 (mC (.int 0)) (pS ns (dV C R S) M15 10 r c n (some (.lst L, .sh)) none none none) = some (0, pS ns (dV C R S) M15 10 r c n (some (.lst L, .sh)) none none none) :=
    plc_g (ds := [dC C, dI R, dI S]) (ms := [.ow .sh, .ow .sh, .ow .sh]) (zs := C.map dR) (em := .sh) (m2 := .sh) (j := 0) rfl hb3 rfl rfl rfl rfl
  have ev : mOp2 oIx (mVar 6) (mOp2 oMod (mVar 5) (mC (.int 8))) (pS ns (dV C R S) M15 10 r c n (some (.lst L, .sh)) none none none) = some (.ok (o, .sh), pS ns (dV C R S) M15 10 r c n (some (.lst L, .sh)) none none none) := by
    have e2 := fun m => oIx_sh (n := m) e
    rw [← hL] at e2
    simp only [pS]
    generalize dV C R S = V at *
    generalize L = L at *
    simp [mFn, mSeq, mSet, mRet, mDrop, mIf, mNext, mPass, sE, sT, putM, keepD, bnd, ret, lft, mC, mVar, mMov, mFrz, mSh, mOp2, mOp1, mOpN, mNil, mCons, mTst, mAnd, mOr, mNot, mAndV, mOrV, mNotV, mIfE, mYes_ap, mONo, mOSome, mCall, back, backO, backE, isSh, nbB_cons, nbB_nil, nb_none, nb_some, Md.nb, Md.nbs, Md.beq, Md.beqs, D.atm, D.atms, oI, oAdd, oSub, oMul, oDiv, oMod, oPow, oLt, oLe, oGt, oGe, oNeg, oLen, intOf, mChain, mLst, mTup, mgN, forT, compT, wipeS, itMd, elSh, D.isN, oIsN, oNotN, Md.okB, Md.okBs, lim1, lim2, lim3, lim4, lim0', e2]
  have er : mVar 3 (pS ns (dV C R S) M15 10 r c n (some (.lst L, .sh)) none none none) = some (.ok (.int r, .sh), pS ns (dV C R S) M15 10 r c n (some (.lst L, .sh)) none none none) := rfl
  have ir : ixN (C.map dR).length (r : Int) = some r := by rw [List.length_map]; exact ixN_nat hrC
  have ep : partOf (pS ns (dV C R S) M15 10 r c n (some (.lst L, .sh)) none none none) 1 0 = some (C.map dR, .sh) := rfl
  simp only [mStP, ev, hm, Option.bind_some, er, intOf, ep, ir, hb3, Md.beq, isSh, Bool.and_self, if_true]
  rfl
end Ve

set_option Elab.async false
set_option linter.all false
set_option maxRecDepth 100000
set_option maxHeartbeats 4000000
namespace Ve
open PySem L2 L2H
theorem rep5 (d : D) (w : Nat) : (List.replicate w [d]).flatten = List.replicate w d := by
  induction w with
  | zero => rfl
  | succ w ih => simp [List.replicate_succ, ih]
theorem repO {d : D} {w : Nat} (h : w ≤ 1000) : oRep (.lst [d], .ow .sh) (.int (w : Int), .sh) = some (.lst (List.replicate w d), .ow .sh) := by
  have : (w : Int) ≤ 1000 := by omega
  simp [oRep, elSh, this, rep5]
theorem mem_rep5 {d : D} {w : Nat} {P : D → Prop} (h : P d) : ∀ x ∈ List.replicate w d, P x := fun x hx => by
  rw [(List.mem_replicate.mp hx).2]; exact h
/-- the last way: a new view, too high or too wide -/
theorem way11 {ns : List Int} {C : Cs} {R S : List Int} {n : Int} {r c : Nat} (v : Vw C R S) (h0 : 0 ≤ n) : ∃ d M s, GdV d ∧ M.nb = true ∧ s__law_spoilt_v1_12 (pS ns (dV C R S) M05 11 r c n none none none none) = some (.rt (d, M) s) := by
  have hb := pS_nb (ns := ns) (v := dV C R S) (m := M05) (way := 11) (r := (r : Int)) (c := (c : Int)) (n := n) (x6 := none) (x7 := none) (x8 := none) (x9 := none) rfl rfl rfl rfl rfl
  have a1 : (dV C R S).atm = false := atm_tV
  have a2 : ∀ xs, (dI xs).atm = false := fun _ => rfl
  have v1 : ∀ n, oIx (dV C R S, .bw) (.int 1, n) = some (dI R, .bw) := fun n => ixV1
  have v2 : ∀ n, oIx (dV C R S, .bw) (.int 2, n) = some (dI S, .bw) := fun n => ixV2
  have h8 := v.h8
  have w8 := v.w8
  have rl := v.rl
  have lR : ∀ m, oLen [(dI R, m)] = some (.int (R.length : Int), .sh) := fun m => oLen_I
  have lS : ∀ m, oLen [(dI S, m)] = some (.int (S.length : Int), .sh) := fun m => oLen_I
  obtain ⟨q, eq, q9⟩ : ∃ q : Nat, 8 + n / 2 % 2 = (q : Int) ∧ q ≤ 9 := ⟨(8 + n / 2 % 2).toNat, by omega, by omega⟩
  have hm : n % 2 = 0 ∨ n % 2 = 1 := by omega
  obtain ⟨hh, ww, hh9, ww9, ei⟩ : ∃ hh ww : Nat, hh ≤ 9 ∧ ww ≤ 9 ∧ ∀ m, oIx (.lst [.tup [.int (q : Int), .int (S.length : Int)], .tup [.int (R.length : Int), .int (q : Int)]], .sh) (.int (n % 2), m) = some (.tup [.int (hh : Int), .int (ww : Int)], .sh) := by
    rcases hm with h2 | h2
    · exact ⟨q, S.length, q9, by omega, fun m => by rw [h2]; exact oIx_sh rfl⟩
    · exact ⟨R.length, q, by omega, q9, fun m => by rw [h2]; exact oIx_sh rfl⟩
  have f1 : mAsg (mgT 2 (mgCons (mgN 7) (mgCons (mgN 8) mgNil))) (mOp2 oIx (mSh (mLst .sh (mCons (mTup (mCons (mOp2 oAdd (mC (.int 8)) (mOp2 oMod (mOp2 oDiv (mVar 5) (mC (.int 2))) (mC (.int 2)))) (mCons (mOpN oLen (mCons (mOp2 oIx (mVar 1) (mC (.int 2))) mNil)) mNil))) (mCons (mTup (mCons (mOpN oLen (mCons (mOp2 oIx (mVar 1) (mC (.int 1))) mNil)) (mCons (mOp2 oAdd (mC (.int 8)) (mOp2 oMod (mOp2 oDiv (mVar 5) (mC (.int 2))) (mC (.int 2)))) mNil))) mNil)))) (mOp2 oMod (mVar 5) (mC (.int 2)))) (pS ns (dV C R S) M05 11 r c n none none none none) = some (.nx (pS ns (dV C R S) M05 11 r c n none (some (.int (hh : Int), .sh)) (some (.int (ww : Int), .sh)) none)) := by
    simp only [pS]
    have a2R := a2 R
    have a2S := a2 S
    generalize dV C R S = V at *
    generalize dI R = r0 at *
    generalize dI S = s0 at *
    simp [mFn, mSeq, mSet, mRet, mDrop, mIf, mNext, mPass, sE, sT, putM, keepD, bnd, ret, lft, mC, mVar, mMov, mFrz, mSh, mOp2, mOp1, mOpN, mNil, mCons, mTst, mAnd, mOr, mNot, mAndV, mOrV, mNotV, mIfE, mYes_ap, mONo, mOSome, mCall, back, backO, backE, isSh, nbB_cons, nbB_nil, nb_none, nb_some, Md.nb, Md.nbs, Md.beq, Md.beqs, D.atm, D.atms, oI, oAdd, oSub, oMul, oDiv, oMod, oPow, oLt, oLe, oGt, oGe, oNeg, intOf, mChain, mLst, mTup, mgN, forT, compT, wipeS, itMd, elSh, D.isN, oIsN, oNotN, Md.okB, Md.okBs, lim1, lim2, lim3, lim4, lim0', mAsg, mgT, mgCons, mgNil, parts, a1, a2R, a2S, v1, v2, lR, lS, eq, ei]
  have hb2 := pS_nb (ns := ns) (v := dV C R S) (m := M05) (way := 11) (r := (r : Int)) (c := (c : Int)) (n := n) (x6 := none) (x7 := some (.int (hh : Int), .sh)) (x8 := some (.int (ww : Int), .sh)) (x9 := none) rfl rfl rfl rfl rfl
  have ir : iR [(.int (hh : Int), Md.sh)] = some (rng hh) := iR_nat (by omega)
  have rn := repO (d := .non) (w := ww) (by omega)
  have rh := repO (d := .int 0) (w := hh) (by omega)
  have rw' := repO (d := .int 0) (w := ww) (by omega)
  have inner : compL (.ow .sh) [9] (mgN 9) mYes e__law_spoilt_v1_1 (rng hh) [] (pS ns (dV C R S) M05 11 r c n none (some (.int (hh : Int), .sh)) (some (.int (ww : Int), .sh)) none) = some ((List.range hh).map (fun _ => D.lst (List.replicate ww .non)), pS ns (dV C R S) M05 11 r c n none (some (.int (hh : Int), .sh)) (some (.int (ww : Int), .sh)) none) := compL_rng fun i hi => by
    simp only [pS]
    generalize dV C R S = V at *
    simp [mFn, mSeq, mSet, mRet, mDrop, mIf, mNext, mPass, sE, sT, putM, keepD, bnd, ret, lft, mC, mVar, mMov, mFrz, mSh, mOp2, mOp1, mOpN, mNil, mCons, mTst, mAnd, mOr, mNot, mAndV, mOrV, mNotV, mIfE, mYes_ap, mONo, mOSome, mCall, back, backO, backE, isSh, nbB_cons, nbB_nil, nb_none, nb_some, Md.nb, Md.nbs, Md.beq, Md.beqs, D.atm, D.atms, oI, oAdd, oSub, oMul, oDiv, oMod, oPow, oLt, oLe, oGt, oGe, oNeg, oIx, oLen, intOf, mChain, mLst, mTup, mgN, forT, compT, wipeS, itMd, elSh, D.isN, oIsN, oNotN, Md.okB, Md.okBs, lim1, lim2, lim3, lim4, lim0', e__law_spoilt_v1_1, rn]
  have l3 : (rng hh).length ≤ lim := by rw [rng_len]; exact le_lim (by omega)
  refine ⟨.tup [.lst ((List.range hh).map fun _ => D.lst (List.replicate ww .non)), .lst (List.replicate hh (.int 0)), .lst (List.replicate ww (.int 0))], .tp [.ow (.ow .sh), .ow .sh, .ow .sh], pS ns (dV C R S) M05 11 r c n none (some (.int (hh : Int), .sh)) (some (.int (ww : Int), .sh)) none, gdV_tup (mem3 (pa_lst fun x hx => ?_) (pa_lst (mem_rep5 ce_int.it)) (pa_lst (mem_rep5 ce_int.it))), rfl, ?_⟩
  · obtain ⟨i, _, rfl⟩ := List.mem_map.mp hx
    exact it_lst (mem_rep5 ⟨⟨rfl, rfl, by simp [D.dep]⟩, fun cs z => nomatch z⟩)
  unfold s__law_spoilt_v1_12
  rw [mIf_t (ckE 11) hb, mSeq_nx f1 hb2]
  simp only [pS] at inner ⊢
  generalize dV C R S = V at *
  generalize D.lst (List.replicate hh (.int 0)) = b at *
  generalize D.lst (List.replicate ww (.int 0)) = d at *
  generalize (List.range hh).map (fun _ => D.lst (List.replicate ww .non)) = A at *
  simp [mFn, mSeq, mSet, mRet, mDrop, mIf, mNext, mPass, sE, sT, putM, keepD, bnd, ret, lft, mC, mVar, mMov, mFrz, mSh, mOp2, mOp1, mOpN, mNil, mCons, mTst, mAnd, mOr, mNot, mAndV, mOrV, mNotV, mIfE, mYes_ap, mONo, mOSome, mCall, back, backO, backE, isSh, nbB_cons, nbB_nil, nb_none, nb_some, Md.nb, Md.nbs, Md.beq, Md.beqs, D.atm, D.atms, oI, oAdd, oSub, oMul, oDiv, oMod, oPow, oLt, oLe, oGt, oGe, oNeg, oIx, oLen, intOf, mChain, mLst, mTup, mgN, forT, compT, wipeS, itMd, elSh, D.isN, oIsN, oNotN, Md.okB, Md.okBs, lim1, lim2, lim3, lim4, lim0', mComp, mItR, ir, inner, l3, rh, rw']
theorem sp5 (ns : List Int) (g : List (List Int)) (w : Nat) (ps : List Pl) (hn : ns.length ≤ 63) (tb : Tb g w) : ∃ d md, GdV d ∧ md.nb = true ∧ m__law_spoilt_v1 [(.fz ns, .sh), (dV (cellsT g w ps) (g.map List.sum) (colS g w), .tp [.ow (.ow .sh), .ow .sh, .ow .sh])] = some (d, md) := by
  have v := vw_T (ps := ps) tb
  generalize cellsT g w ps = C at *
  generalize g.map List.sum = R at *
  generalize colS g w = S at *
  have fin : ∀ d md s, GdV d → md.nb = true → b__law_spoilt_v1 [some (.fz ns, .sh), some (dV C R S, M05), none, none, none, none, none, none, none, none] = some (.rt (d, md) s) → ∃ d md, GdV d ∧ md.nb = true ∧ m__law_spoilt_v1 [(.fz ns, .sh), (dV C R S, .tp [.ow (.ow .sh), .ow .sh, .ow .sh])] = some (d, md) := fun d md s gd nb e => by
    refine ⟨d, md, gd, nb, ?_⟩
    have st : ([(D.fz ns, Md.sh), (dV C R S, M05)].map some : SS) ++ List.replicate 8 none = [some (.fz ns, .sh), some (dV C R S, M05), none, none, none, none, none, none, none, none] := rfl
    simp only [m__law_spoilt_v1, mFnM, st, e]
    simp [nb]
  have m3 := mix_ok hn (show (0 : Int) ≤ 3 by decide)
  have m4 := mix_ok hn (show (0 : Int) ≤ 4 by decide)
  have m5 := mix_ok hn (show (0 : Int) ≤ 5 by decide)
  have m7 := mix_ok hn (show (0 : Int) ≤ 7 by decide)
  rw [← mix_v1_eq] at m3 m4 m5 m7
  have n7 : 0 ≤ mix ns 7 := mix_nn _ _
  generalize mix ns 7 = n at *
  have n3 : 0 ≤ mix ns 3 % 12 ∧ mix ns 3 % 12 < 12 := by omega
  obtain ⟨way, ew⟩ : ∃ way, mix ns 3 % 12 = way := ⟨_, rfl⟩
  rw [ew] at n3
  have R1 : 1 ≤ R.length := by rw [v.rl]; exact v.h1
  obtain ⟨r, er, hr⟩ := mod_of (ns := ns) (k := 4) R1
  obtain ⟨c, ec, hc⟩ := mod_of (ns := ns) (k := 5) v.w1
  have a1 : (dV C R S).atm = false := atm_tV
  have a2 : ∀ xs, (dI xs).atm = false := fun _ => rfl
  have v1 : ∀ n, oIx (dV C R S, .bw) (.int 1, n) = some (dI R, .bw) := fun n => ixV1
  have v2 : ∀ n, oIx (dV C R S, .bw) (.int 2, n) = some (dI S, .bw) := fun n => ixV2
  have lR : ∀ m, oLen [(dI R, m)] = some (.int (R.length : Int), .sh) := fun m => oLen_I
  have lS : ∀ m, oLen [(dI S, m)] = some (.int (S.length : Int), .sh) := fun m => oLen_I
  have zR : 0 < R.length := by omega
  have zS : 0 < S.length := by have := v.w1; omega
  have a2R := a2 R
  have a2S := a2 S
  have f1 : s__law_spoilt_v1_1 [some (.fz ns, .sh), some (dV C R S, M05), none, none, none, none, none, none, none, none] = some (.nx [some (.fz ns, .sh), some (dV C R S, M05), some (.int way, .sh), none, none, none, none, none, none, none]) := by
    generalize dV C R S = V
    simp [mFn, mSeq, mSet, mRet, mDrop, mIf, mNext, mPass, sE, sT, putM, keepD, bnd, ret, lft, mC, mVar, mMov, mFrz, mSh, mOp2, mOp1, mOpN, mNil, mCons, mTst, mAnd, mOr, mNot, mAndV, mOrV, mNotV, mIfE, mYes_ap, mONo, mOSome, mCall, back, backO, backE, isSh, nbB_cons, nbB_nil, nb_none, nb_some, Md.nb, Md.nbs, Md.beq, Md.beqs, D.atm, D.atms, oI, oAdd, oSub, oMul, oDiv, oMod, oPow, oLt, oLe, oGt, oGe, oNeg, oIx, oLen, intOf, mChain, mLst, mTup, mgN, forT, compT, wipeS, itMd, elSh, D.isN, oIsN, oNotN, Md.okB, Md.okBs, lim1, lim2, lim3, lim4, lim0', s__law_spoilt_v1_1, m3, ew]
  have f2 : s__law_spoilt_v1_2 [some (.fz ns, .sh), some (dV C R S, M05), some (.int way, .sh), none, none, none, none, none, none, none] = some (.nx [some (.fz ns, .sh), some (dV C R S, M05), some (.int way, .sh), some (.int r, .sh), none, none, none, none, none, none]) := by
    generalize dV C R S = V at *
    generalize dI R = r0 at *
    simp [mFn, mSeq, mSet, mRet, mDrop, mIf, mNext, mPass, sE, sT, putM, keepD, bnd, ret, lft, mC, mVar, mMov, mFrz, mSh, mOp2, mOp1, mOpN, mNil, mCons, mTst, mAnd, mOr, mNot, mAndV, mOrV, mNotV, mIfE, mYes_ap, mONo, mOSome, mCall, back, backO, backE, isSh, nbB_cons, nbB_nil, nb_none, nb_some, Md.nb, Md.nbs, Md.beq, Md.beqs, D.atm, D.atms, oI, oAdd, oSub, oMul, oDiv, oMod, oPow, oLt, oLe, oGt, oGe, oNeg, intOf, mChain, mLst, mTup, mgN, forT, compT, wipeS, itMd, elSh, D.isN, oIsN, oNotN, Md.okB, Md.okBs, lim1, lim2, lim3, lim4, lim0', s__law_spoilt_v1_2, m4, a1, a2R, v1, lR, er, zR]
  have f3 : s__law_spoilt_v1_3 [some (.fz ns, .sh), some (dV C R S, M05), some (.int way, .sh), some (.int r, .sh), none, none, none, none, none, none] = some (.nx [some (.fz ns, .sh), some (dV C R S, M05), some (.int way, .sh), some (.int r, .sh), some (.int c, .sh), none, none, none, none, none]) := by
    generalize dV C R S = V at *
    generalize dI S = r0 at *
    simp [mFn, mSeq, mSet, mRet, mDrop, mIf, mNext, mPass, sE, sT, putM, keepD, bnd, ret, lft, mC, mVar, mMov, mFrz, mSh, mOp2, mOp1, mOpN, mNil, mCons, mTst, mAnd, mOr, mNot, mAndV, mOrV, mNotV, mIfE, mYes_ap, mONo, mOSome, mCall, back, backO, backE, isSh, nbB_cons, nbB_nil, nb_none, nb_some, Md.nb, Md.nbs, Md.beq, Md.beqs, D.atm, D.atms, oI, oAdd, oSub, oMul, oDiv, oMod, oPow, oLt, oLe, oGt, oGe, oNeg, intOf, mChain, mLst, mTup, mgN, forT, compT, wipeS, itMd, elSh, D.isN, oIsN, oNotN, Md.okB, Md.okBs, lim1, lim2, lim3, lim4, lim0', s__law_spoilt_v1_3, m5, a1, a2S, v2, lS, ec, zS]
  have f4 : s__law_spoilt_v1_4 [some (.fz ns, .sh), some (dV C R S, M05), some (.int way, .sh), some (.int r, .sh), some (.int c, .sh), none, none, none, none, none] = some (.nx (pS ns (dV C R S) M05 way r c n none none none none)) := by
    simp only [pS]
    generalize dV C R S = V
    simp [mFn, mSeq, mSet, mRet, mDrop, mIf, mNext, mPass, sE, sT, putM, keepD, bnd, ret, lft, mC, mVar, mMov, mFrz, mSh, mOp2, mOp1, mOpN, mNil, mCons, mTst, mAnd, mOr, mNot, mAndV, mOrV, mNotV, mIfE, mYes_ap, mONo, mOSome, mCall, back, backO, backE, isSh, nbB_cons, nbB_nil, nb_none, nb_some, Md.nb, Md.nbs, Md.beq, Md.beqs, D.atm, D.atms, oI, oAdd, oSub, oMul, oDiv, oMod, oPow, oLt, oLe, oGt, oGe, oNeg, oIx, oLen, intOf, mChain, mLst, mTup, mgN, forT, compT, wipeS, itMd, elSh, D.isN, oIsN, oNotN, Md.okB, Md.okBs, lim1, lim2, lim3, lim4, lim0', s__law_spoilt_v1_4, m7]
  have hb := pS_nb (ns := ns) (v := dV C R S) (m := M05) (way := way) (r := (r : Int)) (c := (c : Int)) (n := n) (x6 := none) (x7 := none) (x8 := none) (x9 := none) rfl rfl rfl rfl rfl
  have beg : ∀ k : MS, mSeq s__law_spoilt_v1_1 (mSeq s__law_spoilt_v1_2 (mSeq s__law_spoilt_v1_3 (mSeq s__law_spoilt_v1_4 k))) [some (.fz ns, .sh), some (dV C R S, M05), none, none, none, none, none, none, none, none] = k (pS ns (dV C R S) M05 way r c n none none none none) := fun k => by
    rw [mSeq_nx f1 rfl, mSeq_nx f2 rfl, mSeq_nx f3 rfl, mSeq_nx f4 hb]
  unfold b__law_spoilt_v1 at fin
  simp only [beg] at fin
  by_cases w2 : way < 2
  · refine fin (dV C R S) M05 [some (.fz ns, .sh), none, some (.int way, .sh), some (.int r, .sh), some (.int c, .sh), some (.int n, .sh), none, none, none, none] gdV_V rfl ?_
    refine mSeq_rt5 ?_
    unfold s__law_spoilt_v1_5
    have c1 := ck2 (ns := ns) (v := dV C R S) (m := M05) (way := way) (r := (r : Int)) (c := (c : Int)) (n := n) (x6 := none) (x7 := none) (x8 := none) (x9 := none) 2
    rw [decide_eq_true w2] at c1
    rw [mIf_t c1 hb]
    simp only [pS]
    generalize dV C R S = V
    simp [mFn, mSeq, mSet, mRet, mDrop, mIf, mNext, mPass, sE, sT, putM, keepD, bnd, ret, lft, mC, mVar, mMov, mFrz, mSh, mOp2, mOp1, mOpN, mNil, mCons, mTst, mAnd, mOr, mNot, mAndV, mOrV, mNotV, mIfE, mYes_ap, mONo, mOSome, mCall, back, backO, backE, isSh, nbB_cons, nbB_nil, nb_none, nb_some, Md.nb, Md.nbs, Md.beq, Md.beqs, D.atm, D.atms, oI, oAdd, oSub, oMul, oDiv, oMod, oPow, oLt, oLe, oGt, oGe, oNeg, oIx, oLen, intOf, mChain, mLst, mTup, mgN, forT, compT, wipeS, itMd, elSh, D.isN, oIsN, oNotN, Md.okB, Md.okBs, lim1, lim2, lim3, lim4, lim0']
  rw [mSeq_nx (sk5 hb w2) hb] at fin
  by_cases w6 : way < 6
  · obtain ⟨R', S', es⟩ := law_sums5_ok (way := way) (more := 1 + n % 10) v hr hc (by omega)
    refine fin (dV C R' S') (mV (.ow (.ow .sh))) [some (.fz ns, .sh), none, some (.int way, .sh), some (.int r, .sh), some (.int c, .sh), some (.int n, .sh), none, none, none, none] gdV_V rfl ?_
    refine mSeq_rt5 ?_
    unfold s__law_spoilt_v1_6
    have c1 := ck2 (ns := ns) (v := dV C R S) (m := M05) (way := way) (r := (r : Int)) (c := (c : Int)) (n := n) (x6 := none) (x7 := none) (x8 := none) (x9 := none) 6
    rw [decide_eq_true w6] at c1
    rw [mIf_t c1 hb]
    simp only [pS]
    generalize dV C R S = V at *
    generalize dV C R' S' = V' at *
    simp [mFn, mSeq, mSet, mRet, mDrop, mIf, mNext, mPass, sE, sT, putM, keepD, bnd, ret, lft, mC, mVar, mMov, mFrz, mSh, mOp2, mOp1, mOpN, mNil, mCons, mTst, mAnd, mOr, mNot, mAndV, mOrV, mNotV, mIfE, mYes_ap, mONo, mOSome, mCall, back, backO, backE, isSh, nbB_cons, nbB_nil, nb_none, nb_some, Md.nb, Md.nbs, Md.beq, Md.beqs, D.atm, D.atms, oI, oAdd, oSub, oMul, oDiv, oMod, oPow, oLt, oLe, oGt, oGe, oNeg, oIx, oLen, intOf, mChain, mLst, mTup, mgN, forT, compT, wipeS, itMd, elSh, D.isN, oIsN, oNotN, Md.okB, Md.okBs, lim1, lim2, lim3, lim4, lim0', mRetM, es]
  rw [mSeq_nx (sk6 hb w6) hb] at fin
  by_cases e6 : way = 6
  · subst e6
    obtain ⟨d, gd, e⟩ := way6 (ns := ns) v hr hc n7
    have hb2 := pS_nb (ns := ns) (v := d) (m := M05) (way := 6) (r := (r : Int)) (c := (c : Int)) (n := n) (x6 := none) (x7 := none) (x8 := none) (x9 := none) rfl rfl rfl rfl rfl
    rw [mSeq_nx e hb2, mSeq_nx (sk8 hb2 (by decide)) hb2, mSeq_nx (sk9 hb2 (by decide)) hb2, mSeq_nx (sk10 hb2 (by decide)) hb2, mSeq_nx (sk11 hb2 (by decide)) hb2, mSeq_nx (sk12 hb2 (by decide)) hb2] at fin
    exact fin _ _ _ gd rfl (end13 hb2 rfl)
  rw [mSeq_nx (sk7 hb e6) hb] at fin
  by_cases e7 : way = 7
  · subst e7
    obtain ⟨d, gd, e⟩ := way7 (ns := ns) v hr hc n7
    have hb2 := pS_nb (ns := ns) (v := d) (m := M05) (way := 7) (r := (r : Int)) (c := (c : Int)) (n := n) (x6 := none) (x7 := none) (x8 := none) (x9 := none) rfl rfl rfl rfl rfl
    rw [mSeq_nx e hb2, mSeq_nx (sk9 hb2 (by decide)) hb2, mSeq_nx (sk10 hb2 (by decide)) hb2, mSeq_nx (sk11 hb2 (by decide)) hb2, mSeq_nx (sk12 hb2 (by decide)) hb2] at fin
    exact fin _ _ _ gd rfl (end13 hb2 rfl)
  rw [mSeq_nx (sk8 hb e7) hb] at fin
  by_cases e8 : way = 8
  · subst e8
    obtain ⟨d, M, gd, nM, e⟩ := way8 (ns := ns) (r := r) (c := c) v n7
    have hb2 := pS_nb (ns := ns) (v := d) (m := M) (way := 8) (r := (r : Int)) (c := (c : Int)) (n := n) (x6 := none) (x7 := none) (x8 := none) (x9 := none) nM rfl rfl rfl rfl
    rw [mSeq_nx e hb2, mSeq_nx (sk10 hb2 (by decide)) hb2, mSeq_nx (sk11 hb2 (by decide)) hb2, mSeq_nx (sk12 hb2 (by decide)) hb2] at fin
    exact fin _ _ _ gd nM (end13 hb2 nM)
  rw [mSeq_nx (sk9 hb e8) hb] at fin
  by_cases e9 : way = 9
  · subst e9
    obtain ⟨d, s, gd, e⟩ := way9 (ns := ns) (C := C) (R := R) (S := S) (r := r) (c := c) n7
    exact fin d .sh s gd rfl (mSeq_rt5 e)
  rw [mSeq_nx (sk10 hb e9) hb] at fin
  by_cases e10 : way = 10
  · subst e10
    obtain ⟨d, M, y6, gd, nM, n6, e⟩ := way10 (ns := ns) (c := c) v hr n7
    have hb2 := pS_nb (ns := ns) (v := d) (m := M) (way := 10) (r := (r : Int)) (c := (c : Int)) (n := n) (x6 := y6) (x7 := none) (x8 := none) (x9 := none) nM n6 rfl rfl rfl
    rw [mSeq_nx e hb2, mSeq_nx (sk12 hb2 (by decide)) hb2] at fin
    exact fin _ _ _ gd nM (end13 hb2 nM)
  rw [mSeq_nx (sk11 hb e10) hb] at fin
  have e11 : way = 11 := by omega
  subst e11
  obtain ⟨d, M, s, gd, nM, e⟩ := way11 (ns := ns) (r := r) (c := c) v n7
  exact fin d M s gd nM (mSeq_rt5 e)
theorem law_true : ∀ ns : List Int, ns.length ≤ 63 → m_law_v4 [.fz ns] = some (.ok (.bl true, .sh)) := law5_of sp5
end Ve

set_option Elab.async false
set_option linter.all false
set_option maxRecDepth 100000
set_option maxHeartbeats 4000000
namespace Ve
open PySem PySem.Spec PyProof.Rows L2
def topS (i : Nat) : Stmt := PySem.Challenge.pw_veiled_k05_views_known.main.body.getD i (.Pass ⟨0, 0, 0, 0⟩)
abbrev s_is_number : Stmt := topS 10
abbrev s_is_grid : Stmt := topS 11
abbrev s_all_places : Stmt := topS 13
abbrev s_are_sums : Stmt := topS 15
abbrev s_shown_sum : Stmt := topS 16
abbrev s_rests_of : Stmt := topS 17
abbrev s_is_view : Stmt := topS 18
abbrev s_need_view : Stmt := topS 19
abbrev s_hidden_places : Stmt := topS 20
abbrev s_rests : Stmt := topS 21
abbrev s_filled : Stmt := topS 33
abbrev s_need_hidden : Stmt := topS 35
abbrev s_ends : Stmt := topS 37
abbrev s_walls : Stmt := topS 38
abbrev s_given_away : Stmt := topS 40
abbrev s__law_mix : Stmt := topS 42
abbrev s__law_count : Stmt := topS 43
abbrev s__law_table : Stmt := topS 44
abbrev s__law_all : Stmt := topS 45
abbrev s__law_places : Stmt := topS 46
abbrev s__law_column_sums : Stmt := topS 47
abbrev s__law_view : Stmt := topS 48
abbrev s__law_rests : Stmt := topS 50
abbrev s__law_odd : Stmt := topS 51
abbrev s__law_other : Stmt := topS 52
abbrev s__law_sums : Stmt := topS 53
abbrev s__law_spoilt : Stmt := topS 54
abbrev s__law_number : Stmt := topS 55
abbrev s__law_cells : Stmt := topS 56
abbrev s__law_is_view : Stmt := topS 57
abbrev s__law_alone : Stmt := topS 58
abbrev s__law_refused : Stmt := topS 59
abbrev s_law : Stmt := topS 60
theorem bt_isinstance : bootBuiltins "isinstance" = some (.builtin "isinstance") := by decide +kernel
theorem bt_int : bootBuiltins "int" = some (.type "int") := by decide +kernel
theorem bt_bool : bootBuiltins "bool" = some (.type "bool") := by decide +kernel
theorem bt_list : bootBuiltins "list" = some (.type "list") := by decide +kernel
theorem bt_len : bootBuiltins "len" = some (.builtin "len") := by decide +kernel
theorem bt_all : bootBuiltins "all" = some (.builtin "all") := by decide +kernel
theorem bt_sum : bootBuiltins "sum" = some (.builtin "sum") := by decide +kernel
theorem bt_tuple : bootBuiltins "tuple" = some (.type "tuple") := by decide +kernel
theorem bt_min : bootBuiltins "min" = some (.builtin "min") := by decide +kernel
theorem bt_ValueError : bootBuiltins "ValueError" = some (.type "ValueError") := by decide +kernel
structure Txt (tokc_MOST : Tok) (K : PySem.W.Frag) (mg : Str → Option Value) (cl : Nat → Addr) (ad : Nat → Addr) (fds : Nat → FuncData) : Prop where
  F_is_number : Fun K "is_number" "is_number" s_is_number (ad 0) (fds 0)
  g_is_number : mg "is_number" = some (.ref (ad 0))
  b_is_number : Binds K (fds 0) ["thing"] []
  F_is_grid : Fun K "is_grid" "is_grid" s_is_grid (ad 1) (fds 1)
  g_is_grid : mg "is_grid" = some (.ref (ad 1))
  b_is_grid : Binds K (fds 1) ["thing"] []
  F_all_places : Fun K "all_places" "all_places" s_all_places (ad 2) (fds 2)
  g_all_places : mg "all_places" = some (.ref (ad 2))
  b_all_places : Binds K (fds 2) ["grid"] []
  F_are_sums : Fun K "are_sums" "are_sums" s_are_sums (ad 3) (fds 3)
  g_are_sums : mg "are_sums" = some (.ref (ad 3))
  b_are_sums : Binds K (fds 3) ["thing", "many"] []
  F_shown_sum : Fun K "shown_sum" "shown_sum" s_shown_sum (ad 4) (fds 4)
  g_shown_sum : mg "shown_sum" = some (.ref (ad 4))
  b_shown_sum : Binds K (fds 4) ["counts"] []
  F_rests_of : Fun K "rests_of" "rests_of" s_rests_of (ad 5) (fds 5)
  g_rests_of : mg "rests_of" = some (.ref (ad 5))
  b_rests_of : Binds K (fds 5) ["view"] []
  F_is_view : Fun K "is_view" "is_view" s_is_view (ad 6) (fds 6)
  g_is_view : mg "is_view" = some (.ref (ad 6))
  b_is_view : Binds K (fds 6) ["thing"] []
  F_need_view : Fun K "need_view" "need_view" s_need_view (ad 7) (fds 7)
  g_need_view : mg "need_view" = some (.ref (ad 7))
  b_need_view : Binds K (fds 7) ["view"] []
  F_hidden_places : Fun K "hidden_places" "hidden_places" s_hidden_places (ad 8) (fds 8)
  g_hidden_places : mg "hidden_places" = some (.ref (ad 8))
  b_hidden_places : Binds K (fds 8) ["view"] []
  F_rests : Fun K "rests" "rests" s_rests (ad 9) (fds 9)
  g_rests : mg "rests" = some (.ref (ad 9))
  b_rests : Binds K (fds 9) ["view"] []
  F_filled : Fun K "filled" "filled" s_filled (ad 10) (fds 10)
  g_filled : mg "filled" = some (.ref (ad 10))
  b_filled : Binds K (fds 10) ["view"] []
  F_need_hidden : Fun K "need_hidden" "need_hidden" s_need_hidden (ad 11) (fds 11)
  g_need_hidden : mg "need_hidden" = some (.ref (ad 11))
  b_need_hidden : Binds K (fds 11) ["view", "place"] []
  F_ends : Fun K "ends" "ends" s_ends (ad 12) (fds 12)
  g_ends : mg "ends" = some (.ref (ad 12))
  b_ends : Binds K (fds 12) ["view", "place"] []
  F_walls : Fun K "walls" "walls" s_walls (ad 13) (fds 13)
  g_walls : mg "walls" = some (.ref (ad 13))
  b_walls : Binds K (fds 13) ["view", "place"] []
  F_given_away : Fun K "given_away" "given_away" s_given_away (ad 14) (fds 14)
  g_given_away : mg "given_away" = some (.ref (ad 14))
  b_given_away : Binds K (fds 14) ["view", "width"] []
  F__law_mix : Fun K "_law_mix" "_law_mix" s__law_mix (ad 15) (fds 15)
  g__law_mix : mg "_law_mix" = some (.ref (ad 15))
  b__law_mix : Binds K (fds 15) ["_law_script", "_law_k"] []
  F__law_count : Fun K "_law_count" "_law_count" s__law_count (ad 16) (fds 16)
  g__law_count : mg "_law_count" = some (.ref (ad 16))
  b__law_count : Binds K (fds 16) ["_law_script", "_law_k"] []
  F__law_table : Fun K "_law_table" "_law_table" s__law_table (ad 17) (fds 17)
  g__law_table : mg "_law_table" = some (.ref (ad 17))
  b__law_table : Binds K (fds 17) ["_law_script", "_law_high", "_law_wide"] []
  F__law_all : Fun K "_law_all" "_law_all" s__law_all (ad 18) (fds 18)
  g__law_all : mg "_law_all" = some (.ref (ad 18))
  b__law_all : Binds K (fds 18) ["_law_table_here"] []
  F__law_places : Fun K "_law_places" "_law_places" s__law_places (ad 19) (fds 19)
  g__law_places : mg "_law_places" = some (.ref (ad 19))
  b__law_places : Binds K (fds 19) ["_law_script", "_law_table_here"] []
  F__law_column_sums : Fun K "_law_column_sums" "_law_column_sums" s__law_column_sums (ad 20) (fds 20)
  g__law_column_sums : mg "_law_column_sums" = some (.ref (ad 20))
  b__law_column_sums : Binds K (fds 20) ["_law_table_here"] []
  F__law_view : Fun K "_law_view" "_law_view" s__law_view (ad 21) (fds 21)
  g__law_view : mg "_law_view" = some (.ref (ad 21))
  b__law_view : Binds K (fds 21) ["_law_table_here", "_law_places_here"] []
  F__law_rests : Fun K "_law_rests" "_law_rests" s__law_rests (ad 22) (fds 22)
  g__law_rests : mg "_law_rests" = some (.ref (ad 22))
  b__law_rests : Binds K (fds 22) ["_law_view_here"] []
  F__law_odd : Fun K "_law_odd" "_law_odd" s__law_odd (ad 23) (fds 23)
  g__law_odd : mg "_law_odd" = some (.ref (ad 23))
  b__law_odd : Binds K (fds 23) ["_law_number_here"] []
  F__law_other : Fun K "_law_other" "_law_other" s__law_other (ad 24) (fds 24)
  g__law_other : mg "_law_other" = some (.ref (ad 24))
  b__law_other : Binds K (fds 24) ["_law_view_here", "_law_number_here"] []
  F__law_sums : Fun K "_law_sums" "_law_sums" s__law_sums (ad 25) (fds 25)
  g__law_sums : mg "_law_sums" = some (.ref (ad 25))
  b__law_sums : Binds K (fds 25) ["_law_view_here", "_law_way", "_law_row", "_law_column", "_law_more"] []
  F__law_spoilt : Fun K "_law_spoilt" "_law_spoilt" s__law_spoilt (ad 26) (fds 26)
  g__law_spoilt : mg "_law_spoilt" = some (.ref (ad 26))
  b__law_spoilt : Binds K (fds 26) ["_law_script", "_law_view_here"] []
  F__law_number : Fun K "_law_number" "_law_number" s__law_number (ad 27) (fds 27)
  g__law_number : mg "_law_number" = some (.ref (ad 27))
  b__law_number : Binds K (fds 27) ["_law_thing"] []
  F__law_cells : Fun K "_law_cells" "_law_cells" s__law_cells (ad 28) (fds 28)
  g__law_cells : mg "_law_cells" = some (.ref (ad 28))
  b__law_cells : Binds K (fds 28) ["_law_thing"] []
  F__law_is_view : Fun K "_law_is_view" "_law_is_view" s__law_is_view (ad 29) (fds 29)
  g__law_is_view : mg "_law_is_view" = some (.ref (ad 29))
  b__law_is_view : Binds K (fds 29) ["_law_thing"] []
  F__law_alone : Fun K "_law_alone" "_law_alone" s__law_alone (ad 30) (fds 30)
  g__law_alone : mg "_law_alone" = some (.ref (ad 30))
  b__law_alone : Binds K (fds 30) ["_law_e"] []
  F__law_refused : Fun K "_law_refused" "_law_refused" s__law_refused (ad 31) (fds 31)
  g__law_refused : mg "_law_refused" = some (.ref (ad 31))
  b__law_refused : Binds K (fds 31) ["_law_way", "_law_thing"] []
  F_law : Fun K "law" "law" s_law (ad 32) (fds 32)
  g_law : mg "law" = some (.ref (ad 32))
  b_law : Binds K (fds 32) ["_law_script"] []
  z_isinstance : mg "isinstance" = none
  z_int : mg "int" = none
  z_bool : mg "bool" = none
  z_list : mg "list" = none
  z_len : mg "len" = none
  z_range : mg "range" = none
  z_all : mg "all" = none
  z_sum : mg "sum" = none
  z_zip : mg "zip" = none
  z_enumerate : mg "enumerate" = none
  z_tuple : mg "tuple" = none
  z_min : mg "min" = none
  z_ValueError : mg "ValueError" = none
  c_MOST : mg "MOST" = some (.int 8 tokc_MOST)
  g_VeilError : mg "VeilError" = some (.ref (cl 0))
  g_BadTable : mg "BadTable" = some (.ref (cl 1))
  g_BadPlace : mg "BadPlace" = some (.ref (cl 3))
  g_BadNumber : mg "BadNumber" = some (.ref (cl 4))
  g_NoTable : mg "NoTable" = some (.ref (cl 5))
  g_NotHidden : mg "NotHidden" = some (.ref (cl 6))
  ext : ExT [0, 1, 2, 3, 4, 5, 6] K cl
  g_BadView : mg "BadView" = some (.ref (cl 2))
  x_BadView : PySem.W.excIn K (cl 2) [.type "ValueError", .type "Exception", .type "BaseException", .type "object"] "ValueError.__new__" = true
  k_BadView : PySem.W.keepIn K (.ref (cl 2)) = true
  s_BadView : PySem.W.subIn K (.ref (cl 2)) (.type "BaseException") = some true
  t_BadView : PySem.W.typeIn K (.ref (cl 2)) = some (.type "type")
section
variable {P : Program} {w : World} {K : PySem.W.Frag} {mg : Str → Option Value} {base : Heap} {cl ad : Nat → Addr} {fds : Nat → FuncData} {tokc_MOST : Tok}
theorem sc_is_number : FnScope ["thing"] ["thing"] (defScope s_is_number) := ⟨rfl, rfl, rfl, by decide +kernel, rfl, by decide +kernel, by decide +kernel⟩
theorem ok_is_number (t : Txt tokc_MOST K mg cl ad fds) : FnOk P w K mg base (L2N.CX P w) 1 (ad 0) (fds 0) ["thing"] (SpF K (tcl [0, 1, 2, 3, 4, 5, 6] cl) 1 m_is_number) :=
  fn_ok t.F_is_number sc_is_number rfl rfl fun cdv A outer s H E hr => by
    have nd := sc_is_number.nd
    exact (jb_one (js_ret (je_and (je_blt call_isi op_oIsi (by rfl) t.z_isinstance bt_isinstance (ja_cons (je_var (pv 0)) (ja_cons (je_c (pe_bltn (v := .ty "int") (by rfl) t.z_int bt_int rfl) fun B => by simp [Rp]) ja_nil))) (je_and (je_not (je_blt call_isi op_oIsi (by rfl) t.z_isinstance bt_isinstance (ja_cons (je_var (pv 0)) (ja_cons (je_c (pe_bltn (v := .ty "bool") (by rfl) t.z_bool bt_bool rfl) fun B => by simp [Rp]) ja_nil)))) (je_one (je_cmp op_ge op_oGe (je_var (pv 0)) je_int (nomark _)))))))
theorem sc_is_grid : FnScope ["thing", "row"] ["thing"] (defScope s_is_grid) := ⟨rfl, rfl, rfl, by decide +kernel, rfl, by decide +kernel, by decide +kernel⟩
theorem ok_is_grid (t : Txt tokc_MOST K mg cl ad fds) : FnOk P w K mg base (L2N.CX P w) 1 (ad 1) (fds 1) ["thing"] (SpF K (tcl [0, 1, 2, 3, 4, 5, 6] cl) 1 m_is_grid) :=
  fn_ok t.F_is_grid sc_is_grid rfl rfl fun cdv A outer s H E hr => by
    have nd := sc_is_grid.nd
    exact (jb_cons (js_if (jw_pt (jw_or (jt_not (jt_val (je_blt call_isi op_oIsi (by rfl) t.z_isinstance bt_isinstance (ja_cons (je_var (pv 0)) (ja_cons (je_c (pe_bltn (v := .ty "list") (by rfl) t.z_list bt_list rfl) fun B => by simp [Rp]) ja_nil))))) (jw_or1 (jt_not (jt_chain op_le op_le je_int (je_blt call_len_seq op_oLen (by rfl) t.z_len bt_len (ja_cons (je_var (pv 0)) ja_nil)) (je_c (pe_glob (v := .int 8) (by rfl) t.c_MOST ⟨_, rfl⟩) fun B => rp_int)))))) (jb_one (js_ret je_bl)) jb_nil)
      (jb_cons (js_for poF rfl (ji_list (je_var (pv 0))) (jg_name (i := 1) [1] nd rfl (by first | exact Or.inl rfl | exact Or.inr rfl)) (jb_one (js_if (jw_pt (jw_or (jt_not (jt_val (je_blt call_isi op_oIsi (by rfl) t.z_isinstance bt_isinstance (ja_cons (je_var (pv 1)) (ja_cons (je_c (pe_bltn (v := .ty "list") (by rfl) t.z_list bt_list rfl) fun B => by simp [Rp]) ja_nil))))) (jw_or (jt_not (jt_chain op_le op_le je_int (je_blt call_len_seq op_oLen (by rfl) t.z_len bt_len (ja_cons (je_var (pv 1)) ja_nil)) (je_c (pe_glob (v := .int 8) (by rfl) t.c_MOST ⟨_, rfl⟩) fun B => rp_int))) (jw_or1 (jt_cmp (op_neD (u64 hr)) op_oNe (je_blt call_len_seq op_oLen (by rfl) t.z_len bt_len (ja_cons (je_var (pv 1)) ja_nil)) (je_blt call_len_seq op_oLen (by rfl) t.z_len bt_len (ja_cons (je_ix ix_seq op_oIx (je_var (pv 0)) je_int (fun _ _ => rfl)) ja_nil)) (nomark _)))))) (jb_one (js_ret je_bl)) jb_nil)))
      (jb_one (js_ret je_bl))))
theorem sc_all_places : FnScope ["grid", "found", "row", "column"] ["grid"] (defScope s_all_places) := ⟨rfl, rfl, rfl, by decide +kernel, rfl, by decide +kernel, by decide +kernel⟩
theorem ok_all_places (t : Txt tokc_MOST K mg cl ad fds) : FnOk P w K mg base (L2N.CX P w) 1 (ad 2) (fds 2) ["grid"] (SpF K (tcl [0, 1, 2, 3, 4, 5, 6] cl) 1 m_all_places) :=
  fn_ok t.F_all_places sc_all_places rfl rfl fun cdv A outer s H E hr => by
    have nd := sc_all_places.nd
    exact (jb_cons (js_set (i := 1) nd rfl (by first | exact Or.inl rfl | exact Or.inr rfl) (je_lst .sh ja_nil))
      (jb_cons (js_for poF rfl (ji_range (by rfl) t.z_range (ja_cons (je_blt call_len_seq op_oLen (by rfl) t.z_len bt_len (ja_cons (je_var (pv 0)) ja_nil)) ja_nil)) (jg_name (i := 2) [2] nd rfl (by first | exact Or.inl rfl | exact Or.inr rfl)) (jb_one (js_for poF rfl (ji_range (by rfl) t.z_range (ja_cons (je_blt call_len_seq op_oLen (by rfl) t.z_len bt_len (ja_cons (je_ix ix_seq op_oIx (je_var (pv 0)) je_int (fun _ _ => rfl)) ja_nil)) ja_nil)) (jg_name (i := 3) [3] nd rfl (by first | exact Or.inl rfl | exact Or.inr rfl)) (jb_one (js_of (ks_app PySem.F.slot_list_append (pv 1) (je_tup (ja_cons (je_var (pv 2)) (ja_cons (je_var (pv 3)) ja_nil)))))))))
      (jb_one (js_ret (je_mov (pv 1))))))
theorem sc_are_sums : FnScope ["thing", "many", "number"] ["thing", "many"] (defScope s_are_sums) := ⟨rfl, rfl, rfl, by decide +kernel, rfl, by decide +kernel, by decide +kernel⟩
theorem ok_are_sums (t : Txt tokc_MOST K mg cl ad fds) : FnOk P w K mg base (L2N.CX P w) 2 (ad 3) (fds 3) ["thing", "many"] (SpF K (tcl [0, 1, 2, 3, 4, 5, 6] cl) 2 m_are_sums) :=
  fn_ok t.F_are_sums sc_are_sums rfl rfl fun cdv A outer s H E hr => by
    have nd := sc_are_sums.nd
    exact (jb_one (js_ret (je_and (je_blt call_isi op_oIsi (by rfl) t.z_isinstance bt_isinstance (ja_cons (je_var (pv 0)) (ja_cons (je_c (pe_bltn (v := .ty "list") (by rfl) t.z_list bt_list rfl) fun B => by simp [Rp]) ja_nil))) (je_and (je_cmp (op_eqD (u64 hr)) op_oEq (je_blt call_len_seq op_oLen (by rfl) t.z_len bt_len (ja_cons (je_var (pv 0)) ja_nil)) (je_var (pv 1)) (nomark _)) (je_one (je_blt (cr_all rfl) op_oAll (by rfl) t.z_all bt_all (ja_cons (je_lc (ow := [("number", 2)]) rfl nd (ji_list (je_var (pv 0))) (blkOk_by (by dsimp only [cxOf, envOfC, compEnvC, Cx.blk]; decide +kernel)) rfl (fun _ _ _ _ _ => (jg_name (i := 2) [2] nd rfl (by first | exact Or.inl rfl | exact Or.inr rfl))) (fun _ _ _ _ _ => pts_no) (fun _ _ _ _ _ => (je_call (ok_is_number t) (hr.mono (by decide)) takN (by rfl) t.g_is_number t.F_is_number.kp t.b_is_number (ja_cons (je_var (pv 2)) ja_nil)))) ja_nil)))))))
theorem sc_shown_sum : FnScope ["counts", "count"] ["counts"] (defScope s_shown_sum) := ⟨rfl, rfl, rfl, by decide +kernel, rfl, by decide +kernel, by decide +kernel⟩
theorem ok_shown_sum (t : Txt tokc_MOST K mg cl ad fds) : FnOk P w K mg base (L2N.CX P w) 1 (ad 4) (fds 4) ["counts"] (SpF K (tcl [0, 1, 2, 3, 4, 5, 6] cl) 1 m_shown_sum) :=
  fn_ok t.F_shown_sum sc_shown_sum rfl rfl fun cdv A outer s H E hr => by
    have nd := sc_shown_sum.nd
    exact (jb_one (js_ret (je_blt (cr_sum rfl) op_oSum (by rfl) t.z_sum bt_sum (ja_cons (je_lc (ow := [("count", 1)]) rfl nd (ji_list (je_var (pv 0))) (blkOk_by (by dsimp only [cxOf, envOfC, compEnvC, Cx.blk]; decide +kernel)) rfl (fun _ _ _ _ _ => (jg_name (i := 1) [1] nd rfl (by first | exact Or.inl rfl | exact Or.inr rfl))) (fun _ _ _ _ _ => pts_if (jt_cmp op_notN op_oNotN (je_var (pv 1)) je_non (nomark _))) (fun _ _ _ _ _ => (je_var (pv 1)))) ja_nil))))
theorem sc_rests_of : FnScope ["view", "cells", "rows", "columns", "left", "below", "number", "total", "row"] ["view"] (defScope s_rests_of) := ⟨rfl, rfl, rfl, by decide +kernel, rfl, by decide +kernel, by decide +kernel⟩
theorem ok_rests_of (t : Txt tokc_MOST K mg cl ad fds) : FnOk P w K mg base (L2N.CX P w) 2 (ad 5) (fds 5) ["view"] (SpF K (tcl [0, 1, 2, 3, 4, 5, 6] cl) 1 m_rests_of) :=
  fn_ok t.F_rests_of sc_rests_of rfl rfl fun cdv A outer s H E hr => by
    have nd := sc_rests_of.nd
    exact (jb_cons (js_asg (je_var (pv 0)) (jg_tup rfl (jgs_cons (jg_name (i := 1) [1, 2, 3] nd rfl (by first | exact Or.inl rfl | exact Or.inr rfl)) (jgs_cons (jg_name (i := 2) [1, 2, 3] nd rfl (by first | exact Or.inl rfl | exact Or.inr rfl)) (jgs_cons (jg_name (i := 3) [1, 2, 3] nd rfl (by first | exact Or.inl rfl | exact Or.inr rfl)) (jgs_nil [1, 2, 3]))))))
      (jb_cons (js_setLc (i := 4) (ow := [("total", 7), ("row", 8)]) rfl nd rfl rfl (sw_true rfl rfl rfl (by decide +kernel)) (ji_zip (by rfl) t.z_zip (ja_cons (je_var (pv 2)) (ja_cons (je_var (pv 1)) ja_nil))) (blkOk_by (by dsimp only [cxOf, envOfC, compEnvC, Cx.blk]; decide +kernel)) rfl (fun _ _ _ _ _ => (jg_tup rfl (jgs_cons (jg_name (i := 7) [7, 8] nd rfl (by first | exact Or.inl rfl | exact Or.inr rfl)) (jgs_cons (jg_name (i := 8) [7, 8] nd rfl (by first | exact Or.inl rfl | exact Or.inr rfl)) (jgs_nil [7, 8]))))) (fun _ _ _ _ _ => pts_no) (fun _ _ _ _ _ => (je_bin op_sub op_oSub (je_var (pv 7)) (je_call (ok_shown_sum t) (hr.mono (by decide)) takN (by rfl) t.g_shown_sum t.F_shown_sum.kp t.b_shown_sum (ja_cons (je_var (pv 8)) ja_nil)))))
      (jb_cons (js_set (i := 5) nd rfl (by first | exact Or.inl rfl | exact Or.inr rfl) (je_lst .sh ja_nil))
      (jb_cons (js_for poF rfl (ji_enum (by rfl) t.z_enumerate (ja_cons (je_var (pv 3)) ja_nil)) (jg_tup rfl (jgs_cons (jg_name (i := 6) [6, 7] nd rfl (by first | exact Or.inl rfl | exact Or.inr rfl)) (jgs_cons (jg_name (i := 7) [6, 7] nd rfl (by first | exact Or.inl rfl | exact Or.inr rfl)) (jgs_nil [6, 7])))) (jb_one (js_of (ks_app PySem.F.slot_list_append (pv 5) (je_bin op_sub op_oSub (je_var (pv 7)) (je_call (ok_shown_sum t) (hr.mono (by decide)) tkF (by rfl) t.g_shown_sum t.F_shown_sum.kp t.b_shown_sum (ja_cons (je_lc (ow := [("row", 8)]) rfl nd (ji_list (je_var (pv 1))) (blkOk_by (by dsimp only [cxOf, envOfC, compEnvC, Cx.blk]; decide +kernel)) rfl (fun _ _ _ _ _ => (jg_name (i := 8) [8] nd rfl (by first | exact Or.inl rfl | exact Or.inr rfl))) (fun _ _ _ _ _ => pts_no) (fun _ _ _ _ _ => (je_ix ix_seq op_oIx (je_var (pv 8)) (je_var (pv 6)) (fun _ _ => rfl)))) ja_nil)))))))
      (jb_one (js_ret (je_tup (ja_cons (je_mov (pv 4)) (ja_cons (je_mov (pv 5)) ja_nil)))))))))
theorem sc_is_view : FnScope ["thing", "left", "below", "row", "count"] ["thing"] (defScope s_is_view) := ⟨rfl, rfl, rfl, by decide +kernel, rfl, by decide +kernel, by decide +kernel⟩
theorem ok_is_view (t : Txt tokc_MOST K mg cl ad fds) : FnOk P w K mg base (L2N.CX P w) 3 (ad 6) (fds 6) ["thing"] (SpF K (tcl [0, 1, 2, 3, 4, 5, 6] cl) 1 m_is_view) :=
  fn_ok t.F_is_view sc_is_view rfl rfl fun cdv A outer s H E hr => by
    have nd := sc_is_view.nd
    exact (jb_cons (js_if (jw_pt (jw_or (jt_not (jt_val (je_blt call_isi op_oIsi (by rfl) t.z_isinstance bt_isinstance (ja_cons (je_var (pv 0)) (ja_cons (je_c (pe_bltn (v := .ty "tuple") (by rfl) t.z_tuple bt_tuple rfl) fun B => by simp [Rp]) ja_nil))))) (jw_or (jt_cmp (op_neD (u64 hr)) op_oNe (je_blt call_len_seq op_oLen (by rfl) t.z_len bt_len (ja_cons (je_var (pv 0)) ja_nil)) je_int (nomark _)) (jw_or1 (jt_not (jt_val (je_call (ok_is_grid t) (hr.mono (by decide)) tkF (by rfl) t.g_is_grid t.F_is_grid.kp t.b_is_grid (ja_cons (je_ix ix_seq op_oIx (je_var (pv 0)) je_int (fun _ _ => rfl)) ja_nil)))))))) (jb_one (js_ret je_bl)) jb_nil)
      (jb_cons (js_if (jt_not (jt_val (je_blt (cr_all rfl) op_oAll (by rfl) t.z_all bt_all (ja_cons (je_lc (ow := [("row", 3)]) rfl nd (ji_list (je_ix ix_seq op_oIx (je_var (pv 0)) je_int (fun _ _ => rfl))) (blkOk_by (by dsimp only [cxOf, envOfC, compEnvC, Cx.blk]; decide +kernel)) rfl (fun _ _ _ _ _ => (jg_name (i := 3) [3] nd rfl (by first | exact Or.inl rfl | exact Or.inr rfl))) (fun _ _ _ _ _ => pts_no) (fun _ _ _ _ _ => (je_blt (cr_all rfl) op_oAll (by rfl) t.z_all bt_all (ja_cons (je_lc (ow := [("count", 4)]) rfl nd (ji_list (je_var (pv 3))) (blkOk_by (by dsimp only [cxOf, envOfC, compEnvC, Cx.blk]; show blkC _ (relS _ (defScope _)) _ _ = true; decide +kernel)) rfl (fun _ _ _ _ _ => (jg_name (i := 4) [4] nd rfl (by first | exact Or.inl rfl | exact Or.inr rfl))) (fun _ _ _ _ _ => pts_no) (fun _ _ _ _ _ => (je_or (je_cmp op_isN op_oIsN (je_var (pv 4)) je_non (nomark _)) (je_one (je_call (ok_is_number t) (hr.mono (by decide)) takN (by rfl) t.g_is_number t.F_is_number.kp t.b_is_number (ja_cons (je_var (pv 4)) ja_nil)))))) ja_nil)))) ja_nil)))) (jb_one (js_ret je_bl)) jb_nil)
      (jb_cons (js_if (jw_pt (jw_or (jt_not (jt_val (je_call (ok_are_sums t) (hr.mono (by decide)) tkF (by rfl) t.g_are_sums t.F_are_sums.kp t.b_are_sums (ja_cons (je_ix ix_seq op_oIx (je_var (pv 0)) je_int (fun _ _ => rfl)) (ja_cons (je_blt call_len_seq op_oLen (by rfl) t.z_len bt_len (ja_cons (je_ix ix_seq op_oIx (je_var (pv 0)) je_int (fun _ _ => rfl)) ja_nil)) ja_nil))))) (jw_or1 (jt_not (jt_val (je_call (ok_are_sums t) (hr.mono (by decide)) tkF (by rfl) t.g_are_sums t.F_are_sums.kp t.b_are_sums (ja_cons (je_ix ix_seq op_oIx (je_var (pv 0)) je_int (fun _ _ => rfl)) (ja_cons (je_blt call_len_seq op_oLen (by rfl) t.z_len bt_len (ja_cons (je_ix ix_seq op_oIx (je_ix ix_seq op_oIx (je_var (pv 0)) je_int (fun _ _ => rfl)) je_int (fun _ _ => rfl)) ja_nil)) ja_nil)))))))) (jb_one (js_ret je_bl)) jb_nil)
      (jb_cons (js_asg (je_call (ok_rests_of t) (hr.mono (by decide)) tkF (by rfl) t.g_rests_of t.F_rests_of.kp t.b_rests_of (ja_cons (je_var (pv 0)) ja_nil)) (jg_tup rfl (jgs_cons (jg_name (i := 1) [1, 2] nd rfl (by first | exact Or.inl rfl | exact Or.inr rfl)) (jgs_cons (jg_name (i := 2) [1, 2] nd rfl (by first | exact Or.inl rfl | exact Or.inr rfl)) (jgs_nil [1, 2])))))
      (jb_one (js_ret (je_and (je_cmp op_ge op_oGe (je_blt (cr_min rfl) op_oMin (by rfl) t.z_min bt_min (ja_cons (je_bin op_cat op_oCat (je_var (pv 1)) (je_var (pv 2))) ja_nil)) je_int (nomark _)) (je_one (je_cmp (op_eqD (u64 hr)) op_oEq (je_blt (cr_sum rfl) op_oSum (by rfl) t.z_sum bt_sum (ja_cons (je_var (pv 1)) ja_nil)) (je_blt (cr_sum rfl) op_oSum (by rfl) t.z_sum bt_sum (ja_cons (je_var (pv 2)) ja_nil)) (nomark _))))))))))
theorem sc_need_view : FnScope ["view"] ["view"] (defScope s_need_view) := ⟨rfl, rfl, rfl, by decide +kernel, rfl, by decide +kernel, by decide +kernel⟩
theorem ok_need_view (t : Txt tokc_MOST K mg cl ad fds) : FnOk P w K mg base (L2N.CX P w) 4 (ad 7) (fds 7) ["view"] (SpF K (tcl [0, 1, 2, 3, 4, 5, 6] cl) 1 m_need_view) :=
  fn_ok t.F_need_view sc_need_view rfl rfl fun cdv A outer s H E hr => by
    have nd := sc_need_view.nd
    exact (jb_one (js_if (jt_not (jt_val (je_call (ok_is_view t) (hr.mono (by decide)) tkF (by rfl) t.g_is_view t.F_is_view.kp t.b_is_view (ja_cons (je_var (pv 0)) ja_nil)))) (jb_one (js_raise (C := cl 2) rfl rfl tkF (L2N.pmk_own PySem.F.excBase_ValueError t.x_BadView t.g_BadView t.k_BadView (raises_own t.s_BadView t.t_BadView) (by rfl)))) jb_nil))
theorem sc_hidden_places : FnScope ["view", "place"] ["view"] (defScope s_hidden_places) := ⟨rfl, rfl, rfl, by decide +kernel, rfl, by decide +kernel, by decide +kernel⟩
theorem ok_hidden_places (t : Txt tokc_MOST K mg cl ad fds) : FnOk P w K mg base (L2N.CX P w) 5 (ad 8) (fds 8) ["view"] (SpF K (tcl [0, 1, 2, 3, 4, 5, 6] cl) 1 m_hidden_places) :=
  fn_ok t.F_hidden_places sc_hidden_places rfl rfl fun cdv A outer s H E hr => by
    have nd := sc_hidden_places.nd
    exact (jb_cons (js_expr (je_call (ok_need_view t) (hr.mono (by decide)) tkF (by rfl) t.g_need_view t.F_need_view.kp t.b_need_view (ja_cons (je_var (pv 0)) ja_nil)))
      (jb_one (js_ret (je_lc (ow := [("place", 1)]) rfl nd (ji_list (je_call (ok_all_places t) (hr.mono (by decide)) tkF (by rfl) t.g_all_places t.F_all_places.kp t.b_all_places (ja_cons (je_ix ix_seq op_oIx (je_var (pv 0)) je_int (fun _ _ => rfl)) ja_nil))) (blkOk_by (by dsimp only [cxOf, envOfC, compEnvC, Cx.blk]; decide +kernel)) rfl (fun _ _ _ _ _ => (jg_name (i := 1) [1] nd rfl (by first | exact Or.inl rfl | exact Or.inr rfl))) (fun _ _ _ _ _ => pts_if (jt_cmp op_isN op_oIsN (je_ix ix_seq op_oIx (je_ix ix_seq op_oIx (je_ix ix_seq op_oIx (je_var (pv 0)) je_int (fun _ _ => rfl)) (je_ix ix_seq op_oIx (je_var (pv 1)) je_int (fun _ _ => rfl)) (fun _ _ => rfl)) (je_ix ix_seq op_oIx (je_var (pv 1)) je_int (fun _ _ => rfl)) (fun _ _ => rfl)) je_non (nomark _))) (fun _ _ _ _ _ => (je_var (pv 1)))))))
theorem sc_rests : FnScope ["view"] ["view"] (defScope s_rests) := ⟨rfl, rfl, rfl, by decide +kernel, rfl, by decide +kernel, by decide +kernel⟩
theorem ok_rests (t : Txt tokc_MOST K mg cl ad fds) : FnOk P w K mg base (L2N.CX P w) 5 (ad 9) (fds 9) ["view"] (SpF K (tcl [0, 1, 2, 3, 4, 5, 6] cl) 1 m_rests) :=
  fn_ok t.F_rests sc_rests rfl rfl fun cdv A outer s H E hr => by
    have nd := sc_rests.nd
    exact (jb_cons (js_expr (je_call (ok_need_view t) (hr.mono (by decide)) tkF (by rfl) t.g_need_view t.F_need_view.kp t.b_need_view (ja_cons (je_var (pv 0)) ja_nil)))
      (jb_one (js_ret (je_call (ok_rests_of t) (hr.mono (by decide)) tkF (by rfl) t.g_rests_of t.F_rests_of.kp t.b_rests_of (ja_cons (je_var (pv 0)) ja_nil)))))
theorem sc_filled : FnScope ["view", "hidden", "left", "below", "counts", "begin", "came", "node", "way", "first", "by", "row", "count", "number", "place", "forth"] ["view"] (defScope s_filled) := ⟨rfl, rfl, rfl, by decide +kernel, rfl, by decide +kernel, by decide +kernel⟩
theorem ok_filled (t : Txt tokc_MOST K mg cl ad fds) : FnOk P w K mg base (L2N.CX P w) 6 (ad 10) (fds 10) ["view"] (SpF K (tcl [0, 1, 2, 3, 4, 5, 6] cl) 1 m_filled_k05) :=
  fn_ok t.F_filled sc_filled rfl rfl fun cdv A outer s H E hr => by
    have nd := sc_filled.nd
    exact (jb_cons (js_set (i := 1) nd rfl (by first | exact Or.inl rfl | exact Or.inr rfl) (je_sh (je_call (ok_hidden_places t) (hr.mono (by decide)) tkF (by rfl) t.g_hidden_places t.F_hidden_places.kp t.b_hidden_places (ja_cons (je_var (pv 0)) ja_nil)))) jb_stk)
theorem sc_need_hidden : FnScope ["view", "place", "hidden"] ["view", "place"] (defScope s_need_hidden) := ⟨rfl, rfl, rfl, by decide +kernel, rfl, by decide +kernel, by decide +kernel⟩
theorem ok_need_hidden (t : Txt tokc_MOST K mg cl ad fds) : FnOk P w K mg base (L2N.CX P w) 6 (ad 11) (fds 11) ["view", "place"] (SpF K (tcl [0, 1, 2, 3, 4, 5, 6] cl) 2 m_need_hidden_k05) :=
  fn_ok t.F_need_hidden sc_need_hidden rfl rfl fun cdv A outer s H E hr => by
    have nd := sc_need_hidden.nd
    exact (jb_cons (js_set (i := 2) nd rfl (by first | exact Or.inl rfl | exact Or.inr rfl) (je_sh (je_call (ok_hidden_places t) (hr.mono (by decide)) tkF (by rfl) t.g_hidden_places t.F_hidden_places.kp t.b_hidden_places (ja_cons (je_var (pv 0)) ja_nil)))) jb_stk)
theorem sc_ends : FnScope ["view", "place", "hidden", "table"] ["view", "place"] (defScope s_ends) := ⟨rfl, rfl, rfl, by decide +kernel, rfl, by decide +kernel, by decide +kernel⟩
theorem ok_ends (t : Txt tokc_MOST K mg cl ad fds) : FnOk P w K mg base (L2N.CX P w) 7 (ad 12) (fds 12) ["view", "place"] (SpF K (tcl [0, 1, 2, 3, 4, 5, 6] cl) 2 m_ends_k05) :=
  fn_ok t.F_ends sc_ends rfl rfl fun cdv A outer s H E hr => by
    have nd := sc_ends.nd
    exact (jb_cons (js_set (i := 2) nd rfl (by first | exact Or.inl rfl | exact Or.inr rfl) (je_call (ok_need_hidden t) (hr.mono (by decide)) tkF (by rfl) t.g_need_hidden t.F_need_hidden.kp t.b_need_hidden (ja_cons (je_var (pv 0)) (ja_cons (je_var (pv 1)) ja_nil)))) jb_stk)
theorem sc_walls : FnScope ["view", "place", "hidden", "table", "low", "high"] ["view", "place"] (defScope s_walls) := ⟨rfl, rfl, rfl, by decide +kernel, rfl, by decide +kernel, by decide +kernel⟩
theorem ok_walls (t : Txt tokc_MOST K mg cl ad fds) : FnOk P w K mg base (L2N.CX P w) 7 (ad 13) (fds 13) ["view", "place"] (SpF K (tcl [0, 1, 2, 3, 4, 5, 6] cl) 2 m_walls_k05) :=
  fn_ok t.F_walls sc_walls rfl rfl fun cdv A outer s H E hr => by
    have nd := sc_walls.nd
    exact (jb_cons (js_set (i := 2) nd rfl (by first | exact Or.inl rfl | exact Or.inr rfl) (je_call (ok_need_hidden t) (hr.mono (by decide)) tkF (by rfl) t.g_need_hidden t.F_need_hidden.kp t.b_need_hidden (ja_cons (je_var (pv 0)) (ja_cons (je_var (pv 1)) ja_nil)))) jb_stk)
theorem sc_given_away : FnScope ["view", "width", "hidden", "table", "place"] ["view", "width"] (defScope s_given_away) := ⟨rfl, rfl, rfl, by decide +kernel, rfl, by decide +kernel, by decide +kernel⟩
theorem ok_given_away (t : Txt tokc_MOST K mg cl ad fds) : FnOk P w K mg base (L2N.CX P w) 6 (ad 14) (fds 14) ["view", "width"] (SpF K (tcl [0, 1, 2, 3, 4, 5, 6] cl) 2 m_given_away_k05) :=
  fn_ok t.F_given_away sc_given_away rfl rfl fun cdv A outer s H E hr => by
    have nd := sc_given_away.nd
    exact (jb_cons (js_set (i := 2) nd rfl (by first | exact Or.inl rfl | exact Or.inr rfl) (je_sh (je_call (ok_hidden_places t) (hr.mono (by decide)) tkF (by rfl) t.g_hidden_places t.F_hidden_places.kp t.b_hidden_places (ja_cons (je_var (pv 0)) ja_nil)))) jb_stk)
theorem sc__law_mix : FnScope ["_law_script", "_law_k", "_law_cell", "_law_number_here"] ["_law_script", "_law_k"] (defScope s__law_mix) := ⟨rfl, rfl, rfl, by decide +kernel, rfl, by decide +kernel, by decide +kernel⟩
theorem ok__law_mix (t : Txt tokc_MOST K mg cl ad fds) : FnOk P w K mg base (L2N.CX P w) 1 (ad 15) (fds 15) ["_law_script", "_law_k"] (SpF K (tcl [0, 1, 2, 3, 4, 5, 6] cl) 2 m__law_mix_v1) :=
  fn_ok t.F__law_mix sc__law_mix rfl rfl fun cdv A outer s H E hr => by
    have nd := sc__law_mix.nd
    exact (jb_cons (js_set (i := 2) nd rfl (by first | exact Or.inl rfl | exact Or.inr rfl) je_int)
      (jb_cons (js_if (jt_cmp op_gt op_oGt (je_blt call_len_seq op_oLen (by rfl) t.z_len bt_len (ja_cons (je_var (pv 0)) ja_nil)) je_int (nomark _)) (jb_one (js_set (i := 2) nd rfl (by first | exact Or.inl rfl | exact Or.inr rfl) (je_bin op_add op_oAdd (je_ix ix_seq op_oIx (je_var (pv 0)) (je_bin op_mod op_oMod (je_var (pv 1)) (je_blt call_len_seq op_oLen (by rfl) t.z_len bt_len (ja_cons (je_var (pv 0)) ja_nil))) (fun _ _ => rfl)) (je_bin op_fdiv op_oDiv (je_var (pv 1)) (je_blt call_len_seq op_oLen (by rfl) t.z_len bt_len (ja_cons (je_var (pv 0)) ja_nil)))))) jb_nil)
      (jb_cons (js_set (i := 3) nd rfl (by first | exact Or.inl rfl | exact Or.inr rfl) (je_bin op_mod op_oMod (je_bin op_mul op_oMul (je_bin op_add op_oAdd (je_var (pv 2)) (je_bin op_mul op_oMul je_int (je_bin op_add op_oAdd (je_var (pv 1)) je_int))) je_int) je_int))
      (jb_one (js_ret (je_bin op_mod op_oMod (je_bin op_mul op_oMul (je_var (pv 3)) (je_var (pv 3))) je_int))))))
theorem sc__law_count : FnScope ["_law_script", "_law_k", "_law_number_here", "_law_more", "_law_some"] ["_law_script", "_law_k"] (defScope s__law_count) := ⟨rfl, rfl, rfl, by decide +kernel, rfl, by decide +kernel, by decide +kernel⟩
theorem ok__law_count (t : Txt tokc_MOST K mg cl ad fds) : FnOk P w K mg base (L2N.CX P w) 2 (ad 16) (fds 16) ["_law_script", "_law_k"] (SpF K (tcl [0, 1, 2, 3, 4, 5, 6] cl) 2 m__law_count_v1) :=
  fn_ok t.F__law_count sc__law_count rfl rfl fun cdv A outer s H E hr => by
    have nd := sc__law_count.nd
    exact (jb_cons (js_set (i := 2) nd rfl (by first | exact Or.inl rfl | exact Or.inr rfl) (je_call (ok__law_mix t) (hr.mono (by decide)) tkF (by rfl) t.g__law_mix t.F__law_mix.kp t.b__law_mix (ja_cons (je_var (pv 0)) (ja_cons (je_var (pv 1)) ja_nil))))
      (jb_cons (js_set (i := 3) nd rfl (by first | exact Or.inl rfl | exact Or.inr rfl) (je_bin op_fdiv op_oDiv (je_var (pv 2)) je_int))
      (jb_cons (js_if (jt_cmp (op_eqD (u64 hr)) op_oEq (je_bin op_mod op_oMod (je_var (pv 2)) je_int) je_int (nomark _)) (jb_one (js_ret je_int)) jb_nil)
      (jb_cons (js_set (i := 4) nd rfl (by first | exact Or.inl rfl | exact Or.inr rfl) (je_sh (je_lst .sh (ja_cons (je_bin op_mod op_oMod (je_var (pv 3)) je_int) (ja_cons (je_bin op_mod op_oMod (je_var (pv 3)) je_int) (ja_cons (je_bin op_mod op_oMod (je_var (pv 3)) je_int) (ja_cons (je_ix ix_seq op_oIx (je_sh (je_lst .sh (ja_cons je_int (ja_cons je_int (ja_cons je_int (ja_cons je_int ja_nil)))))) (je_bin op_mod op_oMod (je_var (pv 3)) je_int) (fun _ _ => rfl)) (ja_cons (je_bin op_mod op_oMod (je_var (pv 3)) je_int) (ja_cons (je_bin op_add op_oAdd (je_bin op_mul op_oMul (je_var (pv 3)) (je_bin op_pow op_oPow je_int je_int)) (je_bin op_mod op_oMod (je_var (pv 3)) je_int)) ja_nil)))))))))
      (jb_one (js_ret (je_ix ix_seq op_oIx (je_var (pv 4)) (je_bin op_mod op_oMod (je_call (ok__law_mix t) (hr.mono (by decide)) tkF (by rfl) t.g__law_mix t.F__law_mix.kp t.b__law_mix (ja_cons (je_var (pv 0)) (ja_cons je_int ja_nil))) je_int) (fun _ _ => rfl))))))))
theorem sc__law_table : FnScope ["_law_script", "_law_high", "_law_wide", "_law_table_here", "_law_row", "_law_column"] ["_law_script", "_law_high", "_law_wide"] (defScope s__law_table) := ⟨rfl, rfl, rfl, by decide +kernel, rfl, by decide +kernel, by decide +kernel⟩
theorem ok__law_table (t : Txt tokc_MOST K mg cl ad fds) : FnOk P w K mg base (L2N.CX P w) 3 (ad 17) (fds 17) ["_law_script", "_law_high", "_law_wide"] (SpF K (tcl [0, 1, 2, 3, 4, 5, 6] cl) 3 m__law_table) :=
  fn_ok t.F__law_table sc__law_table rfl rfl fun cdv A outer s H E hr => by
    have nd := sc__law_table.nd
    exact (jb_cons (js_set (i := 3) nd rfl (by first | exact Or.inl rfl | exact Or.inr rfl) (je_lst (.ow .sh) ja_nil))
      (jb_cons (js_for poF rfl (ji_range (by rfl) t.z_range (ja_cons (je_var (pv 1)) ja_nil)) (jg_name (i := 4) [4] nd rfl (by first | exact Or.inl rfl | exact Or.inr rfl)) (jb_one (js_of (ks_app PySem.F.slot_list_append (pv 3) (je_lc (ow := [("_law_column", 5)]) rfl nd (ji_range (by rfl) t.z_range (ja_cons (je_var (pv 2)) ja_nil)) (blkOk_by (by dsimp only [cxOf, envOfC, compEnvC, Cx.blk]; decide +kernel)) rfl (fun _ _ _ _ _ => (jg_name (i := 5) [5] nd rfl (by first | exact Or.inl rfl | exact Or.inr rfl))) (fun _ _ _ _ _ => pts_no) (fun _ _ _ _ _ => (je_call (ok__law_count t) (hr.mono (by decide)) takN (by rfl) t.g__law_count t.F__law_count.kp t.b__law_count (ja_cons (je_var (pv 0)) (ja_cons (je_bin op_add op_oAdd (je_bin op_add op_oAdd je_int (je_bin op_mul op_oMul (je_var (pv 2)) (je_var (pv 4)))) (je_var (pv 5))) ja_nil)))))))))
      (jb_one (js_ret (je_mov (pv 3))))))
theorem sc__law_all : FnScope ["_law_table_here", "_law_found", "_law_row", "_law_column"] ["_law_table_here"] (defScope s__law_all) := ⟨rfl, rfl, rfl, by decide +kernel, rfl, by decide +kernel, by decide +kernel⟩
theorem ok__law_all (t : Txt tokc_MOST K mg cl ad fds) : FnOk P w K mg base (L2N.CX P w) 1 (ad 18) (fds 18) ["_law_table_here"] (SpF K (tcl [0, 1, 2, 3, 4, 5, 6] cl) 1 m__law_all) :=
  fn_ok t.F__law_all sc__law_all rfl rfl fun cdv A outer s H E hr => by
    have nd := sc__law_all.nd
    exact (jb_cons (js_set (i := 1) nd rfl (by first | exact Or.inl rfl | exact Or.inr rfl) (je_sh (je_lst .sh ja_nil)))
      (jb_cons (js_for poF rfl (ji_range (by rfl) t.z_range (ja_cons (je_blt call_len_seq op_oLen (by rfl) t.z_len bt_len (ja_cons (je_var (pv 0)) ja_nil)) ja_nil)) (jg_name (i := 2) [2] nd rfl (by first | exact Or.inl rfl | exact Or.inr rfl)) (jb_one (js_set (i := 1) nd rfl (by first | exact Or.inl rfl | exact Or.inr rfl) (je_sh (je_bin op_cat op_oCat (je_var (pv 1)) (je_lc (ow := [("_law_column", 3)]) rfl nd (ji_range (by rfl) t.z_range (ja_cons (je_blt call_len_seq op_oLen (by rfl) t.z_len bt_len (ja_cons (je_ix ix_seq op_oIx (je_var (pv 0)) je_int (fun _ _ => rfl)) ja_nil)) ja_nil)) (blkOk_by (by dsimp only [cxOf, envOfC, compEnvC, Cx.blk]; decide +kernel)) rfl (fun _ _ _ _ _ => (jg_name (i := 3) [3] nd rfl (by first | exact Or.inl rfl | exact Or.inr rfl))) (fun _ _ _ _ _ => pts_no) (fun _ _ _ _ _ => (je_tup (ja_cons (je_var (pv 2)) (ja_cons (je_var (pv 3)) ja_nil))))))))))
      (jb_one (js_ret (je_var (pv 1))))))
theorem sc__law_places : FnScope ["_law_script", "_law_table_here", "_law_share", "_law_some", "_law_k"] ["_law_script", "_law_table_here"] (defScope s__law_places) := ⟨rfl, rfl, rfl, by decide +kernel, rfl, by decide +kernel, by decide +kernel⟩
theorem ok__law_places (t : Txt tokc_MOST K mg cl ad fds) : FnOk P w K mg base (L2N.CX P w) 2 (ad 19) (fds 19) ["_law_script", "_law_table_here"] (SpF K (tcl [0, 1, 2, 3, 4, 5, 6] cl) 2 m__law_places) :=
  fn_ok t.F__law_places sc__law_places rfl rfl fun cdv A outer s H E hr => by
    have nd := sc__law_places.nd
    exact (jb_cons (js_set (i := 2) nd rfl (by first | exact Or.inl rfl | exact Or.inr rfl) (je_bin op_sub op_oSub (je_bin op_mod op_oMod (je_call (ok__law_mix t) (hr.mono (by decide)) tkF (by rfl) t.g__law_mix t.F__law_mix.kp t.b__law_mix (ja_cons (je_var (pv 0)) (ja_cons je_int ja_nil))) je_int) je_int))
      (jb_cons (js_set (i := 3) nd rfl (by first | exact Or.inl rfl | exact Or.inr rfl) (je_call (ok__law_all t) (hr.mono (by decide)) tkF (by rfl) t.g__law_all t.F__law_all.kp t.b__law_all (ja_cons (je_var (pv 1)) ja_nil)))
      (jb_one (js_ret (je_lc (ow := [("_law_k", 4)]) rfl nd (ji_range (by rfl) t.z_range (ja_cons (je_blt call_len_seq op_oLen (by rfl) t.z_len bt_len (ja_cons (je_var (pv 3)) ja_nil)) ja_nil)) (blkOk_by (by dsimp only [cxOf, envOfC, compEnvC, Cx.blk]; decide +kernel)) rfl (fun _ _ _ _ _ => (jg_name (i := 4) [4] nd rfl (by first | exact Or.inl rfl | exact Or.inr rfl))) (fun _ _ _ _ _ => pts_if (jt_cmp op_gt op_oGt (je_bin op_mod op_oMod (je_call (ok__law_mix t) (hr.mono (by decide)) takN (by rfl) t.g__law_mix t.F__law_mix.kp t.b__law_mix (ja_cons (je_var (pv 0)) (ja_cons (je_bin op_add op_oAdd je_int (je_var (pv 4))) ja_nil))) je_int) (je_var (pv 2)) (nomark _))) (fun _ _ _ _ _ => (je_ix ix_seq op_oIx (je_var (pv 3)) (je_var (pv 4)) (fun _ _ => rfl))))))))
theorem sc__law_column_sums : FnScope ["_law_table_here", "_law_column", "_law_row"] ["_law_table_here"] (defScope s__law_column_sums) := ⟨rfl, rfl, rfl, by decide +kernel, rfl, by decide +kernel, by decide +kernel⟩
theorem ok__law_column_sums (t : Txt tokc_MOST K mg cl ad fds) : FnOk P w K mg base (L2N.CX P w) 1 (ad 20) (fds 20) ["_law_table_here"] (SpF K (tcl [0, 1, 2, 3, 4, 5, 6] cl) 1 m__law_column_sums) :=
  fn_ok t.F__law_column_sums sc__law_column_sums rfl rfl fun cdv A outer s H E hr => by
    have nd := sc__law_column_sums.nd
    exact (jb_one (js_ret (je_lc (ow := [("_law_column", 1)]) rfl nd (ji_range (by rfl) t.z_range (ja_cons (je_blt call_len_seq op_oLen (by rfl) t.z_len bt_len (ja_cons (je_ix ix_seq op_oIx (je_var (pv 0)) je_int (fun _ _ => rfl)) ja_nil)) ja_nil)) (blkOk_by (by dsimp only [cxOf, envOfC, compEnvC, Cx.blk]; decide +kernel)) rfl (fun _ _ _ _ _ => (jg_name (i := 1) [1] nd rfl (by first | exact Or.inl rfl | exact Or.inr rfl))) (fun _ _ _ _ _ => pts_no) (fun _ _ _ _ _ => (je_blt (cr_sum rfl) op_oSum (by rfl) t.z_sum bt_sum (ja_cons (je_lc (ow := [("_law_row", 2)]) rfl nd (ji_list (je_var (pv 0))) (blkOk_by (by dsimp only [cxOf, envOfC, compEnvC, Cx.blk]; show blkC _ (relS _ (defScope _)) _ _ = true; decide +kernel)) rfl (fun _ _ _ _ _ => (jg_name (i := 2) [2] nd rfl (by first | exact Or.inl rfl | exact Or.inr rfl))) (fun _ _ _ _ _ => pts_no) (fun _ _ _ _ _ => (je_ix ix_seq op_oIx (je_var (pv 2)) (je_var (pv 1)) (fun _ _ => rfl)))) ja_nil))))))
theorem sc__law_view : FnScope ["_law_table_here", "_law_places_here", "_law_cells_here", "_law_row", "_law_at"] ["_law_table_here", "_law_places_here"] (defScope s__law_view) := ⟨rfl, rfl, rfl, by decide +kernel, rfl, by decide +kernel, by decide +kernel⟩
theorem ok__law_view (t : Txt tokc_MOST K mg cl ad fds) : FnOk P w K mg base (L2N.CX P w) 2 (ad 21) (fds 21) ["_law_table_here", "_law_places_here"] (SpF K (tcl [0, 1, 2, 3, 4, 5, 6] cl) 2 m__law_view_v1) :=
  fn_ok t.F__law_view sc__law_view rfl rfl fun cdv A outer s H E hr => by
    have nd := sc__law_view.nd
    exact (jb_cons (js_set (i := 2) nd rfl (by first | exact Or.inl rfl | exact Or.inr rfl) (je_lst (.ow .sh) ja_nil))
      (jb_cons (js_for poF rfl (ji_range (by rfl) t.z_range (ja_cons (je_blt call_len_seq op_oLen (by rfl) t.z_len bt_len (ja_cons (je_var (pv 0)) ja_nil)) ja_nil)) (jg_name (i := 3) [3] nd rfl (by first | exact Or.inl rfl | exact Or.inr rfl)) (jb_one (js_of (ks_app PySem.F.slot_list_append (pv 2) (je_lc (ow := [("_law_at", 4)]) rfl nd (ji_range (by rfl) t.z_range (ja_cons (je_blt call_len_seq op_oLen (by rfl) t.z_len bt_len (ja_cons (je_ix ix_seq op_oIx (je_var (pv 0)) je_int (fun _ _ => rfl)) ja_nil)) ja_nil)) (blkOk_by (by dsimp only [cxOf, envOfC, compEnvC, Cx.blk]; decide +kernel)) rfl (fun _ _ _ _ _ => (jg_name (i := 4) [4] nd rfl (by first | exact Or.inl rfl | exact Or.inr rfl))) (fun _ _ _ _ _ => pts_no) (fun _ _ _ _ _ => (je_ix ix_seq op_oIx (je_sh (je_lst .sh (ja_cons (je_ix ix_seq op_oIx (je_ix ix_seq op_oIx (je_var (pv 0)) (je_var (pv 3)) (fun _ _ => rfl)) (je_var (pv 4)) (fun _ _ => rfl)) (ja_cons je_non ja_nil)))) (je_ty call_int1 op_oInt (by rfl) t.z_int bt_int (ja_cons (je_cmp (op_inD (u65 hr)) op_oIn (je_tup (ja_cons (je_var (pv 3)) (ja_cons (je_var (pv 4)) ja_nil))) (je_var (pv 1)) (by rfl)) ja_nil)) (fun _ _ => rfl))))))))
      (jb_one (js_ret (je_tup (ja_cons (je_mov (pv 2)) (ja_cons (je_lc (ow := [("_law_row", 3)]) rfl nd (ji_list (je_var (pv 0))) (blkOk_by (by dsimp only [cxOf, envOfC, compEnvC, Cx.blk]; decide +kernel)) rfl (fun _ _ _ _ _ => (jg_name (i := 3) [3] nd rfl (by first | exact Or.inl rfl | exact Or.inr rfl))) (fun _ _ _ _ _ => pts_no) (fun _ _ _ _ _ => (je_blt (cr_sum rfl) op_oSum (by rfl) t.z_sum bt_sum (ja_cons (je_var (pv 3)) ja_nil)))) (ja_cons (je_call (ok__law_column_sums t) (hr.mono (by decide)) tkF (by rfl) t.g__law_column_sums t.F__law_column_sums.kp t.b__law_column_sums (ja_cons (je_var (pv 0)) ja_nil)) ja_nil))))))))
theorem sc__law_rests : FnScope ["_law_view_here", "_law_cells_here", "_law_left", "_law_shown", "_law_row", "_law_count_here", "_law_column"] ["_law_view_here"] (defScope s__law_rests) := ⟨rfl, rfl, rfl, by decide +kernel, rfl, by decide +kernel, by decide +kernel⟩
theorem ok__law_rests (t : Txt tokc_MOST K mg cl ad fds) : FnOk P w K mg base (L2N.CX P w) 2 (ad 22) (fds 22) ["_law_view_here"] (SpF K (tcl [0, 1, 2, 3, 4, 5, 6] cl) 1 m__law_rests_v1) :=
  fn_ok t.F__law_rests sc__law_rests rfl rfl fun cdv A outer s H E hr => by
    have nd := sc__law_rests.nd
    exact (jb_cons (js_set (i := 1) nd rfl (by first | exact Or.inl rfl | exact Or.inr rfl) (je_sh (je_lc (ow := [("_law_row", 4)]) rfl nd (ji_list (je_ix ix_seq op_oIx (je_var (pv 0)) je_int (fun _ _ => rfl))) (blkOk_by (by dsimp only [cxOf, envOfC, compEnvC, Cx.blk]; decide +kernel)) rfl (fun _ _ _ _ _ => (jg_name (i := 4) [4] nd rfl (by first | exact Or.inl rfl | exact Or.inr rfl))) (fun _ _ _ _ _ => pts_no) (fun _ _ _ _ _ => (je_lc (ow := [("_law_count_here", 5)]) rfl nd (ji_list (je_var (pv 4))) (blkOk_by (by dsimp only [cxOf, envOfC, compEnvC, Cx.blk]; show blkC _ (relS _ (defScope _)) _ _ = true; decide +kernel)) rfl (fun _ _ _ _ _ => (jg_name (i := 5) [5] nd rfl (by first | exact Or.inl rfl | exact Or.inr rfl))) (fun _ _ _ _ _ => pts_no) (fun _ _ _ _ _ => (je_ix ix_seq op_oIx (je_sh (je_lst .sh (ja_cons (je_var (pv 5)) (ja_cons je_int ja_nil)))) (je_ty call_int1 op_oInt (by rfl) t.z_int bt_int (ja_cons (je_cmp op_isN op_oIsN (je_var (pv 5)) je_non (nomark _)) ja_nil)) (fun _ _ => rfl))))))))
      (jb_cons (js_setLc (i := 2) (ow := [("_law_row", 4)]) rfl nd rfl rfl (sw_true rfl rfl rfl (by decide +kernel)) (ji_range (by rfl) t.z_range (ja_cons (je_blt call_len_seq op_oLen (by rfl) t.z_len bt_len (ja_cons (je_var (pv 1)) ja_nil)) ja_nil)) (blkOk_by (by dsimp only [cxOf, envOfC, compEnvC, Cx.blk]; decide +kernel)) rfl (fun _ _ _ _ _ => (jg_name (i := 4) [4] nd rfl (by first | exact Or.inl rfl | exact Or.inr rfl))) (fun _ _ _ _ _ => pts_no) (fun _ _ _ _ _ => (je_bin op_sub op_oSub (je_ix ix_seq op_oIx (je_ix ix_seq op_oIx (je_var (pv 0)) je_int (fun _ _ => rfl)) (je_var (pv 4)) (fun _ _ => rfl)) (je_blt (cr_sum rfl) op_oSum (by rfl) t.z_sum bt_sum (ja_cons (je_ix ix_seq op_oIx (je_var (pv 1)) (je_var (pv 4)) (fun _ _ => rfl)) ja_nil)))))
      (jb_cons (js_set (i := 3) nd rfl (by first | exact Or.inl rfl | exact Or.inr rfl) (je_sh (je_call (ok__law_column_sums t) (hr.mono (by decide)) tkF (by rfl) t.g__law_column_sums t.F__law_column_sums.kp t.b__law_column_sums (ja_cons (je_var (pv 1)) ja_nil))))
      (jb_one (js_ret (je_tup (ja_cons (je_mov (pv 2)) (ja_cons (je_lc (ow := [("_law_column", 6)]) rfl nd (ji_range (by rfl) t.z_range (ja_cons (je_blt call_len_seq op_oLen (by rfl) t.z_len bt_len (ja_cons (je_var (pv 3)) ja_nil)) ja_nil)) (blkOk_by (by dsimp only [cxOf, envOfC, compEnvC, Cx.blk]; decide +kernel)) rfl (fun _ _ _ _ _ => (jg_name (i := 6) [6] nd rfl (by first | exact Or.inl rfl | exact Or.inr rfl))) (fun _ _ _ _ _ => pts_no) (fun _ _ _ _ _ => (je_bin op_sub op_oSub (je_ix ix_seq op_oIx (je_ix ix_seq op_oIx (je_var (pv 0)) je_int (fun _ _ => rfl)) (je_var (pv 6)) (fun _ _ => rfl)) (je_ix ix_seq op_oIx (je_var (pv 3)) (je_var (pv 6)) (fun _ _ => rfl))))) ja_nil))))))))
theorem sc__law_odd : FnScope ["_law_number_here", "_law_some"] ["_law_number_here"] (defScope s__law_odd) := ⟨rfl, rfl, rfl, by decide +kernel, rfl, by decide +kernel, by decide +kernel⟩
theorem ok__law_odd (t : Txt tokc_MOST K mg cl ad fds) : FnOk P w K mg base (L2N.CX P w) 1 (ad 23) (fds 23) ["_law_number_here"] (SpF K (tcl [0, 1, 2, 3, 4, 5, 6] cl) 1 m__law_odd_v2) :=
  fn_ok t.F__law_odd sc__law_odd rfl rfl fun cdv A outer s H E hr => by
    have nd := sc__law_odd.nd
    exact (jb_cons (js_set (i := 1) nd rfl (by first | exact Or.inl rfl | exact Or.inr rfl) (je_sh (je_lst .sh (ja_cons je_bl (ja_cons je_bl (ja_cons je_non (ja_cons (je_bin op_sub op_oSub je_int je_int) (ja_cons je_str (ja_cons (je_sh (je_lst .sh (ja_cons je_int ja_nil))) (ja_cons (je_tup (ja_cons je_int ja_nil)) (ja_cons je_dict0 (ja_cons (je_bin op_sub op_oSub je_int (je_bin op_pow op_oPow je_int je_int)) ja_nil))))))))))))
      (jb_one (js_ret (je_ix ix_seq op_oIx (je_var (pv 1)) (je_bin op_mod op_oMod (je_var (pv 0)) je_int) (fun _ _ => rfl)))))
theorem sc__law_other : FnScope ["_law_view_here", "_law_number_here", "_law_some"] ["_law_view_here", "_law_number_here"] (defScope s__law_other) := ⟨rfl, rfl, rfl, by decide +kernel, rfl, by decide +kernel, by decide +kernel⟩
theorem ok__law_other (t : Txt tokc_MOST K mg cl ad fds) : FnOk P w K mg base (L2N.CX P w) 1 (ad 24) (fds 24) ["_law_view_here", "_law_number_here"] (SpF K (tcl [0, 1, 2, 3, 4, 5, 6] cl) 2 m__law_other_v1) :=
  fn_ok t.F__law_other sc__law_other rfl rfl fun cdv A outer s H E hr => by
    have nd := sc__law_other.nd
    exact (jb_cons (js_set (i := 2) nd rfl (by first | exact Or.inl rfl | exact Or.inr rfl) (je_sh (je_lst .sh (ja_cons (je_sh (je_ty call_list_of op_oList (by rfl) t.z_list bt_list (ja_cons (je_var (pv 0)) ja_nil))) (ja_cons (je_slT (je_var (pv 0)) jo_no (jo_some je_int)) (ja_cons (je_bin op_catT op_oCatT (je_var (pv 0)) (je_sh (je_tup (ja_cons (je_lst .sh ja_nil) ja_nil)))) (ja_cons je_non (ja_cons je_int (ja_cons je_str (ja_cons je_dict0 (ja_cons (je_tup ja_nil) (ja_cons (je_tup (ja_cons (je_ix ix_seq op_oIx (je_var (pv 0)) je_int (fun _ _ => rfl)) (ja_cons (je_ty call_tuple_of op_oTuple (by rfl) t.z_tuple bt_tuple (ja_cons (je_ix ix_seq op_oIx (je_var (pv 0)) je_int (fun _ _ => rfl)) ja_nil)) (ja_cons (je_ix ix_seq op_oIx (je_var (pv 0)) je_int (fun _ _ => rfl)) ja_nil)))) ja_nil))))))))))))
      (jb_cons (js_set (i := 2) nd rfl (by first | exact Or.inl rfl | exact Or.inr rfl) (je_sh (je_bin op_cat op_oCat (je_var (pv 2)) (je_lst .sh (ja_cons (je_tup (ja_cons (je_ty call_tuple_of op_oTuple (by rfl) t.z_tuple bt_tuple (ja_cons (je_ix ix_seq op_oIx (je_var (pv 0)) je_int (fun _ _ => rfl)) ja_nil)) (ja_cons (je_ix ix_seq op_oIx (je_var (pv 0)) je_int (fun _ _ => rfl)) (ja_cons (je_ix ix_seq op_oIx (je_var (pv 0)) je_int (fun _ _ => rfl)) ja_nil)))) (ja_cons (je_sh (je_tup (ja_cons (je_lst .sh ja_nil) (ja_cons (je_lst .sh ja_nil) (ja_cons (je_lst .sh ja_nil) ja_nil))))) (ja_cons (je_sh (je_tup (ja_cons (je_lst (.ow .sh) (ja_cons (je_lst .sh ja_nil) ja_nil)) (ja_cons (je_lst .sh (ja_cons je_int ja_nil)) (ja_cons (je_lst .sh ja_nil) ja_nil))))) (ja_cons (je_sh (je_tup (ja_cons (je_ix ix_seq op_oIx (je_var (pv 0)) je_int (fun _ _ => rfl)) (ja_cons (je_ix ix_seq op_oIx (je_var (pv 0)) je_int (fun _ _ => rfl)) (ja_cons (je_ix ix_seq op_oIx (je_var (pv 0)) je_int (fun _ _ => rfl)) (ja_cons (je_lst .sh ja_nil) ja_nil)))))) ja_nil))))))))
      (jb_one (js_ret (je_ix ix_seq op_oIx (je_var (pv 2)) (je_bin op_mod op_oMod (je_var (pv 1)) je_int) (fun _ _ => rfl))))))
theorem sc__law_sums : FnScope ["_law_view_here", "_law_way", "_law_row", "_law_column", "_law_more", "_law_side", "_law_at", "_law_rest"] ["_law_view_here", "_law_way", "_law_row", "_law_column", "_law_more"] (defScope s__law_sums) := ⟨rfl, rfl, rfl, by decide +kernel, rfl, by decide +kernel, by decide +kernel⟩
theorem ok__law_sums (t : Txt tokc_MOST K mg cl ad fds) : FnOk P w K mg base (L2N.CX P w) 3 (ad 25) (fds 25) ["_law_view_here", "_law_way", "_law_row", "_law_column", "_law_more"] (SpM K 5 m__law_sums_v1) :=
  fn_okM (T := tcl [0, 1, 2, 3, 4, 5, 6] cl) t.F__law_sums sc__law_sums rfl rfl fun cdv A outer s H E hr => by
    have nd := sc__law_sums.nd
    exact (jb_cons (js_set (i := 5) nd rfl (by first | exact Or.inl rfl | exact Or.inr rfl) (je_bin op_add op_oAdd je_int (je_bin op_mod op_oMod (je_var (pv 4)) je_int)))
      (jb_cons (js_set (i := 6) nd rfl (by first | exact Or.inl rfl | exact Or.inr rfl) (je_ix ix_seq op_oIx (je_sh (je_lst .sh (ja_cons (je_var (pv 2)) (ja_cons (je_var (pv 3)) ja_nil)))) (je_bin op_sub op_oSub (je_var (pv 5)) je_int) (fun _ _ => rfl)))
      (jb_cons (js_if (jt_cmp (op_eqD (u64 hr)) op_oEq (je_var (pv 1)) je_int (nomark _)) (jb_cons (js_set (i := 7) nd rfl (by first | exact Or.inl rfl | exact Or.inr rfl) (je_ix ix_seq op_oIx (je_ix ix_seq op_oIx (je_sh (je_call (ok__law_rests t) (hr.mono (by decide)) tkF (by rfl) t.g__law_rests t.F__law_rests.kp t.b__law_rests (ja_cons (je_var (pv 0)) ja_nil))) (je_bin op_sub op_oSub (je_var (pv 5)) je_int) (fun _ _ => rfl)) (je_var (pv 6)) (fun _ _ => rfl)))
      (jb_cons (js_stP (pv 0) (je_var (pv 5)) (fun _ _ => rfl) (je_var (pv 6)) (je_bin op_sub op_oSub (je_bin op_sub op_oSub (je_ix ix_seq op_oIx (je_ix ix_seq op_oIx (je_var (pv 0)) (je_var (pv 5)) (fun _ _ => rfl)) (je_var (pv 6)) (fun _ _ => rfl)) (je_var (pv 7))) je_int))
      (jb_cons (js_stP (pv 0) (je_var (pv 5)) (fun _ _ => rfl) (je_bin op_sub op_oSub (je_var (pv 6)) je_int) (je_bin op_add op_oAdd (je_bin op_add op_oAdd (je_ix ix_seq op_oIx (je_ix ix_seq op_oIx (je_var (pv 0)) (je_var (pv 5)) (fun _ _ => rfl)) (je_bin op_sub op_oSub (je_var (pv 6)) je_int) (fun _ _ => rfl)) (je_var (pv 7))) je_int))
      (jb_one (js_ret (je_mov (pv 0))))))) jb_nil)
      (jb_cons (js_stP (pv 0) (je_var (pv 5)) (fun _ _ => rfl) (je_var (pv 6)) (je_bin op_add op_oAdd (je_ix ix_seq op_oIx (je_ix ix_seq op_oIx (je_var (pv 0)) (je_var (pv 5)) (fun _ _ => rfl)) (je_var (pv 6)) (fun _ _ => rfl)) (je_var (pv 4))))
      (jb_cons (js_if (jt_cmp (op_eqD (u64 hr)) op_oEq (je_var (pv 1)) je_int (nomark _)) (jb_one (js_stP (pv 0) (je_bin op_sub op_oSub je_int (je_var (pv 5))) (fun _ _ => rfl) (je_ix ix_seq op_oIx (je_sh (je_lst .sh (ja_cons (je_var (pv 2)) (ja_cons (je_var (pv 3)) ja_nil)))) (je_bin op_sub op_oSub je_int (je_var (pv 5))) (fun _ _ => rfl)) (je_bin op_add op_oAdd (je_ix ix_seq op_oIx (je_ix ix_seq op_oIx (je_var (pv 0)) (je_bin op_sub op_oSub je_int (je_var (pv 5))) (fun _ _ => rfl)) (je_ix ix_seq op_oIx (je_sh (je_lst .sh (ja_cons (je_var (pv 2)) (ja_cons (je_var (pv 3)) ja_nil)))) (je_bin op_sub op_oSub je_int (je_var (pv 5))) (fun _ _ => rfl)) (fun _ _ => rfl)) (je_var (pv 4))))) jb_nil)
      (jb_one (js_ret (je_mov (pv 0)))))))))
theorem sc__law_spoilt : FnScope ["_law_script", "_law_view_here", "_law_way", "_law_row", "_law_column", "_law_number_here", "_law_some", "_law_high", "_law_wide", "_law_turn"] ["_law_script", "_law_view_here"] (defScope s__law_spoilt) := ⟨rfl, rfl, rfl, by decide +kernel, rfl, by decide +kernel, by decide +kernel⟩
theorem ok__law_spoilt (t : Txt tokc_MOST K mg cl ad fds) : FnOk P w K mg base (L2N.CX P w) 4 (ad 26) (fds 26) ["_law_script", "_law_view_here"] (SpM K 2 m__law_spoilt_v1) :=
  fn_okM (T := tcl [0, 1, 2, 3, 4, 5, 6] cl) t.F__law_spoilt sc__law_spoilt rfl rfl fun cdv A outer s H E hr => by
    have nd := sc__law_spoilt.nd
    exact (jb_cons (js_set (i := 2) nd rfl (by first | exact Or.inl rfl | exact Or.inr rfl) (je_bin op_mod op_oMod (je_call (ok__law_mix t) (hr.mono (by decide)) tkF (by rfl) t.g__law_mix t.F__law_mix.kp t.b__law_mix (ja_cons (je_var (pv 0)) (ja_cons je_int ja_nil))) je_int))
      (jb_cons (js_set (i := 3) nd rfl (by first | exact Or.inl rfl | exact Or.inr rfl) (je_bin op_mod op_oMod (je_call (ok__law_mix t) (hr.mono (by decide)) tkF (by rfl) t.g__law_mix t.F__law_mix.kp t.b__law_mix (ja_cons (je_var (pv 0)) (ja_cons je_int ja_nil))) (je_blt call_len_seq op_oLen (by rfl) t.z_len bt_len (ja_cons (je_ix ix_seq op_oIx (je_var (pv 1)) je_int (fun _ _ => rfl)) ja_nil))))
      (jb_cons (js_set (i := 4) nd rfl (by first | exact Or.inl rfl | exact Or.inr rfl) (je_bin op_mod op_oMod (je_call (ok__law_mix t) (hr.mono (by decide)) tkF (by rfl) t.g__law_mix t.F__law_mix.kp t.b__law_mix (ja_cons (je_var (pv 0)) (ja_cons je_int ja_nil))) (je_blt call_len_seq op_oLen (by rfl) t.z_len bt_len (ja_cons (je_ix ix_seq op_oIx (je_var (pv 1)) je_int (fun _ _ => rfl)) ja_nil))))
      (jb_cons (js_set (i := 5) nd rfl (by first | exact Or.inl rfl | exact Or.inr rfl) (je_call (ok__law_mix t) (hr.mono (by decide)) tkF (by rfl) t.g__law_mix t.F__law_mix.kp t.b__law_mix (ja_cons (je_var (pv 0)) (ja_cons je_int ja_nil))))
      (jb_cons (js_if (jt_cmp op_lt op_oLt (je_var (pv 2)) je_int (nomark _)) (jb_one (js_ret (je_mov (pv 1)))) jb_nil)
      (jb_cons (js_if (jt_cmp op_lt op_oLt (je_var (pv 2)) je_int (nomark _)) (jb_one (js_retM (ok__law_sums t) (hr.mono (by decide)) tkF (by rfl) t.g__law_sums t.F__law_sums.kp t.b__law_sums (ja_cons (je_mov (pv 1)) (ja_cons (je_var (pv 2)) (ja_cons (je_var (pv 3)) (ja_cons (je_var (pv 4)) (ja_cons (je_bin op_add op_oAdd je_int (je_bin op_mod op_oMod (je_var (pv 5)) je_int)) ja_nil))))))) jb_nil)
      (jb_cons (js_if (jt_cmp (op_eqD (u64 hr)) op_oEq (je_var (pv 2)) je_int (nomark _)) (jb_one (js_stQ (pv 1) je_int (fun _ _ => rfl) (je_var (pv 3)) (fun _ _ => rfl) (je_var (pv 4)) (je_call (ok__law_odd t) (hr.mono (by decide)) tkF (by rfl) t.g__law_odd t.F__law_odd.kp t.b__law_odd (ja_cons (je_var (pv 5)) ja_nil)))) jb_nil)
      (jb_cons (js_if (jt_cmp (op_eqD (u64 hr)) op_oEq (je_var (pv 2)) je_int (nomark _)) (jb_one (js_stP (pv 1) (je_bin op_add op_oAdd je_int (je_bin op_mod op_oMod (je_var (pv 5)) je_int)) (fun _ _ => rfl) (je_ix ix_seq op_oIx (je_sh (je_lst .sh (ja_cons (je_var (pv 3)) (ja_cons (je_var (pv 4)) ja_nil)))) (je_bin op_mod op_oMod (je_var (pv 5)) je_int) (fun _ _ => rfl)) (je_call (ok__law_odd t) (hr.mono (by decide)) tkF (by rfl) t.g__law_odd t.F__law_odd.kp t.b__law_odd (ja_cons (je_bin op_fdiv op_oDiv (je_var (pv 5)) je_int) ja_nil)))) jb_nil)
      (jb_cons (js_if (jw_pt (jw_and (jt_cmp (op_eqD (u64 hr)) op_oEq (je_var (pv 2)) je_int (nomark _)) (jw_and1 (jt_cmp (op_eqD (u64 hr)) op_oEq (je_bin op_mod op_oMod (je_var (pv 5)) je_int) je_int (nomark _))))) (jb_one (js_shP (i := 1) (j := 0) (js_popP (pv 1) (je_bin op_mod op_oMod (je_bin op_fdiv op_oDiv (je_var (pv 5)) je_int) je_int) (fun _ _ => rfl)))) (jb_one (js_if (jt_cmp (op_eqD (u64 hr)) op_oEq (je_var (pv 2)) je_int (nomark _)) (jb_one (js_apP (pv 1) (je_bin op_add op_oAdd je_int (je_bin op_mod op_oMod (je_bin op_fdiv op_oDiv (je_var (pv 5)) je_int) je_int)) (fun _ _ => rfl) je_int)) jb_nil)))
      (jb_cons (js_if (jt_cmp (op_eqD (u64 hr)) op_oEq (je_var (pv 2)) je_int (nomark _)) (jb_one (js_ret (je_call (ok__law_other t) (hr.mono (by decide)) tkF (by rfl) t.g__law_other t.F__law_other.kp t.b__law_other (ja_cons (je_frz (pv 1)) (ja_cons (je_var (pv 5)) ja_nil))))) jb_nil)
      (jb_cons (js_if (jt_cmp (op_eqD (u64 hr)) op_oEq (je_var (pv 2)) je_int (nomark _)) (jb_cons (js_set (i := 6) nd rfl (by first | exact Or.inl rfl | exact Or.inr rfl) (je_sh (je_lst .sh (ja_cons (je_ty call_tuple_of op_oTuple (by rfl) t.z_tuple bt_tuple (ja_cons (je_ix ix_seq op_oIx (je_ix ix_seq op_oIx (je_var (pv 1)) je_int (fun _ _ => rfl)) (je_var (pv 3)) (fun _ _ => rfl)) ja_nil)) (ja_cons je_non (ja_cons je_str (ja_cons je_int (ja_cons (je_sh (je_sl (je_ix ix_seq op_oIx (je_ix ix_seq op_oIx (je_var (pv 1)) je_int (fun _ _ => rfl)) (je_var (pv 3)) (fun _ _ => rfl)) jo_no (jo_some (je_un un_neg op_oNeg je_int)))) (ja_cons (je_sh (je_bin op_cat op_oCat (je_ix ix_seq op_oIx (je_ix ix_seq op_oIx (je_var (pv 1)) je_int (fun _ _ => rfl)) (je_var (pv 3)) (fun _ _ => rfl)) (je_lst .sh (ja_cons je_non ja_nil)))) (ja_cons (je_sh (je_lst .sh ja_nil)) (ja_cons je_dict0 ja_nil)))))))))))
      (jb_one (js_shP (i := 1) (j := 0) (js_stP (pv 1) je_int (fun _ _ => rfl) (je_var (pv 3)) (je_ix ix_seq op_oIx (je_var (pv 6)) (je_bin op_mod op_oMod (je_var (pv 5)) je_int) (fun _ _ => rfl)))))) jb_nil)
      (jb_cons (js_if (jt_cmp (op_eqD (u64 hr)) op_oEq (je_var (pv 2)) je_int (nomark _)) (jb_cons (js_asg (je_ix ix_seq op_oIx (je_sh (je_lst .sh (ja_cons (je_tup (ja_cons (je_bin op_add op_oAdd je_int (je_bin op_mod op_oMod (je_bin op_fdiv op_oDiv (je_var (pv 5)) je_int) je_int)) (ja_cons (je_blt call_len_seq op_oLen (by rfl) t.z_len bt_len (ja_cons (je_ix ix_seq op_oIx (je_var (pv 1)) je_int (fun _ _ => rfl)) ja_nil)) ja_nil))) (ja_cons (je_tup (ja_cons (je_blt call_len_seq op_oLen (by rfl) t.z_len bt_len (ja_cons (je_ix ix_seq op_oIx (je_var (pv 1)) je_int (fun _ _ => rfl)) ja_nil)) (ja_cons (je_bin op_add op_oAdd je_int (je_bin op_mod op_oMod (je_bin op_fdiv op_oDiv (je_var (pv 5)) je_int) je_int)) ja_nil))) ja_nil)))) (je_bin op_mod op_oMod (je_var (pv 5)) je_int) (fun _ _ => rfl)) (jg_tup rfl (jgs_cons (jg_name (i := 7) [7, 8] nd rfl (by first | exact Or.inl rfl | exact Or.inr rfl)) (jgs_cons (jg_name (i := 8) [7, 8] nd rfl (by first | exact Or.inl rfl | exact Or.inr rfl)) (jgs_nil [7, 8])))))
      (jb_one (js_ret (je_tup (ja_cons (je_lc (ow := [("_law_turn", 9)]) rfl nd (ji_range (by rfl) t.z_range (ja_cons (je_var (pv 7)) ja_nil)) (blkOk_by (by dsimp only [cxOf, envOfC, compEnvC, Cx.blk]; decide +kernel)) rfl (fun _ _ _ _ _ => (jg_name (i := 9) [9] nd rfl (by first | exact Or.inl rfl | exact Or.inr rfl))) (fun _ _ _ _ _ => pts_no) (fun _ _ _ _ _ => (je_bin op_rep op_oRep (je_lst .sh (ja_cons je_non ja_nil)) (je_var (pv 8))))) (ja_cons (je_bin op_rep op_oRep (je_lst .sh (ja_cons je_int ja_nil)) (je_var (pv 7))) (ja_cons (je_bin op_rep op_oRep (je_lst .sh (ja_cons je_int ja_nil)) (je_var (pv 8))) ja_nil))))))) jb_nil)
      (jb_one (js_ret (je_mov (pv 1))))))))))))))))
theorem sc__law_number : FnScope ["_law_thing"] ["_law_thing"] (defScope s__law_number) := ⟨rfl, rfl, rfl, by decide +kernel, rfl, by decide +kernel, by decide +kernel⟩
theorem ok__law_number (t : Txt tokc_MOST K mg cl ad fds) : FnOk P w K mg base (L2N.CX P w) 1 (ad 27) (fds 27) ["_law_thing"] (SpF K (tcl [0, 1, 2, 3, 4, 5, 6] cl) 1 m__law_number) :=
  fn_ok t.F__law_number sc__law_number rfl rfl fun cdv A outer s H E hr => by
    have nd := sc__law_number.nd
    exact (jb_one (js_ret (je_and (je_blt call_isi op_oIsi (by rfl) t.z_isinstance bt_isinstance (ja_cons (je_var (pv 0)) (ja_cons (je_c (pe_bltn (v := .ty "int") (by rfl) t.z_int bt_int rfl) fun B => by simp [Rp]) ja_nil))) (je_and (je_not (je_blt call_isi op_oIsi (by rfl) t.z_isinstance bt_isinstance (ja_cons (je_var (pv 0)) (ja_cons (je_c (pe_bltn (v := .ty "bool") (by rfl) t.z_bool bt_bool rfl) fun B => by simp [Rp]) ja_nil)))) (je_one (je_cmp op_ge op_oGe (je_var (pv 0)) je_int (nomark _)))))))
theorem sc__law_cells : FnScope ["_law_thing", "_law_row", "_law_one"] ["_law_thing"] (defScope s__law_cells) := ⟨rfl, rfl, rfl, by decide +kernel, rfl, by decide +kernel, by decide +kernel⟩
theorem ok__law_cells (t : Txt tokc_MOST K mg cl ad fds) : FnOk P w K mg base (L2N.CX P w) 2 (ad 28) (fds 28) ["_law_thing"] (SpF K (tcl [0, 1, 2, 3, 4, 5, 6] cl) 1 m__law_cells) :=
  fn_ok t.F__law_cells sc__law_cells rfl rfl fun cdv A outer s H E hr => by
    have nd := sc__law_cells.nd
    exact (jb_cons (js_if (jw_pt (jw_or (jt_not (jt_val (je_blt call_isi op_oIsi (by rfl) t.z_isinstance bt_isinstance (ja_cons (je_var (pv 0)) (ja_cons (je_c (pe_bltn (v := .ty "list") (by rfl) t.z_list bt_list rfl) fun B => by simp [Rp]) ja_nil))))) (jw_or1 (jt_not (jt_chain op_le op_le je_int (je_blt call_len_seq op_oLen (by rfl) t.z_len bt_len (ja_cons (je_var (pv 0)) ja_nil)) je_int))))) (jb_one (js_ret je_bl)) jb_nil)
      (jb_cons (js_for poF rfl (ji_list (je_var (pv 0))) (jg_name (i := 1) [1] nd rfl (by first | exact Or.inl rfl | exact Or.inr rfl)) (jb_cons (js_if (jw_pt (jw_or (jt_not (jt_val (je_blt call_isi op_oIsi (by rfl) t.z_isinstance bt_isinstance (ja_cons (je_var (pv 1)) (ja_cons (je_c (pe_bltn (v := .ty "list") (by rfl) t.z_list bt_list rfl) fun B => by simp [Rp]) ja_nil))))) (jw_or (jt_not (jt_chain op_le op_le je_int (je_blt call_len_seq op_oLen (by rfl) t.z_len bt_len (ja_cons (je_var (pv 1)) ja_nil)) je_int)) (jw_or1 (jt_cmp (op_neD (u64 hr)) op_oNe (je_blt call_len_seq op_oLen (by rfl) t.z_len bt_len (ja_cons (je_var (pv 1)) ja_nil)) (je_blt call_len_seq op_oLen (by rfl) t.z_len bt_len (ja_cons (je_ix ix_seq op_oIx (je_var (pv 0)) je_int (fun _ _ => rfl)) ja_nil)) (nomark _)))))) (jb_one (js_ret je_bl)) jb_nil)
      (jb_one (js_if (jt_not (jt_val (je_blt (cr_all rfl) op_oAll (by rfl) t.z_all bt_all (ja_cons (je_lc (ow := [("_law_one", 2)]) rfl nd (ji_list (je_var (pv 1))) (blkOk_by (by dsimp only [cxOf, envOfC, compEnvC, Cx.blk]; decide +kernel)) rfl (fun _ _ _ _ _ => (jg_name (i := 2) [2] nd rfl (by first | exact Or.inl rfl | exact Or.inr rfl))) (fun _ _ _ _ _ => pts_no) (fun _ _ _ _ _ => (je_or (je_cmp op_isN op_oIsN (je_var (pv 2)) je_non (nomark _)) (je_one (je_call (ok__law_number t) (hr.mono (by decide)) takN (by rfl) t.g__law_number t.F__law_number.kp t.b__law_number (ja_cons (je_var (pv 2)) ja_nil)))))) ja_nil)))) (jb_one (js_ret je_bl)) jb_nil))))
      (jb_one (js_ret je_bl))))
theorem sc__law_is_view : FnScope ["_law_thing", "_law_part", "_law_many", "_law_left", "_law_below", "_law_one"] ["_law_thing"] (defScope s__law_is_view) := ⟨rfl, rfl, rfl, by decide +kernel, rfl, by decide +kernel, by decide +kernel⟩
theorem ok__law_is_view (t : Txt tokc_MOST K mg cl ad fds) : FnOk P w K mg base (L2N.CX P w) 3 (ad 29) (fds 29) ["_law_thing"] (SpF K (tcl [0, 1, 2, 3, 4, 5, 6] cl) 1 m__law_is_view) :=
  fn_ok t.F__law_is_view sc__law_is_view rfl rfl fun cdv A outer s H E hr => by
    have nd := sc__law_is_view.nd
    exact (jb_cons (js_if (jw_pt (jw_or (jt_not (jt_val (je_blt call_isi op_oIsi (by rfl) t.z_isinstance bt_isinstance (ja_cons (je_var (pv 0)) (ja_cons (je_c (pe_bltn (v := .ty "tuple") (by rfl) t.z_tuple bt_tuple rfl) fun B => by simp [Rp]) ja_nil))))) (jw_or (jt_cmp (op_neD (u64 hr)) op_oNe (je_blt call_len_seq op_oLen (by rfl) t.z_len bt_len (ja_cons (je_var (pv 0)) ja_nil)) je_int (nomark _)) (jw_or1 (jt_not (jt_val (je_call (ok__law_cells t) (hr.mono (by decide)) tkF (by rfl) t.g__law_cells t.F__law_cells.kp t.b__law_cells (ja_cons (je_ix ix_seq op_oIx (je_var (pv 0)) je_int (fun _ _ => rfl)) ja_nil)))))))) (jb_one (js_ret je_bl)) jb_nil)
      (jb_cons (js_for poF rfl (ji_list (je_lst .sh (ja_cons (je_tup (ja_cons (je_ix ix_seq op_oIx (je_var (pv 0)) je_int (fun _ _ => rfl)) (ja_cons (je_blt call_len_seq op_oLen (by rfl) t.z_len bt_len (ja_cons (je_ix ix_seq op_oIx (je_var (pv 0)) je_int (fun _ _ => rfl)) ja_nil)) ja_nil))) (ja_cons (je_tup (ja_cons (je_ix ix_seq op_oIx (je_var (pv 0)) je_int (fun _ _ => rfl)) (ja_cons (je_blt call_len_seq op_oLen (by rfl) t.z_len bt_len (ja_cons (je_ix ix_seq op_oIx (je_ix ix_seq op_oIx (je_var (pv 0)) je_int (fun _ _ => rfl)) je_int (fun _ _ => rfl)) ja_nil)) ja_nil))) ja_nil)))) (jg_tup rfl (jgs_cons (jg_name (i := 1) [1, 2] nd rfl (by first | exact Or.inl rfl | exact Or.inr rfl)) (jgs_cons (jg_name (i := 2) [1, 2] nd rfl (by first | exact Or.inl rfl | exact Or.inr rfl)) (jgs_nil [1, 2])))) (jb_one (js_if (jw_pt (jw_or (jt_not (jt_val (je_blt call_isi op_oIsi (by rfl) t.z_isinstance bt_isinstance (ja_cons (je_var (pv 1)) (ja_cons (je_c (pe_bltn (v := .ty "list") (by rfl) t.z_list bt_list rfl) fun B => by simp [Rp]) ja_nil))))) (jw_or (jt_cmp (op_neD (u64 hr)) op_oNe (je_blt call_len_seq op_oLen (by rfl) t.z_len bt_len (ja_cons (je_var (pv 1)) ja_nil)) (je_var (pv 2)) (nomark _)) (jw_or1 (jt_not (jt_val (je_blt (cr_all rfl) op_oAll (by rfl) t.z_all bt_all (ja_cons (je_lc (ow := [("_law_one", 5)]) rfl nd (ji_list (je_var (pv 1))) (blkOk_by (by dsimp only [cxOf, envOfC, compEnvC, Cx.blk]; decide +kernel)) rfl (fun _ _ _ _ _ => (jg_name (i := 5) [5] nd rfl (by first | exact Or.inl rfl | exact Or.inr rfl))) (fun _ _ _ _ _ => pts_no) (fun _ _ _ _ _ => (je_call (ok__law_number t) (hr.mono (by decide)) takN (by rfl) t.g__law_number t.F__law_number.kp t.b__law_number (ja_cons (je_var (pv 5)) ja_nil)))) ja_nil)))))))) (jb_one (js_ret je_bl)) jb_nil)))
      (jb_cons (js_asg (je_call (ok__law_rests t) (hr.mono (by decide)) tkF (by rfl) t.g__law_rests t.F__law_rests.kp t.b__law_rests (ja_cons (je_var (pv 0)) ja_nil)) (jg_tup rfl (jgs_cons (jg_name (i := 3) [3, 4] nd rfl (by first | exact Or.inl rfl | exact Or.inr rfl)) (jgs_cons (jg_name (i := 4) [3, 4] nd rfl (by first | exact Or.inl rfl | exact Or.inr rfl)) (jgs_nil [3, 4])))))
      (jb_one (js_ret (je_and (je_cmp op_ge op_oGe (je_blt (cr_min rfl) op_oMin (by rfl) t.z_min bt_min (ja_cons (je_bin op_cat op_oCat (je_var (pv 3)) (je_var (pv 4))) ja_nil)) je_int (nomark _)) (je_one (je_cmp (op_eqD (u64 hr)) op_oEq (je_blt (cr_sum rfl) op_oSum (by rfl) t.z_sum bt_sum (ja_cons (je_var (pv 3)) ja_nil)) (je_blt (cr_sum rfl) op_oSum (by rfl) t.z_sum bt_sum (ja_cons (je_var (pv 4)) ja_nil)) (nomark _)))))))))
theorem sc__law_alone : FnScope ["_law_e", "_law_others"] ["_law_e"] (defScope s__law_alone) := ⟨rfl, rfl, rfl, by decide +kernel, rfl, by decide +kernel, by decide +kernel⟩
theorem ok__law_alone (t : Txt tokc_MOST K mg cl ad fds) (a : Addr) (c : Nat) (hc : c ≤ 4 ∧ c ∈ ([0, 1, 2, 3, 4, 5, 6] : List Nat)) : FnP P w K mg base 1 (ad 30) (fds 30) ["_law_e"] (ZnE (cl c)) a (SpF K (tcl [0, 1, 2, 3, 4, 5, 6] cl) 1 (mCalmF (m__law_alone_v1 a c))) :=
  fn_okP t.F__law_alone sc__law_alone rfl rfl fun cdv A outer s H E oe hot hZ hr => by
    have nd := sc__law_alone.nd
    exact (jb_cons (js_set (i := 1) nd rfl (by first | exact Or.inl rfl | exact Or.inr rfl) (je_isET (ks := [some 4, some 3, some 1, some 5, some 6]) t.ext hc (okKs (by decide)) (by decide) List.mem_cons_self hZ.zc hZ.2 (by rfl) t.z_isinstance bt_isinstance (ja_cons (je_var (pv 0)) (ja_cons (je_tup (ja_cons (je_cls (by rfl) t.g_BadNumber) (ja_cons (je_cls (by rfl) t.g_BadPlace) (ja_cons (je_cls (by rfl) t.g_BadTable) (ja_cons (je_cls (by rfl) t.g_NoTable) (ja_cons (je_cls (by rfl) t.g_NotHidden) ja_nil)))))) ja_nil))))
      (jb_one (js_ret (je_and (je_isE (k := some 2) t.ext hc (okK (by decide)) List.mem_cons_self hZ.zc hZ.2 (by rfl) t.z_isinstance bt_isinstance (ja_cons (je_var (pv 0)) (ja_cons (je_cls (by rfl) t.g_BadView) ja_nil))) (je_and (je_isE (k := none) t.ext hc (okK (by decide)) List.mem_cons_self hZ.zc hZ.2 (by rfl) t.z_isinstance bt_isinstance (ja_cons (je_var (pv 0)) (ja_cons (je_clsV (by rfl) t.z_ValueError bt_ValueError) ja_nil))) (je_one (je_not (je_var (pv 1)))))))))
theorem sc__law_refused : FnScope ["_law_way", "_law_thing", "_law_e"] ["_law_way", "_law_thing"] (defScope s__law_refused) := ⟨rfl, rfl, rfl, by decide +kernel, rfl, by decide +kernel, by decide +kernel⟩
theorem ok__law_refused (t : Txt tokc_MOST K mg cl ad fds) : FnOk P w K mg base (L2N.CX P w) 8 (ad 31) (fds 31) ["_law_way", "_law_thing"] (SpF K (tcl [0, 1, 2, 3, 4, 5, 6] cl) 2 m__law_refused_v3) :=
  fn_ok t.F__law_refused sc__law_refused rfl rfl fun cdv A outer s H E hr => by
    have nd := sc__law_refused.nd
    exact (jb_cons (js_try_as (i := 2) (c := 0) (okx := okP) rfl rfl nd rfl rfl ⟨by rfl, by decide, .inl t.g_VeilError⟩ tkF (t.ext.exm (by decide)) (fun W1 pn xe tk po => (jb_one (js_if (jt_cmp (op_eqD (u64 hr)) op_oEq (je_var (pv 0)) je_int (nomark _)) (jb_one (js_expr (je_call (ok_hidden_places t) (hr.mono (by decide)) tk (by rfl) t.g_hidden_places t.F_hidden_places.kp t.b_hidden_places (ja_cons (je_var (pv 1)) ja_nil)))) (jb_one (js_if (jt_cmp (op_eqD (u64 hr)) op_oEq (je_var (pv 0)) je_int (nomark _)) (jb_one (js_expr (je_call (ok_filled t) (hr.mono (by decide)) tk (by rfl) t.g_filled t.F_filled.kp t.b_filled (ja_cons (je_var (pv 1)) ja_nil)))) (jb_one (js_if (jt_cmp (op_eqD (u64 hr)) op_oEq (je_var (pv 0)) je_int (nomark _)) (jb_one (js_expr (je_call (ok_ends t) (hr.mono (by decide)) tk (by rfl) t.g_ends t.F_ends.kp t.b_ends (ja_cons (je_var (pv 1)) (ja_cons (je_tup (ja_cons je_int (ja_cons je_int ja_nil))) ja_nil))))) (jb_one (js_if (jt_cmp (op_eqD (u64 hr)) op_oEq (je_var (pv 0)) je_int (nomark _)) (jb_one (js_expr (je_call (ok_walls t) (hr.mono (by decide)) tk (by rfl) t.g_walls t.F_walls.kp t.b_walls (ja_cons (je_var (pv 1)) (ja_cons (je_tup (ja_cons je_int (ja_cons je_int ja_nil))) ja_nil))))) (jb_one (js_if (jt_cmp (op_eqD (u64 hr)) op_oEq (je_var (pv 0)) je_int (nomark _)) (jb_one (js_expr (je_call (ok_rests t) (hr.mono (by decide)) tk (by rfl) t.g_rests t.F_rests.kp t.b_rests (ja_cons (je_var (pv 1)) ja_nil)))) (jb_one (js_expr (je_call (ok_given_away t) (hr.mono (by decide)) tk (by rfl) t.g_given_away t.F_given_away.kp t.b_given_away (ja_cons (je_var (pv 1)) (ja_cons je_int ja_nil)))))))))))))))) (fun a oe x d pn hx6 hT ho hk hz hd => jb_calm (by have hz := tcl_zn hT hz; have hZ := znE hz (hk (okP_ks ho)) hd; exact (jb_one (js_ret (je_callP (ok__law_alone t a x.c ⟨okP_c ho, tcl_mem hT⟩) (room_suite (hr.mono (by decide))) (hot_suite hz hd) hZ List.mem_cons_self takN (by rfl) t.g__law_alone t.F__law_alone.kp t.b__law_alone (ja_cons (je_var (pv 2)) ja_nil)))))))
      (jb_one (js_ret je_bl)))
theorem sc_law : FnScope ["_law_script", "_law_table_here", "_law_places_here", "_law_thing", "_law_due", "_law_found", "_law_way"] ["_law_script"] (defScope s_law) := ⟨rfl, rfl, rfl, by decide +kernel, rfl, by decide +kernel, by decide +kernel⟩
theorem ok_law (t : Txt tokc_MOST K mg cl ad fds) : FnOk P w K mg base (L2N.CX P w) 9 (ad 32) (fds 32) ["_law_script"] (SpF K (tcl [0, 1, 2, 3, 4, 5, 6] cl) 1 m_law_v4) :=
  fn_ok t.F_law sc_law rfl rfl fun cdv A outer s H E hr => by
    have nd := sc_law.nd
    exact (jb_cons (js_set (i := 1) nd rfl (by first | exact Or.inl rfl | exact Or.inr rfl) (je_sh (je_call (ok__law_table t) (hr.mono (by decide)) tkF (by rfl) t.g__law_table t.F__law_table.kp t.b__law_table (ja_cons (je_var (pv 0)) (ja_cons (je_bin op_add op_oAdd je_int (je_bin op_mod op_oMod (je_call (ok__law_mix t) (hr.mono (by decide)) tkF (by rfl) t.g__law_mix t.F__law_mix.kp t.b__law_mix (ja_cons (je_var (pv 0)) (ja_cons je_int ja_nil))) je_int)) (ja_cons (je_bin op_add op_oAdd je_int (je_bin op_mod op_oMod (je_call (ok__law_mix t) (hr.mono (by decide)) tkF (by rfl) t.g__law_mix t.F__law_mix.kp t.b__law_mix (ja_cons (je_var (pv 0)) (ja_cons je_int ja_nil))) je_int)) ja_nil))))))
      (jb_cons (js_set (i := 2) nd rfl (by first | exact Or.inl rfl | exact Or.inr rfl) (je_sh (je_call (ok__law_places t) (hr.mono (by decide)) tkF (by rfl) t.g__law_places t.F__law_places.kp t.b__law_places (ja_cons (je_var (pv 0)) (ja_cons (je_var (pv 1)) ja_nil)))))
      (jb_cons (js_set (i := 3) nd rfl (by first | exact Or.inl rfl | exact Or.inr rfl) (je_sh (je_callM (ok__law_spoilt t) (hr.mono (by decide)) (ok__law_view t) (hr.mono (by decide)) tkF (by rfl) t.g__law_spoilt t.F__law_spoilt.kp t.b__law_spoilt (by rfl) t.g__law_view t.F__law_view.kp t.b__law_view (je_var (pv 0)) (ja_cons (je_var (pv 1)) (ja_cons (je_var (pv 2)) ja_nil)))))
      (jb_cons (js_set (i := 4) nd rfl (by first | exact Or.inl rfl | exact Or.inr rfl) (je_call (ok__law_is_view t) (hr.mono (by decide)) tkF (by rfl) t.g__law_is_view t.F__law_is_view.kp t.b__law_is_view (ja_cons (je_var (pv 3)) ja_nil)))
      (jb_cons (js_set (i := 5) nd rfl (by first | exact Or.inl rfl | exact Or.inr rfl) (je_call (ok_is_view t) (hr.mono (by decide)) tkF (by rfl) t.g_is_view t.F_is_view.kp t.b_is_view (ja_cons (je_var (pv 3)) ja_nil)))
      (jb_cons (js_if (jw_pt (jw_or (jt_not (jt_val (je_blt call_isi op_oIsi (by rfl) t.z_isinstance bt_isinstance (ja_cons (je_var (pv 5)) (ja_cons (je_c (pe_bltn (v := .ty "bool") (by rfl) t.z_bool bt_bool rfl) fun B => by simp [Rp]) ja_nil))))) (jw_or (jt_cmp (op_neT (u65 hr)) op_oNeT (je_var (pv 5)) (je_var (pv 4)) (nomark _)) (jw_or1 (jt_cmp (op_neT (u65 hr)) op_oNeT (je_var (pv 3)) (je_callM (ok__law_spoilt t) (hr.mono (by decide)) (ok__law_view t) (hr.mono (by decide)) tkF (by rfl) t.g__law_spoilt t.F__law_spoilt.kp t.b__law_spoilt (by rfl) t.g__law_view t.F__law_view.kp t.b__law_view (je_var (pv 0)) (ja_cons (je_var (pv 1)) (ja_cons (je_var (pv 2)) ja_nil))) (nomark _)))))) (jb_one (js_ret je_bl)) jb_nil)
      (jb_one (js_ret (je_or (je_var (pv 4)) (je_one (je_blt (cr_all rfl) op_oAll (by rfl) t.z_all bt_all (ja_cons (je_lc (ow := [("_law_way", 6)]) rfl nd (ji_range (by rfl) t.z_range (ja_cons je_int ja_nil)) (blkOk_by (by dsimp only [cxOf, envOfC, compEnvC, Cx.blk]; decide +kernel)) rfl (fun _ _ _ _ _ => (jg_name (i := 6) [6] nd rfl (by first | exact Or.inl rfl | exact Or.inr rfl))) (fun _ _ _ _ _ => pts_no) (fun _ _ _ _ _ => (je_call (ok__law_refused t) (hr.mono (by decide)) takN (by rfl) t.g__law_refused t.F__law_refused.kp t.b__law_refused (ja_cons (je_var (pv 6)) (ja_cons (je_var (pv 3)) ja_nil))))) ja_nil))))))))))))
end
end Ve

set_option Elab.async false
set_option linter.all false
set_option maxRecDepth 100000
set_option maxHeartbeats 4000000
namespace Ve
open PySem PySem.Spec PyProof.Rows L2
theorem all_mk (lt : ∀ ns : List Int, ns.length ≤ 63 → m_law_v4 [.fz ns] = some (.ok (.bl true, .sh)))
    {l : PySem.W.OpenLaw} {w : World} {K : PySem.W.Frag} {h : Heap} {mg : Str → Option Value} {fa f0 f1 f2 f3 f4 f5 f6 f7 f8 f9 f10 f11 f12 f13 f14 f15 f16 f17 f18 f19 f20 f21 f22 f23 f24 f25 f26 f27 f28 f29 f30 f31 f32 C0 C1 C2 C3 C4 C5 C6 : Addr} (X : K.In h) (G : h.Ns mainGlobals mg) (hfa : mg "law" = some (.ref fa))
    {od0 an0 od1 an1 od2 an2 od3 an3 od4 an4 od5 an5 od6 an6 od7 an7 od8 an8 od9 an9 od10 an10 od11 an11 od12 an12 od13 an13 od14 an14 od15 an15 od16 an16 od17 an17 od18 an18 od19 an19 od20 an20 od21 an21 od22 an22 od23 an23 od24 an24 od25 an25 od26 an26 od27 an27 od28 an28 od29 an29 od30 an30 od31 an31 od32 an32 : Option Addr} {sl0 sl1 sl2 sl3 sl4 sl5 sl6 sl7 sl8 sl9 sl10 sl11 sl12 sl13 sl14 sl15 sl16 sl17 sl18 sl19 sl20 sl21 sl22 sl23 sl24 sl25 sl26 sl27 sl28 sl29 sl30 sl31 sl32 : Array (Option Value)} {oc0 kV0 dc0 pm0 cd0 ct0 oc1 kV1 dc1 pm1 cd1 ct1 oc2 kV2 dc2 pm2 cd2 ct2 oc3 kV3 dc3 pm3 cd3 ct3 oc4 kV4 dc4 pm4 cd4 ct4 oc5 kV5 dc5 pm5 cd5 ct5 oc6 kV6 dc6 pm6 cd6 ct6 oc7 kV7 dc7 pm7 cd7 ct7 oc8 kV8 dc8 pm8 cd8 ct8 oc9 kV9 dc9 pm9 cd9 ct9 oc10 kV10 dc10 pm10 cd10 ct10 oc11 kV11 dc11 pm11 cd11 ct11 oc12 kV12 dc12 pm12 cd12 ct12 oc13 kV13 dc13 pm13 cd13 ct13 oc14 kV14 dc14 pm14 cd14 ct14 oc15 kV15 dc15 pm15 cd15 ct15 oc16 kV16 dc16 pm16 cd16 ct16 oc17 kV17 dc17 pm17 cd17 ct17 oc18 kV18 dc18 pm18 cd18 ct18 oc19 kV19 dc19 pm19 cd19 ct19 oc20 kV20 dc20 pm20 cd20 ct20 oc21 kV21 dc21 pm21 cd21 ct21 oc22 kV22 dc22 pm22 cd22 ct22 oc23 kV23 dc23 pm23 cd23 ct23 oc24 kV24 dc24 pm24 cd24 ct24 oc25 kV25 dc25 pm25 cd25 ct25 oc26 kV26 dc26 pm26 cd26 ct26 oc27 kV27 dc27 pm27 cd27 ct27 oc28 kV28 dc28 pm28 cd28 ct28 oc29 kV29 dc29 pm29 cd29 ct29 oc30 kV30 dc30 pm30 cd30 ct30 oc31 kV31 dc31 pm31 cd31 ct31 oc32 kV32 dc32 pm32 cd32 ct32 : Value} {tok_MOST : Tok}
    (a0 : PySem.W.nsIn K mainGlobals "is_number" = some (some (.ref f0))) (l0 : K.lookup f0 = some ⟨oc0, od0, .func (PySem.W.fnOf "is_number" "is_number" (defArgs s_is_number) (defBody s_is_number) (defScope s_is_number) .none kV0 dc0 pm0 an0 cd0 ct0), sl0⟩) (c0 : PySem.W.codeIn K cd0 "is_number" = true) (k0 : PySem.W.keepIn K (.ref f0) = true)
    (a1 : PySem.W.nsIn K mainGlobals "is_grid" = some (some (.ref f1))) (l1 : K.lookup f1 = some ⟨oc1, od1, .func (PySem.W.fnOf "is_grid" "is_grid" (defArgs s_is_grid) (defBody s_is_grid) (defScope s_is_grid) .none kV1 dc1 pm1 an1 cd1 ct1), sl1⟩) (c1 : PySem.W.codeIn K cd1 "is_grid" = true) (k1 : PySem.W.keepIn K (.ref f1) = true)
    (a2 : PySem.W.nsIn K mainGlobals "all_places" = some (some (.ref f2))) (l2 : K.lookup f2 = some ⟨oc2, od2, .func (PySem.W.fnOf "all_places" "all_places" (defArgs s_all_places) (defBody s_all_places) (defScope s_all_places) .none kV2 dc2 pm2 an2 cd2 ct2), sl2⟩) (c2 : PySem.W.codeIn K cd2 "all_places" = true) (k2 : PySem.W.keepIn K (.ref f2) = true)
    (a3 : PySem.W.nsIn K mainGlobals "are_sums" = some (some (.ref f3))) (l3 : K.lookup f3 = some ⟨oc3, od3, .func (PySem.W.fnOf "are_sums" "are_sums" (defArgs s_are_sums) (defBody s_are_sums) (defScope s_are_sums) .none kV3 dc3 pm3 an3 cd3 ct3), sl3⟩) (c3 : PySem.W.codeIn K cd3 "are_sums" = true) (k3 : PySem.W.keepIn K (.ref f3) = true)
    (a4 : PySem.W.nsIn K mainGlobals "shown_sum" = some (some (.ref f4))) (l4 : K.lookup f4 = some ⟨oc4, od4, .func (PySem.W.fnOf "shown_sum" "shown_sum" (defArgs s_shown_sum) (defBody s_shown_sum) (defScope s_shown_sum) .none kV4 dc4 pm4 an4 cd4 ct4), sl4⟩) (c4 : PySem.W.codeIn K cd4 "shown_sum" = true) (k4 : PySem.W.keepIn K (.ref f4) = true)
    (a5 : PySem.W.nsIn K mainGlobals "rests_of" = some (some (.ref f5))) (l5 : K.lookup f5 = some ⟨oc5, od5, .func (PySem.W.fnOf "rests_of" "rests_of" (defArgs s_rests_of) (defBody s_rests_of) (defScope s_rests_of) .none kV5 dc5 pm5 an5 cd5 ct5), sl5⟩) (c5 : PySem.W.codeIn K cd5 "rests_of" = true) (k5 : PySem.W.keepIn K (.ref f5) = true)
    (a6 : PySem.W.nsIn K mainGlobals "is_view" = some (some (.ref f6))) (l6 : K.lookup f6 = some ⟨oc6, od6, .func (PySem.W.fnOf "is_view" "is_view" (defArgs s_is_view) (defBody s_is_view) (defScope s_is_view) .none kV6 dc6 pm6 an6 cd6 ct6), sl6⟩) (c6 : PySem.W.codeIn K cd6 "is_view" = true) (k6 : PySem.W.keepIn K (.ref f6) = true)
    (a7 : PySem.W.nsIn K mainGlobals "need_view" = some (some (.ref f7))) (l7 : K.lookup f7 = some ⟨oc7, od7, .func (PySem.W.fnOf "need_view" "need_view" (defArgs s_need_view) (defBody s_need_view) (defScope s_need_view) .none kV7 dc7 pm7 an7 cd7 ct7), sl7⟩) (c7 : PySem.W.codeIn K cd7 "need_view" = true) (k7 : PySem.W.keepIn K (.ref f7) = true)
    (a8 : PySem.W.nsIn K mainGlobals "hidden_places" = some (some (.ref f8))) (l8 : K.lookup f8 = some ⟨oc8, od8, .func (PySem.W.fnOf "hidden_places" "hidden_places" (defArgs s_hidden_places) (defBody s_hidden_places) (defScope s_hidden_places) .none kV8 dc8 pm8 an8 cd8 ct8), sl8⟩) (c8 : PySem.W.codeIn K cd8 "hidden_places" = true) (k8 : PySem.W.keepIn K (.ref f8) = true)
    (a9 : PySem.W.nsIn K mainGlobals "rests" = some (some (.ref f9))) (l9 : K.lookup f9 = some ⟨oc9, od9, .func (PySem.W.fnOf "rests" "rests" (defArgs s_rests) (defBody s_rests) (defScope s_rests) .none kV9 dc9 pm9 an9 cd9 ct9), sl9⟩) (c9 : PySem.W.codeIn K cd9 "rests" = true) (k9 : PySem.W.keepIn K (.ref f9) = true)
    (a10 : PySem.W.nsIn K mainGlobals "filled" = some (some (.ref f10))) (l10 : K.lookup f10 = some ⟨oc10, od10, .func (PySem.W.fnOf "filled" "filled" (defArgs s_filled) (defBody s_filled) (defScope s_filled) .none kV10 dc10 pm10 an10 cd10 ct10), sl10⟩) (c10 : PySem.W.codeIn K cd10 "filled" = true) (k10 : PySem.W.keepIn K (.ref f10) = true)
    (a11 : PySem.W.nsIn K mainGlobals "need_hidden" = some (some (.ref f11))) (l11 : K.lookup f11 = some ⟨oc11, od11, .func (PySem.W.fnOf "need_hidden" "need_hidden" (defArgs s_need_hidden) (defBody s_need_hidden) (defScope s_need_hidden) .none kV11 dc11 pm11 an11 cd11 ct11), sl11⟩) (c11 : PySem.W.codeIn K cd11 "need_hidden" = true) (k11 : PySem.W.keepIn K (.ref f11) = true)
    (a12 : PySem.W.nsIn K mainGlobals "ends" = some (some (.ref f12))) (l12 : K.lookup f12 = some ⟨oc12, od12, .func (PySem.W.fnOf "ends" "ends" (defArgs s_ends) (defBody s_ends) (defScope s_ends) .none kV12 dc12 pm12 an12 cd12 ct12), sl12⟩) (c12 : PySem.W.codeIn K cd12 "ends" = true) (k12 : PySem.W.keepIn K (.ref f12) = true)
    (a13 : PySem.W.nsIn K mainGlobals "walls" = some (some (.ref f13))) (l13 : K.lookup f13 = some ⟨oc13, od13, .func (PySem.W.fnOf "walls" "walls" (defArgs s_walls) (defBody s_walls) (defScope s_walls) .none kV13 dc13 pm13 an13 cd13 ct13), sl13⟩) (c13 : PySem.W.codeIn K cd13 "walls" = true) (k13 : PySem.W.keepIn K (.ref f13) = true)
    (a14 : PySem.W.nsIn K mainGlobals "given_away" = some (some (.ref f14))) (l14 : K.lookup f14 = some ⟨oc14, od14, .func (PySem.W.fnOf "given_away" "given_away" (defArgs s_given_away) (defBody s_given_away) (defScope s_given_away) .none kV14 dc14 pm14 an14 cd14 ct14), sl14⟩) (c14 : PySem.W.codeIn K cd14 "given_away" = true) (k14 : PySem.W.keepIn K (.ref f14) = true)
    (a15 : PySem.W.nsIn K mainGlobals "_law_mix" = some (some (.ref f15))) (l15 : K.lookup f15 = some ⟨oc15, od15, .func (PySem.W.fnOf "_law_mix" "_law_mix" (defArgs s__law_mix) (defBody s__law_mix) (defScope s__law_mix) .none kV15 dc15 pm15 an15 cd15 ct15), sl15⟩) (c15 : PySem.W.codeIn K cd15 "_law_mix" = true) (k15 : PySem.W.keepIn K (.ref f15) = true)
    (a16 : PySem.W.nsIn K mainGlobals "_law_count" = some (some (.ref f16))) (l16 : K.lookup f16 = some ⟨oc16, od16, .func (PySem.W.fnOf "_law_count" "_law_count" (defArgs s__law_count) (defBody s__law_count) (defScope s__law_count) .none kV16 dc16 pm16 an16 cd16 ct16), sl16⟩) (c16 : PySem.W.codeIn K cd16 "_law_count" = true) (k16 : PySem.W.keepIn K (.ref f16) = true)
    (a17 : PySem.W.nsIn K mainGlobals "_law_table" = some (some (.ref f17))) (l17 : K.lookup f17 = some ⟨oc17, od17, .func (PySem.W.fnOf "_law_table" "_law_table" (defArgs s__law_table) (defBody s__law_table) (defScope s__law_table) .none kV17 dc17 pm17 an17 cd17 ct17), sl17⟩) (c17 : PySem.W.codeIn K cd17 "_law_table" = true) (k17 : PySem.W.keepIn K (.ref f17) = true)
    (a18 : PySem.W.nsIn K mainGlobals "_law_all" = some (some (.ref f18))) (l18 : K.lookup f18 = some ⟨oc18, od18, .func (PySem.W.fnOf "_law_all" "_law_all" (defArgs s__law_all) (defBody s__law_all) (defScope s__law_all) .none kV18 dc18 pm18 an18 cd18 ct18), sl18⟩) (c18 : PySem.W.codeIn K cd18 "_law_all" = true) (k18 : PySem.W.keepIn K (.ref f18) = true)
    (a19 : PySem.W.nsIn K mainGlobals "_law_places" = some (some (.ref f19))) (l19 : K.lookup f19 = some ⟨oc19, od19, .func (PySem.W.fnOf "_law_places" "_law_places" (defArgs s__law_places) (defBody s__law_places) (defScope s__law_places) .none kV19 dc19 pm19 an19 cd19 ct19), sl19⟩) (c19 : PySem.W.codeIn K cd19 "_law_places" = true) (k19 : PySem.W.keepIn K (.ref f19) = true)
    (a20 : PySem.W.nsIn K mainGlobals "_law_column_sums" = some (some (.ref f20))) (l20 : K.lookup f20 = some ⟨oc20, od20, .func (PySem.W.fnOf "_law_column_sums" "_law_column_sums" (defArgs s__law_column_sums) (defBody s__law_column_sums) (defScope s__law_column_sums) .none kV20 dc20 pm20 an20 cd20 ct20), sl20⟩) (c20 : PySem.W.codeIn K cd20 "_law_column_sums" = true) (k20 : PySem.W.keepIn K (.ref f20) = true)
    (a21 : PySem.W.nsIn K mainGlobals "_law_view" = some (some (.ref f21))) (l21 : K.lookup f21 = some ⟨oc21, od21, .func (PySem.W.fnOf "_law_view" "_law_view" (defArgs s__law_view) (defBody s__law_view) (defScope s__law_view) .none kV21 dc21 pm21 an21 cd21 ct21), sl21⟩) (c21 : PySem.W.codeIn K cd21 "_law_view" = true) (k21 : PySem.W.keepIn K (.ref f21) = true)
    (a22 : PySem.W.nsIn K mainGlobals "_law_rests" = some (some (.ref f22))) (l22 : K.lookup f22 = some ⟨oc22, od22, .func (PySem.W.fnOf "_law_rests" "_law_rests" (defArgs s__law_rests) (defBody s__law_rests) (defScope s__law_rests) .none kV22 dc22 pm22 an22 cd22 ct22), sl22⟩) (c22 : PySem.W.codeIn K cd22 "_law_rests" = true) (k22 : PySem.W.keepIn K (.ref f22) = true)
    (a23 : PySem.W.nsIn K mainGlobals "_law_odd" = some (some (.ref f23))) (l23 : K.lookup f23 = some ⟨oc23, od23, .func (PySem.W.fnOf "_law_odd" "_law_odd" (defArgs s__law_odd) (defBody s__law_odd) (defScope s__law_odd) .none kV23 dc23 pm23 an23 cd23 ct23), sl23⟩) (c23 : PySem.W.codeIn K cd23 "_law_odd" = true) (k23 : PySem.W.keepIn K (.ref f23) = true)
    (a24 : PySem.W.nsIn K mainGlobals "_law_other" = some (some (.ref f24))) (l24 : K.lookup f24 = some ⟨oc24, od24, .func (PySem.W.fnOf "_law_other" "_law_other" (defArgs s__law_other) (defBody s__law_other) (defScope s__law_other) .none kV24 dc24 pm24 an24 cd24 ct24), sl24⟩) (c24 : PySem.W.codeIn K cd24 "_law_other" = true) (k24 : PySem.W.keepIn K (.ref f24) = true)
    (a25 : PySem.W.nsIn K mainGlobals "_law_sums" = some (some (.ref f25))) (l25 : K.lookup f25 = some ⟨oc25, od25, .func (PySem.W.fnOf "_law_sums" "_law_sums" (defArgs s__law_sums) (defBody s__law_sums) (defScope s__law_sums) .none kV25 dc25 pm25 an25 cd25 ct25), sl25⟩) (c25 : PySem.W.codeIn K cd25 "_law_sums" = true) (k25 : PySem.W.keepIn K (.ref f25) = true)
    (a26 : PySem.W.nsIn K mainGlobals "_law_spoilt" = some (some (.ref f26))) (l26 : K.lookup f26 = some ⟨oc26, od26, .func (PySem.W.fnOf "_law_spoilt" "_law_spoilt" (defArgs s__law_spoilt) (defBody s__law_spoilt) (defScope s__law_spoilt) .none kV26 dc26 pm26 an26 cd26 ct26), sl26⟩) (c26 : PySem.W.codeIn K cd26 "_law_spoilt" = true) (k26 : PySem.W.keepIn K (.ref f26) = true)
    (a27 : PySem.W.nsIn K mainGlobals "_law_number" = some (some (.ref f27))) (l27 : K.lookup f27 = some ⟨oc27, od27, .func (PySem.W.fnOf "_law_number" "_law_number" (defArgs s__law_number) (defBody s__law_number) (defScope s__law_number) .none kV27 dc27 pm27 an27 cd27 ct27), sl27⟩) (c27 : PySem.W.codeIn K cd27 "_law_number" = true) (k27 : PySem.W.keepIn K (.ref f27) = true)
    (a28 : PySem.W.nsIn K mainGlobals "_law_cells" = some (some (.ref f28))) (l28 : K.lookup f28 = some ⟨oc28, od28, .func (PySem.W.fnOf "_law_cells" "_law_cells" (defArgs s__law_cells) (defBody s__law_cells) (defScope s__law_cells) .none kV28 dc28 pm28 an28 cd28 ct28), sl28⟩) (c28 : PySem.W.codeIn K cd28 "_law_cells" = true) (k28 : PySem.W.keepIn K (.ref f28) = true)
    (a29 : PySem.W.nsIn K mainGlobals "_law_is_view" = some (some (.ref f29))) (l29 : K.lookup f29 = some ⟨oc29, od29, .func (PySem.W.fnOf "_law_is_view" "_law_is_view" (defArgs s__law_is_view) (defBody s__law_is_view) (defScope s__law_is_view) .none kV29 dc29 pm29 an29 cd29 ct29), sl29⟩) (c29 : PySem.W.codeIn K cd29 "_law_is_view" = true) (k29 : PySem.W.keepIn K (.ref f29) = true)
    (a30 : PySem.W.nsIn K mainGlobals "_law_alone" = some (some (.ref f30))) (l30 : K.lookup f30 = some ⟨oc30, od30, .func (PySem.W.fnOf "_law_alone" "_law_alone" (defArgs s__law_alone) (defBody s__law_alone) (defScope s__law_alone) .none kV30 dc30 pm30 an30 cd30 ct30), sl30⟩) (c30 : PySem.W.codeIn K cd30 "_law_alone" = true) (k30 : PySem.W.keepIn K (.ref f30) = true)
    (a31 : PySem.W.nsIn K mainGlobals "_law_refused" = some (some (.ref f31))) (l31 : K.lookup f31 = some ⟨oc31, od31, .func (PySem.W.fnOf "_law_refused" "_law_refused" (defArgs s__law_refused) (defBody s__law_refused) (defScope s__law_refused) .none kV31 dc31 pm31 an31 cd31 ct31), sl31⟩) (c31 : PySem.W.codeIn K cd31 "_law_refused" = true) (k31 : PySem.W.keepIn K (.ref f31) = true)
    (a32 : PySem.W.nsIn K mainGlobals "law" = some (some (.ref f32))) (l32 : K.lookup f32 = some ⟨oc32, od32, .func (PySem.W.fnOf "law" "law" (defArgs s_law) (defBody s_law) (defScope s_law) .none kV32 dc32 pm32 an32 cd32 ct32), sl32⟩) (c32 : PySem.W.codeIn K cd32 "law" = true) (k32 : PySem.W.keepIn K (.ref f32) = true)
    (z_isinstance : PySem.W.nsIn K mainGlobals "isinstance" = some none)
    (z_int : PySem.W.nsIn K mainGlobals "int" = some none)
    (z_bool : PySem.W.nsIn K mainGlobals "bool" = some none)
    (z_list : PySem.W.nsIn K mainGlobals "list" = some none)
    (z_len : PySem.W.nsIn K mainGlobals "len" = some none)
    (z_range : PySem.W.nsIn K mainGlobals "range" = some none)
    (z_all : PySem.W.nsIn K mainGlobals "all" = some none)
    (z_sum : PySem.W.nsIn K mainGlobals "sum" = some none)
    (z_zip : PySem.W.nsIn K mainGlobals "zip" = some none)
    (z_enumerate : PySem.W.nsIn K mainGlobals "enumerate" = some none)
    (z_tuple : PySem.W.nsIn K mainGlobals "tuple" = some none)
    (z_min : PySem.W.nsIn K mainGlobals "min" = some none)
    (z_ValueError : PySem.W.nsIn K mainGlobals "ValueError" = some none)
    (c_MOST : PySem.W.nsIn K mainGlobals "MOST" = some (some (.int 8 tok_MOST)))
    (g_VeilError : PySem.W.nsIn K mainGlobals "VeilError" = some (some (.ref C0)))
    (g_BadTable : PySem.W.nsIn K mainGlobals "BadTable" = some (some (.ref C1)))
    (g_BadPlace : PySem.W.nsIn K mainGlobals "BadPlace" = some (some (.ref C3)))
    (g_BadNumber : PySem.W.nsIn K mainGlobals "BadNumber" = some (some (.ref C4)))
    (g_NoTable : PySem.W.nsIn K mainGlobals "NoTable" = some (some (.ref C5)))
    (g_NotHidden : PySem.W.nsIn K mainGlobals "NotHidden" = some (some (.ref C6)))
    (g_BadView : PySem.W.nsIn K mainGlobals "BadView" = some (some (.ref C2)))
    (x_BadView : PySem.W.excIn K C2 [.type "ValueError", .type "Exception", .type "BaseException", .type "object"] "ValueError.__new__" = true)
    (k_BadView : PySem.W.keepIn K (.ref C2) = true) (s_BadView : PySem.W.subIn K (.ref C2) (.type "BaseException") = some true) (t_BadView : PySem.W.typeIn K (.ref C2) = some (.type "type"))
    (u_0_0 : PySem.W.subIn K (.ref C0) (.ref C0) = some true)
    (u_0_1 : PySem.W.subIn K (.ref C0) (.ref C1) = some false)
    (u_0_2 : PySem.W.subIn K (.ref C0) (.ref C2) = some false)
    (u_0_3 : PySem.W.subIn K (.ref C0) (.ref C3) = some false)
    (u_0_4 : PySem.W.subIn K (.ref C0) (.ref C4) = some false)
    (u_0_5 : PySem.W.subIn K (.ref C0) (.ref C5) = some false)
    (u_0_6 : PySem.W.subIn K (.ref C0) (.ref C6) = some false)
    (ub_0 : PySem.W.subIn K (.ref C0) (.type "BaseException") = some true) (uv_0 : PySem.W.subIn K (.ref C0) (.type "ValueError") = some true) (uh_0 : PySem.W.hasDictIn K C0 = true) (ut_0 : PySem.W.typeIn K (.ref C0) = some (.type "type"))
    (ua_0 : PySem.W.findIn K (.ref C0) "__getattribute__" = some (some (.builtin "BaseException.__getattribute__"))) (uc_0 : PySem.W.findIn K (.ref C0) "__getattr__" = some none) (ud_0 : PySem.W.findIn K (.ref C0) "__class__" = some (some (.builtin "object.__class__"))) (um_0 : PySem.W.mroIn K C0 (.type "object") = some true)
    (u_1_0 : PySem.W.subIn K (.ref C1) (.ref C0) = some true)
    (u_1_1 : PySem.W.subIn K (.ref C1) (.ref C1) = some true)
    (u_1_2 : PySem.W.subIn K (.ref C1) (.ref C2) = some false)
    (u_1_3 : PySem.W.subIn K (.ref C1) (.ref C3) = some false)
    (u_1_4 : PySem.W.subIn K (.ref C1) (.ref C4) = some false)
    (u_1_5 : PySem.W.subIn K (.ref C1) (.ref C5) = some false)
    (u_1_6 : PySem.W.subIn K (.ref C1) (.ref C6) = some false)
    (ub_1 : PySem.W.subIn K (.ref C1) (.type "BaseException") = some true) (uv_1 : PySem.W.subIn K (.ref C1) (.type "ValueError") = some true) (uh_1 : PySem.W.hasDictIn K C1 = true) (ut_1 : PySem.W.typeIn K (.ref C1) = some (.type "type"))
    (ua_1 : PySem.W.findIn K (.ref C1) "__getattribute__" = some (some (.builtin "BaseException.__getattribute__"))) (uc_1 : PySem.W.findIn K (.ref C1) "__getattr__" = some none) (ud_1 : PySem.W.findIn K (.ref C1) "__class__" = some (some (.builtin "object.__class__"))) (um_1 : PySem.W.mroIn K C1 (.type "object") = some true)
    (u_2_0 : PySem.W.subIn K (.ref C2) (.ref C0) = some true)
    (u_2_1 : PySem.W.subIn K (.ref C2) (.ref C1) = some false)
    (u_2_2 : PySem.W.subIn K (.ref C2) (.ref C2) = some true)
    (u_2_3 : PySem.W.subIn K (.ref C2) (.ref C3) = some false)
    (u_2_4 : PySem.W.subIn K (.ref C2) (.ref C4) = some false)
    (u_2_5 : PySem.W.subIn K (.ref C2) (.ref C5) = some false)
    (u_2_6 : PySem.W.subIn K (.ref C2) (.ref C6) = some false)
    (ub_2 : PySem.W.subIn K (.ref C2) (.type "BaseException") = some true) (uv_2 : PySem.W.subIn K (.ref C2) (.type "ValueError") = some true) (uh_2 : PySem.W.hasDictIn K C2 = true) (ut_2 : PySem.W.typeIn K (.ref C2) = some (.type "type"))
    (ua_2 : PySem.W.findIn K (.ref C2) "__getattribute__" = some (some (.builtin "BaseException.__getattribute__"))) (uc_2 : PySem.W.findIn K (.ref C2) "__getattr__" = some none) (ud_2 : PySem.W.findIn K (.ref C2) "__class__" = some (some (.builtin "object.__class__"))) (um_2 : PySem.W.mroIn K C2 (.type "object") = some true)
    (u_3_0 : PySem.W.subIn K (.ref C3) (.ref C0) = some true)
    (u_3_1 : PySem.W.subIn K (.ref C3) (.ref C1) = some false)
    (u_3_2 : PySem.W.subIn K (.ref C3) (.ref C2) = some false)
    (u_3_3 : PySem.W.subIn K (.ref C3) (.ref C3) = some true)
    (u_3_4 : PySem.W.subIn K (.ref C3) (.ref C4) = some false)
    (u_3_5 : PySem.W.subIn K (.ref C3) (.ref C5) = some false)
    (u_3_6 : PySem.W.subIn K (.ref C3) (.ref C6) = some false)
    (ub_3 : PySem.W.subIn K (.ref C3) (.type "BaseException") = some true) (uv_3 : PySem.W.subIn K (.ref C3) (.type "ValueError") = some true) (uh_3 : PySem.W.hasDictIn K C3 = true) (ut_3 : PySem.W.typeIn K (.ref C3) = some (.type "type"))
    (ua_3 : PySem.W.findIn K (.ref C3) "__getattribute__" = some (some (.builtin "BaseException.__getattribute__"))) (uc_3 : PySem.W.findIn K (.ref C3) "__getattr__" = some none) (ud_3 : PySem.W.findIn K (.ref C3) "__class__" = some (some (.builtin "object.__class__"))) (um_3 : PySem.W.mroIn K C3 (.type "object") = some true)
    (u_4_0 : PySem.W.subIn K (.ref C4) (.ref C0) = some true)
    (u_4_1 : PySem.W.subIn K (.ref C4) (.ref C1) = some false)
    (u_4_2 : PySem.W.subIn K (.ref C4) (.ref C2) = some false)
    (u_4_3 : PySem.W.subIn K (.ref C4) (.ref C3) = some false)
    (u_4_4 : PySem.W.subIn K (.ref C4) (.ref C4) = some true)
    (u_4_5 : PySem.W.subIn K (.ref C4) (.ref C5) = some false)
    (u_4_6 : PySem.W.subIn K (.ref C4) (.ref C6) = some false)
    (ub_4 : PySem.W.subIn K (.ref C4) (.type "BaseException") = some true) (uv_4 : PySem.W.subIn K (.ref C4) (.type "ValueError") = some true) (uh_4 : PySem.W.hasDictIn K C4 = true) (ut_4 : PySem.W.typeIn K (.ref C4) = some (.type "type"))
    (ua_4 : PySem.W.findIn K (.ref C4) "__getattribute__" = some (some (.builtin "BaseException.__getattribute__"))) (uc_4 : PySem.W.findIn K (.ref C4) "__getattr__" = some none) (ud_4 : PySem.W.findIn K (.ref C4) "__class__" = some (some (.builtin "object.__class__"))) (um_4 : PySem.W.mroIn K C4 (.type "object") = some true)
    (u_5_0 : PySem.W.subIn K (.ref C5) (.ref C0) = some true)
    (u_5_1 : PySem.W.subIn K (.ref C5) (.ref C1) = some false)
    (u_5_2 : PySem.W.subIn K (.ref C5) (.ref C2) = some false)
    (u_5_3 : PySem.W.subIn K (.ref C5) (.ref C3) = some false)
    (u_5_4 : PySem.W.subIn K (.ref C5) (.ref C4) = some false)
    (u_5_5 : PySem.W.subIn K (.ref C5) (.ref C5) = some true)
    (u_5_6 : PySem.W.subIn K (.ref C5) (.ref C6) = some false)
    (ub_5 : PySem.W.subIn K (.ref C5) (.type "BaseException") = some true) (uv_5 : PySem.W.subIn K (.ref C5) (.type "ValueError") = some true) (uh_5 : PySem.W.hasDictIn K C5 = true) (ut_5 : PySem.W.typeIn K (.ref C5) = some (.type "type"))
    (u_6_0 : PySem.W.subIn K (.ref C6) (.ref C0) = some true)
    (u_6_1 : PySem.W.subIn K (.ref C6) (.ref C1) = some false)
    (u_6_2 : PySem.W.subIn K (.ref C6) (.ref C2) = some false)
    (u_6_3 : PySem.W.subIn K (.ref C6) (.ref C3) = some false)
    (u_6_4 : PySem.W.subIn K (.ref C6) (.ref C4) = some false)
    (u_6_5 : PySem.W.subIn K (.ref C6) (.ref C5) = some false)
    (u_6_6 : PySem.W.subIn K (.ref C6) (.ref C6) = some true)
    (ub_6 : PySem.W.subIn K (.ref C6) (.type "BaseException") = some true) (uv_6 : PySem.W.subIn K (.ref C6) (.type "ValueError") = some true) (uh_6 : PySem.W.hasDictIn K C6 = true) (ut_6 : PySem.W.typeIn K (.ref C6) = some (.type "type"))
    (us : PySem.W.specialIn K (.builtin "object.__class__") "__get__" = some (some (.builtin "getset_descriptor.__get__"))) (uw : PySem.W.takesIn K (.builtin "object.__class__") = some true)
    : ∃ fd : FuncData, (∀ (s : Shared) (v : Value), BindsTo s fd ⟨[v], []⟩ [("_law_script", v)]) ∧ ∀ base : Heap, K.In base → base.Ns mainGlobals mg → FnOk l.prog w K mg base (L2N.CX l.prog w) 9 fa fd ["_law_script"] (spL K) := by
  obtain rfl : f32 = fa := by
    have e := hfa.symm.trans (PySem.W.mg_of X G a32)
    cases e
    rfl
  have F0 := fun_mk (st := s_is_number) l0 c0 k0
  have b0 := F0.binds (ps := ["thing"]) fun _ _ _ _ _ _ us hl => match us, hl with | [_], _ => rfl
  have F1 := fun_mk (st := s_is_grid) l1 c1 k1
  have b1 := F1.binds (ps := ["thing"]) fun _ _ _ _ _ _ us hl => match us, hl with | [_], _ => rfl
  have F2 := fun_mk (st := s_all_places) l2 c2 k2
  have b2 := F2.binds (ps := ["grid"]) fun _ _ _ _ _ _ us hl => match us, hl with | [_], _ => rfl
  have F3 := fun_mk (st := s_are_sums) l3 c3 k3
  have b3 := F3.binds (ps := ["thing", "many"]) fun _ _ _ _ _ _ us hl => match us, hl with | [_, _], _ => rfl
  have F4 := fun_mk (st := s_shown_sum) l4 c4 k4
  have b4 := F4.binds (ps := ["counts"]) fun _ _ _ _ _ _ us hl => match us, hl with | [_], _ => rfl
  have F5 := fun_mk (st := s_rests_of) l5 c5 k5
  have b5 := F5.binds (ps := ["view"]) fun _ _ _ _ _ _ us hl => match us, hl with | [_], _ => rfl
  have F6 := fun_mk (st := s_is_view) l6 c6 k6
  have b6 := F6.binds (ps := ["thing"]) fun _ _ _ _ _ _ us hl => match us, hl with | [_], _ => rfl
  have F7 := fun_mk (st := s_need_view) l7 c7 k7
  have b7 := F7.binds (ps := ["view"]) fun _ _ _ _ _ _ us hl => match us, hl with | [_], _ => rfl
  have F8 := fun_mk (st := s_hidden_places) l8 c8 k8
  have b8 := F8.binds (ps := ["view"]) fun _ _ _ _ _ _ us hl => match us, hl with | [_], _ => rfl
  have F9 := fun_mk (st := s_rests) l9 c9 k9
  have b9 := F9.binds (ps := ["view"]) fun _ _ _ _ _ _ us hl => match us, hl with | [_], _ => rfl
  have F10 := fun_mk (st := s_filled) l10 c10 k10
  have b10 := F10.binds (ps := ["view"]) fun _ _ _ _ _ _ us hl => match us, hl with | [_], _ => rfl
  have F11 := fun_mk (st := s_need_hidden) l11 c11 k11
  have b11 := F11.binds (ps := ["view", "place"]) fun _ _ _ _ _ _ us hl => match us, hl with | [_, _], _ => rfl
  have F12 := fun_mk (st := s_ends) l12 c12 k12
  have b12 := F12.binds (ps := ["view", "place"]) fun _ _ _ _ _ _ us hl => match us, hl with | [_, _], _ => rfl
  have F13 := fun_mk (st := s_walls) l13 c13 k13
  have b13 := F13.binds (ps := ["view", "place"]) fun _ _ _ _ _ _ us hl => match us, hl with | [_, _], _ => rfl
  have F14 := fun_mk (st := s_given_away) l14 c14 k14
  have b14 := F14.binds (ps := ["view", "width"]) fun _ _ _ _ _ _ us hl => match us, hl with | [_, _], _ => rfl
  have F15 := fun_mk (st := s__law_mix) l15 c15 k15
  have b15 := F15.binds (ps := ["_law_script", "_law_k"]) fun _ _ _ _ _ _ us hl => match us, hl with | [_, _], _ => rfl
  have F16 := fun_mk (st := s__law_count) l16 c16 k16
  have b16 := F16.binds (ps := ["_law_script", "_law_k"]) fun _ _ _ _ _ _ us hl => match us, hl with | [_, _], _ => rfl
  have F17 := fun_mk (st := s__law_table) l17 c17 k17
  have b17 := F17.binds (ps := ["_law_script", "_law_high", "_law_wide"]) fun _ _ _ _ _ _ us hl => match us, hl with | [_, _, _], _ => rfl
  have F18 := fun_mk (st := s__law_all) l18 c18 k18
  have b18 := F18.binds (ps := ["_law_table_here"]) fun _ _ _ _ _ _ us hl => match us, hl with | [_], _ => rfl
  have F19 := fun_mk (st := s__law_places) l19 c19 k19
  have b19 := F19.binds (ps := ["_law_script", "_law_table_here"]) fun _ _ _ _ _ _ us hl => match us, hl with | [_, _], _ => rfl
  have F20 := fun_mk (st := s__law_column_sums) l20 c20 k20
  have b20 := F20.binds (ps := ["_law_table_here"]) fun _ _ _ _ _ _ us hl => match us, hl with | [_], _ => rfl
  have F21 := fun_mk (st := s__law_view) l21 c21 k21
  have b21 := F21.binds (ps := ["_law_table_here", "_law_places_here"]) fun _ _ _ _ _ _ us hl => match us, hl with | [_, _], _ => rfl
  have F22 := fun_mk (st := s__law_rests) l22 c22 k22
  have b22 := F22.binds (ps := ["_law_view_here"]) fun _ _ _ _ _ _ us hl => match us, hl with | [_], _ => rfl
  have F23 := fun_mk (st := s__law_odd) l23 c23 k23
  have b23 := F23.binds (ps := ["_law_number_here"]) fun _ _ _ _ _ _ us hl => match us, hl with | [_], _ => rfl
  have F24 := fun_mk (st := s__law_other) l24 c24 k24
  have b24 := F24.binds (ps := ["_law_view_here", "_law_number_here"]) fun _ _ _ _ _ _ us hl => match us, hl with | [_, _], _ => rfl
  have F25 := fun_mk (st := s__law_sums) l25 c25 k25
  have b25 := F25.binds (ps := ["_law_view_here", "_law_way", "_law_row", "_law_column", "_law_more"]) fun _ _ _ _ _ _ us hl => match us, hl with | [_, _, _, _, _], _ => rfl
  have F26 := fun_mk (st := s__law_spoilt) l26 c26 k26
  have b26 := F26.binds (ps := ["_law_script", "_law_view_here"]) fun _ _ _ _ _ _ us hl => match us, hl with | [_, _], _ => rfl
  have F27 := fun_mk (st := s__law_number) l27 c27 k27
  have b27 := F27.binds (ps := ["_law_thing"]) fun _ _ _ _ _ _ us hl => match us, hl with | [_], _ => rfl
  have F28 := fun_mk (st := s__law_cells) l28 c28 k28
  have b28 := F28.binds (ps := ["_law_thing"]) fun _ _ _ _ _ _ us hl => match us, hl with | [_], _ => rfl
  have F29 := fun_mk (st := s__law_is_view) l29 c29 k29
  have b29 := F29.binds (ps := ["_law_thing"]) fun _ _ _ _ _ _ us hl => match us, hl with | [_], _ => rfl
  have F30 := fun_mk (st := s__law_alone) l30 c30 k30
  have b30 := F30.binds (ps := ["_law_e"]) fun _ _ _ _ _ _ us hl => match us, hl with | [_], _ => rfl
  have F31 := fun_mk (st := s__law_refused) l31 c31 k31
  have b31 := F31.binds (ps := ["_law_way", "_law_thing"]) fun _ _ _ _ _ _ us hl => match us, hl with | [_, _], _ => rfl
  have F32 := fun_mk (st := s_law) l32 c32 k32
  have b32 := F32.binds (ps := ["_law_script"]) fun _ _ _ _ _ _ us hl => match us, hl with | [_], _ => rfl
  have t : Txt tok_MOST K mg (fun i => ([C0, C1, C2, C3, C4, C5, C6] : List Addr).getD i 0) (fun i => ([f0, f1, f2, f3, f4, f5, f6, f7, f8, f9, f10, f11, f12, f13, f14, f15, f16, f17, f18, f19, f20, f21, f22, f23, f24, f25, f26, f27, f28, f29, f30, f31, f32] : List Addr).getD i 0) (fun i => ([PySem.W.fnOf "is_number" "is_number" (defArgs s_is_number) (defBody s_is_number) (defScope s_is_number) .none kV0 dc0 pm0 an0 cd0 ct0, PySem.W.fnOf "is_grid" "is_grid" (defArgs s_is_grid) (defBody s_is_grid) (defScope s_is_grid) .none kV1 dc1 pm1 an1 cd1 ct1, PySem.W.fnOf "all_places" "all_places" (defArgs s_all_places) (defBody s_all_places) (defScope s_all_places) .none kV2 dc2 pm2 an2 cd2 ct2, PySem.W.fnOf "are_sums" "are_sums" (defArgs s_are_sums) (defBody s_are_sums) (defScope s_are_sums) .none kV3 dc3 pm3 an3 cd3 ct3, PySem.W.fnOf "shown_sum" "shown_sum" (defArgs s_shown_sum) (defBody s_shown_sum) (defScope s_shown_sum) .none kV4 dc4 pm4 an4 cd4 ct4, PySem.W.fnOf "rests_of" "rests_of" (defArgs s_rests_of) (defBody s_rests_of) (defScope s_rests_of) .none kV5 dc5 pm5 an5 cd5 ct5, PySem.W.fnOf "is_view" "is_view" (defArgs s_is_view) (defBody s_is_view) (defScope s_is_view) .none kV6 dc6 pm6 an6 cd6 ct6, PySem.W.fnOf "need_view" "need_view" (defArgs s_need_view) (defBody s_need_view) (defScope s_need_view) .none kV7 dc7 pm7 an7 cd7 ct7, PySem.W.fnOf "hidden_places" "hidden_places" (defArgs s_hidden_places) (defBody s_hidden_places) (defScope s_hidden_places) .none kV8 dc8 pm8 an8 cd8 ct8, PySem.W.fnOf "rests" "rests" (defArgs s_rests) (defBody s_rests) (defScope s_rests) .none kV9 dc9 pm9 an9 cd9 ct9, PySem.W.fnOf "filled" "filled" (defArgs s_filled) (defBody s_filled) (defScope s_filled) .none kV10 dc10 pm10 an10 cd10 ct10, PySem.W.fnOf "need_hidden" "need_hidden" (defArgs s_need_hidden) (defBody s_need_hidden) (defScope s_need_hidden) .none kV11 dc11 pm11 an11 cd11 ct11, PySem.W.fnOf "ends" "ends" (defArgs s_ends) (defBody s_ends) (defScope s_ends) .none kV12 dc12 pm12 an12 cd12 ct12, PySem.W.fnOf "walls" "walls" (defArgs s_walls) (defBody s_walls) (defScope s_walls) .none kV13 dc13 pm13 an13 cd13 ct13, PySem.W.fnOf "given_away" "given_away" (defArgs s_given_away) (defBody s_given_away) (defScope s_given_away) .none kV14 dc14 pm14 an14 cd14 ct14, PySem.W.fnOf "_law_mix" "_law_mix" (defArgs s__law_mix) (defBody s__law_mix) (defScope s__law_mix) .none kV15 dc15 pm15 an15 cd15 ct15, PySem.W.fnOf "_law_count" "_law_count" (defArgs s__law_count) (defBody s__law_count) (defScope s__law_count) .none kV16 dc16 pm16 an16 cd16 ct16, PySem.W.fnOf "_law_table" "_law_table" (defArgs s__law_table) (defBody s__law_table) (defScope s__law_table) .none kV17 dc17 pm17 an17 cd17 ct17, PySem.W.fnOf "_law_all" "_law_all" (defArgs s__law_all) (defBody s__law_all) (defScope s__law_all) .none kV18 dc18 pm18 an18 cd18 ct18, PySem.W.fnOf "_law_places" "_law_places" (defArgs s__law_places) (defBody s__law_places) (defScope s__law_places) .none kV19 dc19 pm19 an19 cd19 ct19, PySem.W.fnOf "_law_column_sums" "_law_column_sums" (defArgs s__law_column_sums) (defBody s__law_column_sums) (defScope s__law_column_sums) .none kV20 dc20 pm20 an20 cd20 ct20, PySem.W.fnOf "_law_view" "_law_view" (defArgs s__law_view) (defBody s__law_view) (defScope s__law_view) .none kV21 dc21 pm21 an21 cd21 ct21, PySem.W.fnOf "_law_rests" "_law_rests" (defArgs s__law_rests) (defBody s__law_rests) (defScope s__law_rests) .none kV22 dc22 pm22 an22 cd22 ct22, PySem.W.fnOf "_law_odd" "_law_odd" (defArgs s__law_odd) (defBody s__law_odd) (defScope s__law_odd) .none kV23 dc23 pm23 an23 cd23 ct23, PySem.W.fnOf "_law_other" "_law_other" (defArgs s__law_other) (defBody s__law_other) (defScope s__law_other) .none kV24 dc24 pm24 an24 cd24 ct24, PySem.W.fnOf "_law_sums" "_law_sums" (defArgs s__law_sums) (defBody s__law_sums) (defScope s__law_sums) .none kV25 dc25 pm25 an25 cd25 ct25, PySem.W.fnOf "_law_spoilt" "_law_spoilt" (defArgs s__law_spoilt) (defBody s__law_spoilt) (defScope s__law_spoilt) .none kV26 dc26 pm26 an26 cd26 ct26, PySem.W.fnOf "_law_number" "_law_number" (defArgs s__law_number) (defBody s__law_number) (defScope s__law_number) .none kV27 dc27 pm27 an27 cd27 ct27, PySem.W.fnOf "_law_cells" "_law_cells" (defArgs s__law_cells) (defBody s__law_cells) (defScope s__law_cells) .none kV28 dc28 pm28 an28 cd28 ct28, PySem.W.fnOf "_law_is_view" "_law_is_view" (defArgs s__law_is_view) (defBody s__law_is_view) (defScope s__law_is_view) .none kV29 dc29 pm29 an29 cd29 ct29, PySem.W.fnOf "_law_alone" "_law_alone" (defArgs s__law_alone) (defBody s__law_alone) (defScope s__law_alone) .none kV30 dc30 pm30 an30 cd30 ct30, PySem.W.fnOf "_law_refused" "_law_refused" (defArgs s__law_refused) (defBody s__law_refused) (defScope s__law_refused) .none kV31 dc31 pm31 an31 cd31 ct31, PySem.W.fnOf "law" "law" (defArgs s_law) (defBody s_law) (defScope s_law) .none kV32 dc32 pm32 an32 cd32 ct32] : List FuncData).getD i default) := {
    F_is_number := F0,
    g_is_number := PySem.W.mg_of X G a0,
    b_is_number := b0,
    F_is_grid := F1,
    g_is_grid := PySem.W.mg_of X G a1,
    b_is_grid := b1,
    F_all_places := F2,
    g_all_places := PySem.W.mg_of X G a2,
    b_all_places := b2,
    F_are_sums := F3,
    g_are_sums := PySem.W.mg_of X G a3,
    b_are_sums := b3,
    F_shown_sum := F4,
    g_shown_sum := PySem.W.mg_of X G a4,
    b_shown_sum := b4,
    F_rests_of := F5,
    g_rests_of := PySem.W.mg_of X G a5,
    b_rests_of := b5,
    F_is_view := F6,
    g_is_view := PySem.W.mg_of X G a6,
    b_is_view := b6,
    F_need_view := F7,
    g_need_view := PySem.W.mg_of X G a7,
    b_need_view := b7,
    F_hidden_places := F8,
    g_hidden_places := PySem.W.mg_of X G a8,
    b_hidden_places := b8,
    F_rests := F9,
    g_rests := PySem.W.mg_of X G a9,
    b_rests := b9,
    F_filled := F10,
    g_filled := PySem.W.mg_of X G a10,
    b_filled := b10,
    F_need_hidden := F11,
    g_need_hidden := PySem.W.mg_of X G a11,
    b_need_hidden := b11,
    F_ends := F12,
    g_ends := PySem.W.mg_of X G a12,
    b_ends := b12,
    F_walls := F13,
    g_walls := PySem.W.mg_of X G a13,
    b_walls := b13,
    F_given_away := F14,
    g_given_away := PySem.W.mg_of X G a14,
    b_given_away := b14,
    F__law_mix := F15,
    g__law_mix := PySem.W.mg_of X G a15,
    b__law_mix := b15,
    F__law_count := F16,
    g__law_count := PySem.W.mg_of X G a16,
    b__law_count := b16,
    F__law_table := F17,
    g__law_table := PySem.W.mg_of X G a17,
    b__law_table := b17,
    F__law_all := F18,
    g__law_all := PySem.W.mg_of X G a18,
    b__law_all := b18,
    F__law_places := F19,
    g__law_places := PySem.W.mg_of X G a19,
    b__law_places := b19,
    F__law_column_sums := F20,
    g__law_column_sums := PySem.W.mg_of X G a20,
    b__law_column_sums := b20,
    F__law_view := F21,
    g__law_view := PySem.W.mg_of X G a21,
    b__law_view := b21,
    F__law_rests := F22,
    g__law_rests := PySem.W.mg_of X G a22,
    b__law_rests := b22,
    F__law_odd := F23,
    g__law_odd := PySem.W.mg_of X G a23,
    b__law_odd := b23,
    F__law_other := F24,
    g__law_other := PySem.W.mg_of X G a24,
    b__law_other := b24,
    F__law_sums := F25,
    g__law_sums := PySem.W.mg_of X G a25,
    b__law_sums := b25,
    F__law_spoilt := F26,
    g__law_spoilt := PySem.W.mg_of X G a26,
    b__law_spoilt := b26,
    F__law_number := F27,
    g__law_number := PySem.W.mg_of X G a27,
    b__law_number := b27,
    F__law_cells := F28,
    g__law_cells := PySem.W.mg_of X G a28,
    b__law_cells := b28,
    F__law_is_view := F29,
    g__law_is_view := PySem.W.mg_of X G a29,
    b__law_is_view := b29,
    F__law_alone := F30,
    g__law_alone := PySem.W.mg_of X G a30,
    b__law_alone := b30,
    F__law_refused := F31,
    g__law_refused := PySem.W.mg_of X G a31,
    b__law_refused := b31,
    F_law := F32,
    g_law := PySem.W.mg_of X G a32,
    b_law := b32,
    z_isinstance := PySem.W.mg_none_of X G z_isinstance,
    z_int := PySem.W.mg_none_of X G z_int,
    z_bool := PySem.W.mg_none_of X G z_bool,
    z_list := PySem.W.mg_none_of X G z_list,
    z_len := PySem.W.mg_none_of X G z_len,
    z_range := PySem.W.mg_none_of X G z_range,
    z_all := PySem.W.mg_none_of X G z_all,
    z_sum := PySem.W.mg_none_of X G z_sum,
    z_zip := PySem.W.mg_none_of X G z_zip,
    z_enumerate := PySem.W.mg_none_of X G z_enumerate,
    z_tuple := PySem.W.mg_none_of X G z_tuple,
    z_min := PySem.W.mg_none_of X G z_min,
    z_ValueError := PySem.W.mg_none_of X G z_ValueError,
    c_MOST := PySem.W.mg_of X G c_MOST,
    g_BadView := PySem.W.mg_of X G g_BadView,
    x_BadView := x_BadView,
    k_BadView := k_BadView,
    s_BadView := s_BadView,
    t_BadView := t_BadView,
    g_VeilError := PySem.W.mg_of X G g_VeilError,
    g_BadTable := PySem.W.mg_of X G g_BadTable,
    g_BadPlace := PySem.W.mg_of X G g_BadPlace,
    g_BadNumber := PySem.W.mg_of X G g_BadNumber,
    g_NoTable := PySem.W.mg_of X G g_NoTable,
    g_NotHidden := PySem.W.mg_of X G g_NotHidden,
    ext := { sub := fun j k hj hk => mem_all (L := [0, 1, 2, 3, 4, 5, 6]) (p := fun j => ∀ k, k ∈ ([0, 1, 2, 3, 4, 5, 6] : List Nat) → PySem.W.subIn K (.ref (([C0, C1, C2, C3, C4, C5, C6] : List Addr).getD j 0)) (.ref (([C0, C1, C2, C3, C4, C5, C6] : List Addr).getD k 0)) = some (subC j k)) ⟨(mem_all ⟨u_0_0, u_0_1, u_0_2, u_0_3, u_0_4, u_0_5, u_0_6, trivial⟩), (mem_all ⟨u_1_0, u_1_1, u_1_2, u_1_3, u_1_4, u_1_5, u_1_6, trivial⟩), (mem_all ⟨u_2_0, u_2_1, u_2_2, u_2_3, u_2_4, u_2_5, u_2_6, trivial⟩), (mem_all ⟨u_3_0, u_3_1, u_3_2, u_3_3, u_3_4, u_3_5, u_3_6, trivial⟩), (mem_all ⟨u_4_0, u_4_1, u_4_2, u_4_3, u_4_4, u_4_5, u_4_6, trivial⟩), (mem_all ⟨u_5_0, u_5_1, u_5_2, u_5_3, u_5_4, u_5_5, u_5_6, trivial⟩), (mem_all ⟨u_6_0, u_6_1, u_6_2, u_6_3, u_6_4, u_6_5, u_6_6, trivial⟩), trivial⟩ j hj k hk, bs := mem_all ⟨ub_0, ub_1, ub_2, ub_3, ub_4, ub_5, ub_6, trivial⟩, ve := mem_all ⟨uv_0, uv_1, uv_2, uv_3, uv_4, uv_5, uv_6, trivial⟩, hd := mem_all ⟨uh_0, uh_1, uh_2, uh_3, uh_4, uh_5, uh_6, trivial⟩, ty := mem_all ⟨ut_0, ut_1, ut_2, ut_3, ut_4, ut_5, ut_6, trivial⟩, ec := mem_all (p := fun j => j ≤ 4 → ExcC K (([C0, C1, C2, C3, C4, C5, C6] : List Addr).getD j 0)) ⟨fun _ => ⟨ua_0, uc_0, ub_0, uh_0, ud_0, us, uw, um_0⟩, fun _ => ⟨ua_1, uc_1, ub_1, uh_1, ud_1, us, uw, um_1⟩, fun _ => ⟨ua_2, uc_2, ub_2, uh_2, ud_2, us, uw, um_2⟩, fun _ => ⟨ua_3, uc_3, ub_3, uh_3, ud_3, us, uw, um_3⟩, fun _ => ⟨ua_4, uc_4, ub_4, uh_4, ud_4, us, uw, um_4⟩, fun h => absurd h (by decide), fun h => absurd h (by decide), trivial⟩ } }
  exact ⟨PySem.W.fnOf "law" "law" (defArgs s_law) (defBody s_law) (defScope s_law) .none kV32 dc32 pm32 an32 cd32 ct32, fun s v => .of_eq rfl, fun base _ _ => (ok_law t).imp fun vs H Q E hs => spL_of lt hs⟩
end Ve
open PySem PySem.W PyProof.Rows
set_option maxRecDepth 100000 in
set_option maxHeartbeats 0 in
theorem PySem.Challenge.cw_veiled_k05_views_known_holds : PySem.Challenge.rw_veiled_k05_views_known.Holds := by
  w_on; o_law; k_head; (case hw => w_witness2)
  k_fill
  refine L2.walk_of (l := PySem.Challenge.rw_veiled_k05_views_known) (n := 63) (k := 9) (x := "_law_script") (CX := fun w => L2N.CX PySem.Challenge.rw_veiled_k05_views_known.prog w) (sp := fun w => Ve.spL _) rfl (by decide) rfl ⟨rfl, by decide, by decide⟩ (fun w h Y => PySem.W.kIn_of Y) ?F (fun _ _ _ _ hl ho hS => Ve.spL_end hl ho hS) (fun _ _ _ _ _ h => Ve.cx_no h)
  case F =>
    intro w mg fa h KX G hmg
    refine' Ve.all_mk Ve.law_true KX G hmg ?a0 ?l0 ?c0 ?k0 ?a1 ?l1 ?c1 ?k1 ?a2 ?l2 ?c2 ?k2 ?a3 ?l3 ?c3 ?k3 ?a4 ?l4 ?c4 ?k4 ?a5 ?l5 ?c5 ?k5 ?a6 ?l6 ?c6 ?k6 ?a7 ?l7 ?c7 ?k7 ?a8 ?l8 ?c8 ?k8 ?a9 ?l9 ?c9 ?k9 ?a10 ?l10 ?c10 ?k10 ?a11 ?l11 ?c11 ?k11 ?a12 ?l12 ?c12 ?k12 ?a13 ?l13 ?c13 ?k13 ?a14 ?l14 ?c14 ?k14 ?a15 ?l15 ?c15 ?k15 ?a16 ?l16 ?c16 ?k16 ?a17 ?l17 ?c17 ?k17 ?a18 ?l18 ?c18 ?k18 ?a19 ?l19 ?c19 ?k19 ?a20 ?l20 ?c20 ?k20 ?a21 ?l21 ?c21 ?k21 ?a22 ?l22 ?c22 ?k22 ?a23 ?l23 ?c23 ?k23 ?a24 ?l24 ?c24 ?k24 ?a25 ?l25 ?c25 ?k25 ?a26 ?l26 ?c26 ?k26 ?a27 ?l27 ?c27 ?k27 ?a28 ?l28 ?c28 ?k28 ?a29 ?l29 ?c29 ?k29 ?a30 ?l30 ?c30 ?k30 ?a31 ?l31 ?c31 ?k31 ?a32 ?l32 ?c32 ?k32 ?z_isinstance ?z_int ?z_bool ?z_list ?z_len ?z_range ?z_all ?z_sum ?z_zip ?z_enumerate ?z_tuple ?z_min ?z_ValueError ?c_MOST ?g_VeilError ?g_BadTable ?g_BadPlace ?g_BadNumber ?g_NoTable ?g_NotHidden ?g_BadView ?x_BadView ?k_BadView ?s_BadView ?t_BadView ?u_0_0 ?u_0_1 ?u_0_2 ?u_0_3 ?u_0_4 ?u_0_5 ?u_0_6 ?ub_0 ?uv_0 ?uh_0 ?ut_0 ?ua_0 ?uc_0 ?ud_0 ?um_0 ?u_1_0 ?u_1_1 ?u_1_2 ?u_1_3 ?u_1_4 ?u_1_5 ?u_1_6 ?ub_1 ?uv_1 ?uh_1 ?ut_1 ?ua_1 ?uc_1 ?ud_1 ?um_1 ?u_2_0 ?u_2_1 ?u_2_2 ?u_2_3 ?u_2_4 ?u_2_5 ?u_2_6 ?ub_2 ?uv_2 ?uh_2 ?ut_2 ?ua_2 ?uc_2 ?ud_2 ?um_2 ?u_3_0 ?u_3_1 ?u_3_2 ?u_3_3 ?u_3_4 ?u_3_5 ?u_3_6 ?ub_3 ?uv_3 ?uh_3 ?ut_3 ?ua_3 ?uc_3 ?ud_3 ?um_3 ?u_4_0 ?u_4_1 ?u_4_2 ?u_4_3 ?u_4_4 ?u_4_5 ?u_4_6 ?ub_4 ?uv_4 ?uh_4 ?ut_4 ?ua_4 ?uc_4 ?ud_4 ?um_4 ?u_5_0 ?u_5_1 ?u_5_2 ?u_5_3 ?u_5_4 ?u_5_5 ?u_5_6 ?ub_5 ?uv_5 ?uh_5 ?ut_5 ?u_6_0 ?u_6_1 ?u_6_2 ?u_6_3 ?u_6_4 ?u_6_5 ?u_6_6 ?ub_6 ?uv_6 ?uh_6 ?ut_6 ?us ?uw
    (case a0 => k_is); (case l0 => k_is); (case c0 => k_is); (case k0 => k_is); (case a1 => k_is); (case l1 => k_is); (case c1 => k_is); (case k1 => k_is)
    (case a2 => k_is); (case l2 => k_is); (case c2 => k_is); (case k2 => k_is); (case a3 => k_is); (case l3 => k_is); (case c3 => k_is); (case k3 => k_is)
    (case a4 => k_is); (case l4 => k_is); (case c4 => k_is); (case k4 => k_is); (case a5 => k_is); (case l5 => k_is); (case c5 => k_is); (case k5 => k_is)
    (case a6 => k_is); (case l6 => k_is); (case c6 => k_is); (case k6 => k_is); (case a7 => k_is); (case l7 => k_is); (case c7 => k_is); (case k7 => k_is)
    (case a8 => k_is); (case l8 => k_is); (case c8 => k_is); (case k8 => k_is); (case a9 => k_is); (case l9 => k_is); (case c9 => k_is); (case k9 => k_is)
    (case a10 => k_is); (case l10 => k_is); (case c10 => k_is); (case k10 => k_is); (case a11 => k_is); (case l11 => k_is); (case c11 => k_is); (case k11 => k_is)
    (case a12 => k_is); (case l12 => k_is); (case c12 => k_is); (case k12 => k_is); (case a13 => k_is); (case l13 => k_is); (case c13 => k_is); (case k13 => k_is)
    (case a14 => k_is); (case l14 => k_is); (case c14 => k_is); (case k14 => k_is); (case a15 => k_is); (case l15 => k_is); (case c15 => k_is); (case k15 => k_is)
    (case a16 => k_is); (case l16 => k_is); (case c16 => k_is); (case k16 => k_is); (case a17 => k_is); (case l17 => k_is); (case c17 => k_is); (case k17 => k_is)
    (case a18 => k_is); (case l18 => k_is); (case c18 => k_is); (case k18 => k_is); (case a19 => k_is); (case l19 => k_is); (case c19 => k_is); (case k19 => k_is)
    (case a20 => k_is); (case l20 => k_is); (case c20 => k_is); (case k20 => k_is); (case a21 => k_is); (case l21 => k_is); (case c21 => k_is); (case k21 => k_is)
    (case a22 => k_is); (case l22 => k_is); (case c22 => k_is); (case k22 => k_is); (case a23 => k_is); (case l23 => k_is); (case c23 => k_is); (case k23 => k_is)
    (case a24 => k_is); (case l24 => k_is); (case c24 => k_is); (case k24 => k_is); (case a25 => k_is); (case l25 => k_is); (case c25 => k_is); (case k25 => k_is)
    (case a26 => k_is); (case l26 => k_is); (case c26 => k_is); (case k26 => k_is); (case a27 => k_is); (case l27 => k_is); (case c27 => k_is); (case k27 => k_is)
    (case a28 => k_is); (case l28 => k_is); (case c28 => k_is); (case k28 => k_is); (case a29 => k_is); (case l29 => k_is); (case c29 => k_is); (case k29 => k_is)
    (case a30 => k_is); (case l30 => k_is); (case c30 => k_is); (case k30 => k_is); (case a31 => k_is); (case l31 => k_is); (case c31 => k_is); (case k31 => k_is)
    (case a32 => k_is); (case l32 => k_is); (case c32 => k_is); (case k32 => k_is); (case z_isinstance => k_is); (case z_int => k_is); (case z_bool => k_is); (case z_list => k_is)
    (case z_len => k_is); (case z_range => k_is); (case z_all => k_is); (case z_sum => k_is); (case z_zip => k_is); (case z_enumerate => k_is); (case z_tuple => k_is); (case z_min => k_is)
    (case z_ValueError => k_is); (case c_MOST => k_is); (case g_VeilError => k_is); (case g_BadTable => k_is); (case g_BadPlace => k_is); (case g_BadNumber => k_is); (case g_NoTable => k_is); (case g_NotHidden => k_is)
    (case g_BadView => k_is); (case x_BadView => k_exc); (case k_BadView => k_is); (case s_BadView => k_is); (case t_BadView => k_is); (case u_0_0 => k_is); (case u_0_1 => k_is); (case u_0_2 => k_is)
    (case u_0_3 => k_is); (case u_0_4 => k_is); (case u_0_5 => k_is); (case u_0_6 => k_is); (case ub_0 => k_is); (case uv_0 => k_is); (case uh_0 => k_is); (case ut_0 => k_is)
    (case ua_0 => k_is); (case uc_0 => k_is); (case ud_0 => k_is); (case um_0 => k_is); (case u_1_0 => k_is); (case u_1_1 => k_is); (case u_1_2 => k_is); (case u_1_3 => k_is)
    (case u_1_4 => k_is); (case u_1_5 => k_is); (case u_1_6 => k_is); (case ub_1 => k_is); (case uv_1 => k_is); (case uh_1 => k_is); (case ut_1 => k_is); (case ua_1 => k_is)
    (case uc_1 => k_is); (case ud_1 => k_is); (case um_1 => k_is); (case u_2_0 => k_is); (case u_2_1 => k_is); (case u_2_2 => k_is); (case u_2_3 => k_is); (case u_2_4 => k_is)
    (case u_2_5 => k_is); (case u_2_6 => k_is); (case ub_2 => k_is); (case uv_2 => k_is); (case uh_2 => k_is); (case ut_2 => k_is); (case ua_2 => k_is); (case uc_2 => k_is)
    (case ud_2 => k_is); (case um_2 => k_is); (case u_3_0 => k_is); (case u_3_1 => k_is); (case u_3_2 => k_is); (case u_3_3 => k_is); (case u_3_4 => k_is); (case u_3_5 => k_is)
    (case u_3_6 => k_is); (case ub_3 => k_is); (case uv_3 => k_is); (case uh_3 => k_is); (case ut_3 => k_is); (case ua_3 => k_is); (case uc_3 => k_is); (case ud_3 => k_is)
    (case um_3 => k_is); (case u_4_0 => k_is); (case u_4_1 => k_is); (case u_4_2 => k_is); (case u_4_3 => k_is); (case u_4_4 => k_is); (case u_4_5 => k_is); (case u_4_6 => k_is)
    (case ub_4 => k_is); (case uv_4 => k_is); (case uh_4 => k_is); (case ut_4 => k_is); (case ua_4 => k_is); (case uc_4 => k_is); (case ud_4 => k_is); (case um_4 => k_is)
    (case u_5_0 => k_is); (case u_5_1 => k_is); (case u_5_2 => k_is); (case u_5_3 => k_is); (case u_5_4 => k_is); (case u_5_5 => k_is); (case u_5_6 => k_is); (case ub_5 => k_is)
    (case uv_5 => k_is); (case uh_5 => k_is); (case ut_5 => k_is); (case u_6_0 => k_is); (case u_6_1 => k_is); (case u_6_2 => k_is); (case u_6_3 => k_is); (case u_6_4 => k_is)
    (case u_6_5 => k_is); (case u_6_6 => k_is); (case ub_6 => k_is); (case uv_6 => k_is); (case uh_6 => k_is); (case ut_6 => k_is); (case us => k_is); (case uw => k_is)
