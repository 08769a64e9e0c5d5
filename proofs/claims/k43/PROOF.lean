import PyProof.Rows.All
import Wide.All
import OpenK.AllK
import Wide.FinOn
import HandS.Conv
import HandS.DeepEq
import HandS.DictComp
import HandS.DictEq
import HandS.EndTab
import HandS.ForMost
import HandS.Lambda
import HandS.More
import HandS.NestedK
import HandS.SetFor
import HandS.SetKeys
import HandS.SortInts
import HandS.Strs
import HandS.Style
import HandS.TupAny
import HandS.TupLen
import HandS.Walk
import HandS.Zip
import KE.DataMinMax
import KE.GoesEnum
import KE.KLam
import KE.SortData
import KE.SortKeyHeap
import PyProof.EnumMake
import PySem.Challenge.RW_noshorterplan_k43_whole_nets_of_times_be
set_option Elab.async false
set_option linter.all false
set_option maxRecDepth 100000
/-! Nz1: programs as monotone predicate transformers; heaps with what one owns; representations of data; slots. -/
namespace Nz
open PySem L2

/-! ### programs: what is wanted of the result -/
abbrev PT (α : Type) := (α → Prop) → Prop
structure Pg (α : Type) where
  wp : PT α
  mono : ∀ {k k' : α → Prop}, (∀ a, k a → k' a) → wp k → wp k'
namespace Pg
variable {α β S : Type}
def ret (a : α) : Pg α := ⟨fun k => k a, fun h => h a⟩
def bnd (c : Pg α) (f : α → Pg β) : Pg β := ⟨fun k => c.wp fun a => (f a).wp k, fun h q => c.mono (fun a => (f a).mono h) q⟩
instance : Monad Pg where
  pure := ret
  bind := bnd
def fail : Pg α := ⟨fun _ => False, fun _ h => h⟩
def ask (p : Prop) : Pg Unit := ⟨fun k => p ∧ k (), fun h q => ⟨q.1, h () q.2⟩⟩
/-- a drawn number -/
def take (n : Int) : Pg Int := ⟨fun k => (0 < n ∧ n < 1073741824) ∧ ∀ d, 0 ≤ d → d < n → k d, fun h q => ⟨q.1, fun d a b => h d (q.2 d a b)⟩⟩
def opt (o : Option α) : Pg α := ⟨fun k => ∃ a, o = some a ∧ k a, fun h ⟨a, e, q⟩ => ⟨a, e, h a q⟩⟩
@[simp] theorem wp_pure (a : α) (k : α → Prop) : (pure a : Pg α).wp k = k a := rfl
@[simp] theorem wp_bind (c : Pg α) (f : α → Pg β) (k : β → Prop) : (c >>= f).wp k = c.wp fun a => (f a).wp k := rfl
@[simp] theorem wp_ask (p : Prop) (k : Unit → Prop) : (ask p).wp k = (p ∧ k ()) := rfl
@[simp] theorem wp_take (n : Int) (k : Int → Prop) : (take n).wp k = ((0 < n ∧ n < 1073741824) ∧ ∀ d, 0 ≤ d → d < n → k d) := rfl
@[simp] theorem wp_opt (o : Option α) (k : α → Prop) : (opt o).wp k = ∃ a, o = some a ∧ k a := rfl
@[simp] theorem wp_fail (k : α → Prop) : (fail : Pg α).wp k = False := rfl
end Pg

/-- what a block comes to: it goes on, returns, breaks, continues -/
inductive Ctl (β L N : Type) where
  | nx (n : N) | rt (b : β) | bk (l : L) | ct (l : L)

/-! ### raw transformers of loops, and the programs of them -/
def mapT {α β : Type} : List α → (α → PT β) → PT (List β)
  | [], _, k => k []
  | x :: xs, f, k => f x fun y => mapT xs f fun ys => k (y :: ys)
/-- a comprehension: items, a test, an element -/
def compT {α β : Type} : List α → (α → PT Bool) → (α → PT β) → PT (List β)
  | [], _, _, k => k []
  | x :: xs, t, f, k => t x fun b => if b = true then f x fun y => compT xs t f fun ys => k (y :: ys) else compT xs t f k
/-- a loop over items with a state -/
def forT {α S : Type} : List α → S → (α → S → PT S) → PT S
  | [], s, _, k => k s
  | x :: xs, s, f, k => f x s fun s' => forT xs s' f k
/-- a loop that may be left -/
def forC {α β L S : Type} : List α → S → (α → S → PT (Ctl β S S)) → PT (Ctl β L S)
  | [], s, _, k => k (.nx s)
  | x :: xs, s, f, k => f x s fun c => match c with
    | .nx s' => forC xs s' f k
    | .ct s' => forC xs s' f k
    | .bk s' => k (.nx s')
    | .rt b => k (.rt b)
def whileN {β L S : Type} : Nat → S → (S → PT Bool) → (S → PT (Ctl β S S)) → PT (Ctl β L S)
  | 0, _, _, _, _ => False
  | n + 1, s, t, f, k => t s fun b => if b = true then f s fun c => match c with
    | .nx s' => whileN n s' t f k
    | .ct s' => whileN n s' t f k
    | .bk s' => k (.nx s')
    | .rt b => k (.rt b) else k (.nx s)
def whileT {β L S : Type} (s : S) (t : S → PT Bool) (f : S → PT (Ctl β S S)) : PT (Ctl β L S) := fun k => ∃ n, whileN n s t f k

section
variable {α β L S : Type}
theorem compT_mono {t : α → PT Bool} {f : α → PT β} (mt : ∀ x (k k' : Bool → Prop), (∀ a, k a → k' a) → t x k → t x k') (mf : ∀ x (k k' : β → Prop), (∀ a, k a → k' a) → f x k → f x k') :
    ∀ (xs : List α) (k k' : List β → Prop), (∀ a, k a → k' a) → compT xs t f k → compT xs t f k'
  | [], k, k', h, q => h [] q
  | x :: xs, k, k', h, q => by
    refine mt x _ _ (fun b hb => ?_) q
    cases b with
    | true =>
      simp only [if_true] at hb ⊢
      exact mf x _ _ (fun y hy => compT_mono mt mf xs _ _ (fun ys => h (y :: ys)) hy) hb
    | false =>
      simp only [Bool.false_eq_true, if_false] at hb ⊢
      exact compT_mono mt mf xs _ _ h hb
theorem mapT_mono {f : α → PT β} (mf : ∀ x (k k' : β → Prop), (∀ a, k a → k' a) → f x k → f x k') :
    ∀ (xs : List α) (k k' : List β → Prop), (∀ a, k a → k' a) → mapT xs f k → mapT xs f k'
  | [], k, k', h, q => h [] q
  | x :: xs, k, k', h, q => mf x _ _ (fun y hy => mapT_mono mf xs _ _ (fun ys => h (y :: ys)) hy) q
theorem forT_mono {f : α → S → PT S} (mf : ∀ x s (k k' : S → Prop), (∀ a, k a → k' a) → f x s k → f x s k') :
    ∀ (xs : List α) (s : S) (k k' : S → Prop), (∀ a, k a → k' a) → forT xs s f k → forT xs s f k'
  | [], s, k, k', h, q => h s q
  | x :: xs, s, k, k', h, q => mf x s _ _ (fun s' hs => forT_mono mf xs s' k k' h hs) q
theorem forC_mono {f : α → S → PT (Ctl β S S)} (mf : ∀ x s (k k' : Ctl β S S → Prop), (∀ a, k a → k' a) → f x s k → f x s k') :
    ∀ (xs : List α) (s : S) (k k' : Ctl β L S → Prop), (∀ a, k a → k' a) → forC xs s f k → forC xs s f k'
  | [], s, k, k', h, q => h _ q
  | x :: xs, s, k, k', h, q => mf x s _ _ (fun c hc => by
    cases c with
    | nx s' => exact forC_mono mf xs s' k k' h hc
    | ct s' => exact forC_mono mf xs s' k k' h hc
    | bk s' => exact h _ hc
    | rt b => exact h _ hc) q
theorem whileN_mono {t : S → PT Bool} {f : S → PT (Ctl β S S)} (mt : ∀ s (k k' : Bool → Prop), (∀ a, k a → k' a) → t s k → t s k') (mf : ∀ s (k k' : Ctl β S S → Prop), (∀ a, k a → k' a) → f s k → f s k') :
    ∀ (n : Nat) (s : S) (k k' : Ctl β L S → Prop), (∀ a, k a → k' a) → whileN n s t f k → whileN n s t f k'
  | 0, _, _, _, _, q => q
  | n + 1, s, k, k', h, q => by
    refine mt s _ _ (fun b hb => ?_) q
    cases b with
    | true =>
      simp only [if_true] at hb ⊢
      refine mf s _ _ (fun c hc => ?_) hb
      cases c with
      | nx s' => exact whileN_mono mt mf n s' k k' h hc
      | ct s' => exact whileN_mono mt mf n s' k k' h hc
      | bk s' => exact h _ hc
      | rt b => exact h _ hc
    | false =>
      simp only [Bool.false_eq_true, if_false] at hb ⊢
      exact h _ hb
end
namespace Pg
variable {α β L S : Type}
def mapM' (xs : List α) (f : α → Pg β) : Pg (List β) := ⟨mapT xs fun x => (f x).wp, fun h q => mapT_mono (fun x _ _ h' => (f x).mono h') xs _ _ h q⟩
def comp (xs : List α) (t : α → Pg Bool) (f : α → Pg β) : Pg (List β) := ⟨compT xs (fun x => (t x).wp) fun x => (f x).wp, fun h q => compT_mono (fun x _ _ h' => (t x).mono h') (fun x _ _ h' => (f x).mono h') xs _ _ h q⟩
def for' (xs : List α) (s : S) (f : α → S → Pg S) : Pg S := ⟨forT xs s fun x s => (f x s).wp, fun h q => forT_mono (fun x s _ _ h' => (f x s).mono h') xs s _ _ h q⟩
def forc (xs : List α) (s : S) (f : α → S → Pg (Ctl β S S)) : Pg (Ctl β L S) := ⟨forC xs s fun x s => (f x s).wp, fun h q => forC_mono (fun x s _ _ h' => (f x s).mono h') xs s _ _ h q⟩
def while' (s : S) (t : S → Pg Bool) (f : S → Pg (Ctl β S S)) : Pg (Ctl β L S) := ⟨whileT s (fun s => (t s).wp) fun s => (f s).wp, fun h ⟨n, q⟩ => ⟨n, whileN_mono (fun s _ _ h' => (t s).mono h') (fun s _ _ h' => (f s).mono h') n s _ _ h q⟩⟩
end Pg

/-! ### heaps -/
open Classical in
noncomputable def hid (H : Hp) (O : Addr → Prop) : Hp := fun a => if O a then none else H a
theorem hid_out {H : Hp} {O : Addr → Prop} {a : Addr} (h : ¬ O a) : hid H O a = H a := by unfold hid; rw [if_neg h]
theorem hid_in {H : Hp} {O : Addr → Prop} {a : Addr} (h : O a) : hid H O a = none := by unfold hid; rw [if_pos h]
theorem of_hid {H : Hp} {O : Addr → Prop} {a : Addr} {o : HO} (h : hid H O a = some o) : ¬ O a ∧ H a = some o := by
  by_cases c : O a
  · rw [hid_in c] at h; cases h
  · rw [hid_out c] at h; exact ⟨c, h⟩
theorem hid_no (H : Hp) : hid H (fun _ => False) = H := funext fun _ => hid_out fun h => h
def wD (O : Addr → Prop) (D : Addr) : Addr → Prop := fun a => O a ∨ a = D
theorem hid_wD {O : Addr → Prop} {H : Hp} {D : Addr} (n : H D = none) : hid H (wD O D) = hid H O := funext fun a => by
  by_cases c : O a
  · rw [hid_in c, hid_in (.inl c)]
  · by_cases e : a = D
    · subst e
      rw [hid_in (.inr rfl), hid_out c, n]
    · rw [hid_out c, hid_out fun z => z.elim c e]
theorem hid_put {O : Addr → Prop} {H : Hp} {D : Addr} {u : HO} : hid (upd H D u) (wD O D) = hid H (wD O D) := funext fun a => by
  by_cases c : wD O D a
  · rw [hid_in c, hid_in c]
  · rw [hid_out c, hid_out c, upd_ne fun e => c (.inr e)]
theorem hid_new {O : Addr → Prop} {H : Hp} {D : Addr} {u : HO} (n : H D = none) : hid (upd H D u) (wD O D) = hid H O := hid_put.trans (hid_wD n)
/-- the plain kinds: read through a lock -/
def Pl : HO → Prop
  | .lst _ => True
  | .dK _ => True
  | .dT _ => True
  | .set _ _ => True
  | _ => False
def Ex (H H' : Hp) : Prop := ∀ a o, H a = some o → H' a = some o
theorem Ex.refl (H : Hp) : Ex H H := fun _ _ h => h
theorem Ex.trans {H H1 H2 : Hp} (a : Ex H H1) (b : Ex H1 H2) : Ex H H2 := fun x o h => b x o (a x o h)
theorem Ex.hid {H H' : Hp} (e : Ex H H') (O : Addr → Prop) : Ex (hid H O) (hid H' O) := fun a o h => by
  obtain ⟨n, h⟩ := of_hid h
  rw [hid_out n]
  exact e a o h
theorem Ex.new {H : Hp} {p : Addr} {o : HO} (h : H p = none) : Ex H (upd H p o) := fun a u e => by
  rw [upd_ne (ne_of_none e h)]
  exact e
structure Ew (H H' : Hp) : Prop where
  rd : ∀ a u, Pl u → Rd H a u → Rd H' a u
  tp : ∀ a xs, H a = some (.tup xs) → H' a = some (.tup xs)
theorem Ew.refl (H : Hp) : Ew H H := ⟨fun _ _ _ h => h, fun _ _ h => h⟩
theorem Ew.trans {H H1 H2 : Hp} (a : Ew H H1) (b : Ew H1 H2) : Ew H H2 := ⟨fun x u p h => b.rd x u p (a.rd x u p h), fun x u h => b.tp x u (a.tp x u h)⟩
theorem Ex.ew {H H' : Hp} (e : Ex H H') : Ew H H' := ⟨fun a u _ h => h.elim (fun h => .inl (e a u h)) fun ⟨o, h⟩ => .inr ⟨o, e a _ h⟩, fun a xs h => e a _ h⟩
theorem rd_hid {H : Hp} {O : Addr → Prop} {a : Addr} {u : HO} : Rd (hid H O) a u ↔ ¬ O a ∧ Rd H a u := by
  constructor
  · rintro (h | ⟨o, h⟩)
    · exact ⟨(of_hid h).1, .inl (of_hid h).2⟩
    · exact ⟨(of_hid h).1, .inr ⟨o, (of_hid h).2⟩⟩
  · rintro ⟨n, h | ⟨o, h⟩⟩
    · exact .inl (by rw [hid_out n]; exact h)
    · exact .inr ⟨o, by rw [hid_out n]; exact h⟩
theorem Ew.hid {H H' : Hp} (e : Ew H H') (O : Addr → Prop) : Ew (hid H O) (hid H' O) :=
  ⟨fun a u p h => rd_hid.mpr ⟨(rd_hid.mp h).1, e.rd a u p (rd_hid.mp h).2⟩, fun a xs h => by
    obtain ⟨n, h⟩ := of_hid h
    rw [hid_out n]
    exact e.tp a xs h⟩
theorem ew_hid_le {H : Hp} {O O' : Addr → Prop} (h : ∀ a, O' a → O a) : Ew (hid H O) (hid H O') := ⟨fun a u p q => rd_hid.mpr ⟨fun z => (rd_hid.mp q).1 (h a z), (rd_hid.mp q).2⟩, fun a xs q => by
  obtain ⟨n, q⟩ := of_hid q
  rw [hid_out fun z => n (h a z)]
  exact q⟩
/-- .. what is locked is so still -/
structure Ef (H H' : Hp) : Prop where
  ew : Ew H H'
  fz : ∀ a o u, H a = some (.frz o u) → H' a = some (.frz o u)
  ex : ∀ a u, H a = some u → ∃ w, H' a = some w
theorem Ef.refl (H : Hp) : Ef H H := ⟨.refl H, fun _ _ _ h => h, fun _ u h => ⟨u, h⟩⟩
theorem Ef.trans {H H1 H2 : Hp} (a : Ef H H1) (b : Ef H1 H2) : Ef H H2 := ⟨a.ew.trans b.ew, fun x o u h => b.fz x o u (a.fz x o u h), fun x u h => let ⟨w, h1⟩ := a.ex x u h; b.ex x w h1⟩
theorem Ex.ef {H H' : Hp} (e : Ex H H') : Ef H H' := ⟨e.ew, fun a o u h => e a _ h, fun a u h => ⟨u, e a u h⟩⟩
theorem Ef.hid {H H' : Hp} (e : Ef H H') (O : Addr → Prop) : Ef (hid H O) (hid H' O) := ⟨e.ew.hid O, fun a o u h => by
  obtain ⟨n, h⟩ := of_hid h
  rw [hid_out n]
  exact e.fz a o u h, fun a u h => by
  obtain ⟨n, h⟩ := of_hid h
  rw [hid_out n]
  exact e.ex a u h⟩
theorem ef_hid_le {H : Hp} {O O' : Addr → Prop} (h : ∀ a, O' a → O a) : Ef (hid H O) (hid H O') := ⟨ew_hid_le h, fun a o u q => by
  obtain ⟨n, q⟩ := of_hid q
  rw [hid_out fun z => n (h a z)]
  exact q, fun a u q => by
  obtain ⟨n, q⟩ := of_hid q
  rw [hid_out fun z => n (h a z)]
  exact ⟨u, q⟩⟩
theorem Mut_no_tup {u : HO} (mu : Mut (some u)) : ∀ xs, u ≠ .tup xs := fun xs e => by subst e; exact mu
theorem Mut_no_frz {u : HO} (mu : Mut (some u)) : ∀ o w, u ≠ .frz o w := fun o w e => by subst e; exact mu
theorem Pl.mut {u : HO} (p : Pl u) : Mut (some u) := by
  cases u <;> first | exact True.intro | exact p.elim
/-- a thing is locked: still read -/
theorem Ew.lock {H : Hp} {d : Addr} {u : HO} (od : Obj) (h : H d = some u) (mu : Mut (some u)) : Ew H (upd H d (.frz od u)) := by
  refine ⟨fun a w p q => ?_, fun a xs q => ?_⟩
  · by_cases e : a = d
    · subst e
      rcases q with q | ⟨o, q⟩
      · rw [h] at q; cases q
        exact .inr ⟨od, upd_same⟩
      · rw [h] at q; cases q
        exact (Mut_no_frz mu o w rfl).elim
    · rcases q with q | ⟨o, q⟩
      · exact .inl (by rw [upd_ne e]; exact q)
      · exact .inr ⟨o, by rw [upd_ne e]; exact q⟩
  · have e : a ≠ d := fun e => by subst e; rw [h] at q; cases q; exact Mut_no_tup mu xs rfl
    rw [upd_ne e]; exact q
theorem Ef.lock {H : Hp} {d : Addr} {u : HO} (od : Obj) (h : H d = some u) (mu : Mut (some u)) : Ef H (upd H d (.frz od u)) := ⟨.lock od h mu, fun a o w q => by
  have e : a ≠ d := fun e => by subst e; rw [h] at q; cases q; exact Mut_no_frz mu o w rfl
  rw [upd_ne e]; exact q, fun a w q => by
  by_cases e : a = d
  · subst e; exact ⟨_, upd_same⟩
  · exact ⟨w, by rw [upd_ne e]; exact q⟩⟩
theorem Ew.unlock {H : Hp} {d : Addr} {od : Obj} {u : HO} (h : H d = some (.frz od u)) : Ew H (upd H d u) := by
  refine ⟨fun a w p q => ?_, fun a xs q => ?_⟩
  · by_cases e : a = d
    · subst e
      rcases q with q | ⟨o, q⟩
      · rw [h] at q; cases q; exact p.elim
      · rw [h] at q; cases q
        exact .inl upd_same
    · rcases q with q | ⟨o, q⟩
      · exact .inl (by rw [upd_ne e]; exact q)
      · exact .inr ⟨o, by rw [upd_ne e]; exact q⟩
  · have e : a ≠ d := fun e => by subst e; rw [h] at q; cases q
    rw [upd_ne e]; exact q

theorem pmap {α β : Type} {F G : α → β → Prop} : ∀ {l₁ : List α} {l₂ : List β}, Paired F l₁ l₂ → (∀ a b, F a b → G a b) → Paired G l₁ l₂
  | _, _, .nil, _ => .nil
  | _, _, .cons r t, f => .cons (f _ _ r) (pmap t f)
/-! ### representations -/
variable {K : PySem.W.Frag}
structure R (K : PySem.W.Frag) (α : Type) where
  rp : Hp → V → α → Prop
  mono : ∀ {H H' : Hp} {v : V} {a : α}, Ew H H' → rp H v a → rp H' v a
def TpX (K : PySem.W.Frag) (H : Hp) (p : Addr) (vs : List V) : Prop :=
  H p = some (.tup vs) ∨ ∃ (o : Obj) (its : Array Value) (n : Nat), K.lookup p = some o ∧ o.cls = .type "tuple" ∧ o.data = .seq its n ∧ its.size ≤ sizeLine ∧ Vals vs its.toList
theorem TpX.sq {H : Hp} {p : Addr} {vs : List V} (h : TpX K H p vs) : SqT K H p vs := h.elim (fun h => .inl (.inl h)) .inr
theorem TpX.mono {H H' : Hp} {p : Addr} {vs : List V} (e : Ew H H') (h : TpX K H p vs) : TpX K H' p vs := h.elim (fun h => .inl (e.tp p vs h)) .inr
theorem SqL.mono' {H H' : Hp} {p : Addr} {vs : List V} (e : Ew H H') (h : SqL K H p vs) : SqL K H' p vs := h.elim (fun h => .inl (e.rd p _ True.intro h)) .inr
theorem TpX.of_hid {H : Hp} {O : Addr → Prop} {p : Addr} {vs : List V} (h : TpX K (hid H O) p vs) : TpX K H p vs := h.elim (fun h => .inl (Nz.of_hid h).2) .inr
theorem rdL {H H' : Hp} {p : Addr} {vs : List V} (w : Ew H H') (h : Rd H p (.lst vs)) : Rd H' p (.lst vs) := w.rd p _ True.intro h
theorem SqL.of_hid' {H : Hp} {O : Addr → Prop} {p : Addr} {vs : List V} (h : SqL K (hid H O) p vs) : SqL K H p vs := h.elim (fun h => .inl (rd_hid.mp h).2) .inr
abbrev big : Nat := 100000
def rInt : R K Int := ⟨fun _ v i => v = .int i, fun _ h => h⟩
def rBl : R K Bool := ⟨fun _ v b => v = .bl b, fun _ h => h⟩
def rStr : R K Str := ⟨fun _ v x => v = .str x, fun _ h => h⟩
def rNon : R K Unit := ⟨fun _ v _ => v = .non, fun _ h => h⟩
def rOpt {α : Type} (r : R K α) : R K (Option α) := ⟨fun H v o => match o with
  | none => v = .non
  | some x => v ≠ .non ∧ r.rp H v x, fun {H H' v o} e h => by
    cases o with
    | none => exact h
    | some x => exact ⟨h.1, r.mono e h.2⟩⟩
def rTup {α : Type} (r : R K α) : R K (List α) := ⟨fun H v xs => ∃ p vs, v = .ref p ∧ TpX K H p vs ∧ Paired (r.rp H) vs xs ∧ vs.length ≤ big,
  fun e ⟨p, vs, a, b, c, d⟩ => ⟨p, vs, a, b.mono e, pmap c fun _ _ q => r.mono e q, d⟩⟩
def rLst {α : Type} (r : R K α) : R K (List α) := ⟨fun H v xs => ∃ p vs, v = .ref p ∧ Rd H p (.lst vs) ∧ Paired (r.rp H) vs xs ∧ vs.length ≤ big,
  fun e ⟨p, vs, a, b, c, d⟩ => ⟨p, vs, a, e.rd _ _ True.intro b, pmap c fun _ _ q => r.mono e q, d⟩⟩
structure RF (K : PySem.W.Frag) (α : Type) where
  rp : Hp → List V → α → Prop
  n : Nat
  mono : ∀ {H H' : Hp} {v : List V} {a : α}, Ew H H' → rp H v a → rp H' v a
  len : ∀ {H : Hp} {v : List V} {a : α}, rp H v a → v.length = n
def f1 {α : Type} (r : R K α) : RF K α := ⟨fun H vs a => ∃ v, vs = [v] ∧ r.rp H v a, 1, fun e ⟨v, a, b⟩ => ⟨v, a, r.mono e b⟩, fun ⟨_, e, _⟩ => by rw [e]; rfl⟩
def fc {α β : Type} (r : R K α) (f : RF K β) : RF K (α × β) := ⟨fun H vs a => ∃ v ws, vs = v :: ws ∧ r.rp H v a.1 ∧ f.rp H ws a.2, f.n + 1,
  fun e ⟨v, ws, a, b, c⟩ => ⟨v, ws, a, r.mono e b, f.mono e c⟩, fun ⟨_, _, e, _, h⟩ => by rw [e, List.length_cons, f.len h]⟩
def rPr {α : Type} (f : RF K α) : R K α := ⟨fun H v a => ∃ p vs, v = .ref p ∧ TpX K H p vs ∧ f.rp H vs a, fun e ⟨p, vs, a, b, c⟩ => ⟨p, vs, a, b.mono e, f.mono e c⟩⟩
/-- keys: ints, texts; and tuples of such -/
structure Ky (κ : Type) where
  enc : κ → Key
  inj : ∀ a b, enc a = enc b → a = b
structure Kt (κ : Type) where
  enc : κ → List Key
  inj : ∀ a b, enc a = enc b → a = b
def kyI : Ky Int := ⟨.inl, fun _ _ e => Sum.inl.inj e⟩
def kyS : Ky Str := ⟨.inr, fun _ _ e => Sum.inr.inj e⟩
def ktL {κ : Type} (e : Ky κ) : Kt (List κ) := ⟨fun xs => xs.map e.enc, fun a b h => by
  induction a generalizing b with
  | nil => cases b with
    | nil => rfl
    | cons _ _ => cases h
  | cons x a ih => cases b with
    | nil => cases h
    | cons y b =>
      simp only [List.map_cons, List.cons.injEq] at h
      rw [e.inj _ _ h.1, ih b h.2]⟩
def ktP {κ μ : Type} (e : Ky κ) (f : Ky μ) : Kt (κ × μ) := ⟨fun p => [e.enc p.1, f.enc p.2], fun a b h => by
  obtain ⟨a1, a2⟩ := a
  obtain ⟨b1, b2⟩ := b
  simp only [List.cons.injEq, and_true] at h
  rw [e.inj _ _ h.1, f.inj _ _ h.2]⟩
def DkRel {α κ : Type} (e : κ → Key) (r : R K α) (H : Hp) (kv : Key × V) (d : κ × α) : Prop := kv.1 = e d.1 ∧ r.rp H kv.2 d.2
def DtRel {α κ : Type} (e : κ → List Key) (r : R K α) (H : Hp) (kv : List Key × V) (d : κ × α) : Prop := kv.1 = e d.1 ∧ r.rp H kv.2 d.2
def rDk {α κ : Type} (e : Ky κ) (r : R K α) : R K (List (κ × α)) := ⟨fun H v d => ∃ p kvs, v = .ref p ∧ Rd H p (.dK kvs) ∧ Paired (DkRel e.enc r H) kvs d ∧ kvs.length ≤ big,
  fun w ⟨p, kvs, a, b, c, d⟩ => ⟨p, kvs, a, w.rd _ _ True.intro b, pmap c fun _ _ q => ⟨q.1, r.mono w q.2⟩, d⟩⟩
def rDt {α κ : Type} (e : Kt κ) (r : R K α) : R K (List (κ × α)) := ⟨fun H v d => ∃ p kvs, v = .ref p ∧ Rd H p (.dT kvs) ∧ Paired (DtRel e.enc r H) kvs d ∧ kvs.length ≤ big,
  fun w ⟨p, kvs, a, b, c, d⟩ => ⟨p, kvs, a, w.rd _ _ True.intro b, pmap c fun _ _ q => ⟨q.1, r.mono w q.2⟩, d⟩⟩

/-! ### dicts as lists of pairs -/
section
variable {κ α : Type} [DecidableEq κ]
def dget : List (κ × α) → κ → Option α
  | [], _ => none
  | p :: d, k => if p.1 = k then some p.2 else dget d k
def dput (d : List (κ × α)) (k : κ) (v : α) : List (κ × α) :=
  if (d.any fun p => decide (p.1 = k)) = true then d.map (fun p => if p.1 = k then (p.1, v) else p) else d ++ [(k, v)]
def dputs (d e : List (κ × α)) : List (κ × α) := e.foldl (fun d p => dput d p.1 p.2) d
end

theorem rd_eq {H H' : Hp} {p : Addr} {u : HO} (e : H' p = H p) (h : Rd H p u) : Rd H' p u := h.elim (fun h => .inl (by rw [e]; exact h)) fun ⟨o, h⟩ => .inr ⟨o, by rw [e]; exact h⟩
/-! ### slots -/
structure Sl (K : PySem.W.Frag) where
  p : Hp → Hp → Option V → Prop
  mono : ∀ {F F' H H' : Hp} {o : Option V}, Ew F F' → Ef H H' → p F H o → p F' H' o
  hp : Bool
  no : ∀ {F H H' : Hp} {o : Option V}, hp = false → p F H o → p F H' o
  yes : ∀ {F H H' : Hp} {o : Option V}, (∀ q, o = some (.ref q) → H' q = H q) → p F H o → p F H' o
def slAny : Sl K := ⟨fun _ _ _ => True, fun _ _ h => h, false, fun _ h => h, fun _ h => h⟩
def slV {α : Type} (r : R K α) (a : α) : Sl K := ⟨fun F _ o => ∃ v, o = some v ∧ r.rp F v a, fun e _ ⟨v, h, q⟩ => ⟨v, h, r.mono e q⟩, false, fun _ h => h, fun _ h => h⟩
/-- a list of one's own -/
def slL {α : Type} (r : R K α) (xs : List α) : Sl K := ⟨fun F H o => ∃ p vs, o = some (.ref p) ∧ Rd H p (.lst vs) ∧ Paired (r.rp F) vs xs ∧ vs.length ≤ big,
  fun e w ⟨p, vs, a, b, c, d⟩ => ⟨p, vs, a, w.ew.rd _ _ True.intro b, pmap c fun _ _ q => r.mono e q, d⟩, true, fun h => (nomatch h), fun e ⟨p, vs, a, b, c, d⟩ => ⟨p, vs, a, rd_eq (e p a) b, c, d⟩⟩
def slDk {α κ : Type} (e : Ky κ) (r : R K α) (d : List (κ × α)) : Sl K := ⟨fun F H o => ∃ p kvs, o = some (.ref p) ∧ Rd H p (.dK kvs) ∧ Paired (DkRel e.enc r F) kvs d ∧ kvs.length ≤ big,
  fun f w ⟨p, vs, a, b, c, d⟩ => ⟨p, vs, a, w.ew.rd _ _ True.intro b, pmap c fun _ _ q => ⟨q.1, r.mono f q.2⟩, d⟩, true, fun h => (nomatch h), fun e ⟨p, vs, a, b, c, d⟩ => ⟨p, vs, a, rd_eq (e p a) b, c, d⟩⟩
def slDt {α κ : Type} (e : Kt κ) (r : R K α) (d : List (κ × α)) : Sl K := ⟨fun F H o => ∃ p kvs, o = some (.ref p) ∧ Rd H p (.dT kvs) ∧ Paired (DtRel e.enc r F) kvs d ∧ kvs.length ≤ big,
  fun f w ⟨p, vs, a, b, c, d⟩ => ⟨p, vs, a, w.ew.rd _ _ True.intro b, pmap c fun _ _ q => ⟨q.1, r.mono f q.2⟩, d⟩, true, fun h => (nomatch h), fun e ⟨p, vs, a, b, c, d⟩ => ⟨p, vs, a, rd_eq (e p a) b, c, d⟩⟩
/-- a dict that is locked -/
def slDkF {α κ : Type} (e : Ky κ) (r : R K α) (d : List (κ × α)) : Sl K := ⟨fun F H o => ∃ p od kvs, o = some (.ref p) ∧ H p = some (.frz od (.dK kvs)) ∧ Paired (DkRel e.enc r F) kvs d ∧ kvs.length ≤ big,
  fun f w ⟨p, od, vs, a, b, c, d⟩ => ⟨p, od, vs, a, w.fz _ _ _ b, pmap c fun _ _ q => ⟨q.1, r.mono f q.2⟩, d⟩, true, fun h => (nomatch h), fun e ⟨p, od, vs, a, b, c, d⟩ => ⟨p, od, vs, a, by rw [e p a]; exact b, c, d⟩⟩
def slDtF {α κ : Type} (e : Kt κ) (r : R K α) (d : List (κ × α)) : Sl K := ⟨fun F H o => ∃ p od kvs, o = some (.ref p) ∧ H p = some (.frz od (.dT kvs)) ∧ Paired (DtRel e.enc r F) kvs d ∧ kvs.length ≤ big,
  fun f w ⟨p, od, vs, a, b, c, d⟩ => ⟨p, od, vs, a, w.fz _ _ _ b, pmap c fun _ _ q => ⟨q.1, r.mono f q.2⟩, d⟩, true, fun h => (nomatch h), fun e ⟨p, od, vs, a, b, c, d⟩ => ⟨p, od, vs, a, by rw [e p a]; exact b, c, d⟩⟩
def slAt (p : Addr) : Sl K := ⟨fun _ _ o => o = some (.ref p), fun _ _ h => h, false, fun _ h => h, fun _ h => h⟩

/-- no tuple -/
def NT (u : HO) : Prop := ∀ xs, u ≠ .tup xs
theorem Pl.nx {H : Hp} {p : Addr} {u : HO} (h : H p = some u) (pu : Pl u) : ∀ φ, H p ≠ some (.ext φ) := fun φ e => by rw [h] at e; cases e; exact pu
theorem frz_nx {H : Hp} {p : Addr} {o : Obj} {u : HO} (h : H p = some (.frz o u)) : ∀ φ, H p ≠ some (.ext φ) := fun φ e => by rw [h] at e; cases e
theorem Pl.nt {u : HO} (p : Pl u) : NT u := fun xs e => by subst e; exact p
/-! ### effects: what a def may change of its caller's (a tape), with what stays true of it -/
structure Eff where
  M : Addr → Prop
  I : Hp → Prop
  mono : ∀ {H H' : Hp}, (∀ a, M a → H' a = H a) → (∀ a φ, H a = some (.ext φ) → H' a = some (.ext φ)) → I H → I H'
  there : ∀ {H : Hp}, I H → ∀ a, M a → ∃ u, H a = some u ∧ NT u
def eff0 : Eff := ⟨fun _ => False, fun _ => True, fun _ _ _ => True.intro, fun _ _ h => h.elim⟩
def XX (E : Eff) (H H' : Hp) : Prop := Ex (hid H E.M) (hid H' E.M) ∧ E.I H'
theorem XX.trans {E : Eff} {H H1 H2 : Hp} (a : XX E H H1) (b : XX E H1 H2) : XX E H H2 := ⟨a.1.trans b.1, b.2⟩
structure SL (O : Addr → Prop) (E : Eff) (sls : List (Sl K)) (σ : L2.St) (H : Hp) : Prop where
  sl : Paired (fun o (sl : Sl K) => sl.p (hid H O) (hid H E.M) o) σ sls
  od : ∀ a, O a → ∃ u, H a = some u ∧ NT u
  mo : ∀ a, E.M a → O a
  inv : E.I H
section
variable {O : Addr → Prop} {E : Eff} {sls : List (Sl K)} {σ : L2.St} {H H' : Hp}
theorem hid_hid (H : Hp) {M O : Addr → Prop} (h : ∀ a, M a → O a) : hid (hid H M) O = hid H O := funext fun a => by
  by_cases c : O a
  · rw [hid_in c, hid_in c]
  · rw [hid_out c, hid_out c, hid_out fun z => c (h a z)]
theorem XX.ex (mo : ∀ a, E.M a → O a) (x : XX E H H') : Ex (hid H O) (hid H' O) := by
  have := x.1.hid O
  rwa [hid_hid H mo, hid_hid H' mo] at this
theorem SL.ext (S : SL O E sls σ H) (x : XX E H H') : SL O E sls σ H' := by
  refine ⟨pmap S.sl fun o sl h => sl.mono (x.ex S.mo).ew x.1.ef h, fun a ha => ?_, S.mo, x.2⟩
  by_cases c : E.M a
  · exact E.there x.2 a c
  · obtain ⟨u, hu, nt⟩ := S.od a ha
    have := x.1 a u (by rw [hid_out c]; exact hu)
    exact ⟨u, (of_hid this).2, nt⟩
theorem XX.refl (S : SL O E sls σ H) : XX E H H := ⟨Ex.refl _, S.inv⟩
theorem SL.rep {α : Type} {r : R K α} {v : V} {a : α} (S : SL O E sls σ H) (x : XX E H H') (h : r.rp (hid H O) v a) : r.rp (hid H' O) v a := r.mono (x.ex S.mo).ew h
/-- a new object -/
theorem SL.new {p : Addr} {u : HO} (S : SL O E sls σ H) (n : H p = none) : XX E H (upd H p u) ∧ ¬ O p := by
  have nO : ¬ O p := fun h => by
    obtain ⟨w, e, _⟩ := S.od p h
    rw [n] at e; cases e
  refine ⟨⟨(Ex.new n).hid _, E.mono (fun a ha => ?_) (fun a φ e => Ex.new n a _ e) S.inv⟩, nO⟩
  exact upd_ne fun e => nO (by subst e; exact S.mo _ ha)
theorem XX.of_ex (h : Ex H H') (i : E.I H) : XX E H H' := ⟨h.hid _, E.mono (fun a ha => by
  obtain ⟨u, e, _⟩ := E.there i a ha
  rw [e, h a u e]) (fun a φ e => h a _ e) i⟩
/-- a thing that was not there is changed -/
theorem ext_upd {H : Hp} {p : Addr} {u : HO} (hx : ∀ φ, H p ≠ some (.ext φ)) : ∀ a φ, H a = some (.ext φ) → upd H p u a = some (.ext φ) := fun a φ e => by
  rw [upd_ne fun z => hx φ (by rw [← z]; exact e)]
  exact e
theorem XX.put {p : Addr} {u : HO} (x : XX E H H') (n : H p = none) (m : ¬ E.M p) (hx : ∀ φ, H' p ≠ some (.ext φ)) : XX E H (upd H' p u) := ⟨fun a w e => by
  obtain ⟨na, e⟩ := of_hid e
  rw [hid_out na, upd_ne (ne_of_none e n)]
  have := x.1 a w (by rw [hid_out na]; exact e)
  exact (of_hid this).2, E.mono (fun a ha => upd_ne fun e => m (by subst e; exact ha)) (ext_upd hx) x.2⟩
theorem XX.back {p : Addr} (x : XX E H H') (n : H' p = none) : H p = none := by
  cases e : H p with
  | none => rfl
  | some u =>
    by_cases m : E.M p
    · obtain ⟨w, hw, _⟩ := E.there x.2 p m
      rw [n] at hw; cases hw
    · have := x.1 p u (by rw [hid_out m]; exact e)
      rw [(of_hid this).2] at n; cases n
theorem XX.keep {p : Addr} {u : HO} (x : XX E H H') (h : H p = some u) (m : ¬ E.M p) : H' p = some u := (of_hid (x.1 p u (by rw [hid_out m]; exact h))).2
theorem paired_at {α β : Type} {F : α → β → Prop} : ∀ {l₁ : List α} {l₂ : List β} {i : Nat} {b : β}, Paired F l₁ l₂ → l₂[i]? = some b → ∃ a, l₁[i]? = some a ∧ F a b
  | _, _, _, _, .nil, e => by simp at e
  | _, _, 0, _, .cons h _, e => by
    simp at e
    subst e
    exact ⟨_, rfl, h⟩
  | _, _, i + 1, b, .cons _ t, e => by
    obtain ⟨a, h1, h2⟩ := paired_at (i := i) t (by simpa using e)
    exact ⟨a, by simpa using h1, h2⟩
theorem SL.at {i : Nat} {sl : Sl K} (S : SL O E sls σ H) (h : sls[i]? = some sl) : ∃ o, σ[i]? = some o ∧ sl.p (hid H O) (hid H E.M) o := paired_at S.sl h
theorem SL.val {α : Type} {i : Nat} {r : R K α} {a : α} (S : SL O E sls σ H) (h : sls[i]? = some (slV r a)) : ∃ v, σ[i]? = some (some v) ∧ r.rp (hid H O) v a := by
  obtain ⟨o, e, v, rfl, q⟩ := S.at h
  exact ⟨v, e, q⟩
theorem paired_set {α β : Type} {F : α → β → Prop} {a : α} {b : β} (h : F a b) : ∀ {l₁ : List α} {l₂ : List β} (i : Nat), Paired F l₁ l₂ → Paired F (l₁.set i a) (l₂.set i b)
  | _, _, _, .nil => .nil
  | _, _, 0, .cons _ t => .cons h t
  | _, _, i + 1, .cons q t => .cons q (paired_set h i t)
theorem SL.set {i : Nat} {o : Option V} {sl : Sl K} (S : SL O E sls σ H) (h : sl.p (hid H O) (hid H E.M) o) : SL O E (sls.set i sl) (σ.set i o) H := ⟨paired_set (F := fun o (sl : Sl K) => sl.p (hid H O) (hid H E.M) o) h i S.sl, S.od, S.mo, S.inv⟩
/-- slots forgotten -/
def wipeS (sls : List (Sl K)) : List Nat → List (Sl K)
  | [] => sls
  | v :: vs => (wipeS sls vs).set v slAny
theorem SL.wipe (S : SL O E sls σ H) : ∀ vs, SL O E (wipeS sls vs) (wipe σ vs) H
  | [] => S
  | v :: vs => (S.wipe vs).set True.intro
end
theorem wipe_set {σ : L2.St} {j : Nat} {o : Option V} : ∀ {vs : List Nat}, j ∈ vs → wipe (σ.set j o) vs = wipe σ vs
  | [], h => by simp at h
  | v :: vs, h => by
    show (wipe (σ.set j o) vs).set v none = (wipe σ vs).set v none
    by_cases e : j = v
    · subst e
      by_cases m : j ∈ vs
      · rw [wipe_set m]
      · have : ∀ (us : List Nat) (τ : L2.St), j ∉ us → wipe (τ.set j o) us = (wipe τ us).set j o := by
          intro us
          induction us with
          | nil => intro _ _; rfl
          | cons u us ih =>
            intro τ hu
            simp only [List.mem_cons, not_or] at hu
            show (wipe (τ.set j o) us).set u none = ((wipe τ us).set u none).set j o
            rw [ih τ hu.2, List.set_comm _ _ (fun e => hu.1 e)]
        rw [this vs σ m, List.set_set]
    · have m : j ∈ vs := by
        rcases List.mem_cons.mp h with h | h
        · exact (e h).elim
        · exact h
      rw [wipe_set m]
theorem wipe_wipe (σ : L2.St) : ∀ (us vs : List Nat), (∀ v ∈ us, v ∈ vs) → wipe (wipe σ us) vs = wipe σ vs
  | [], _, _ => rfl
  | u :: us, vs, h => by
    show wipe ((wipe σ us).set u none) vs = wipe σ vs
    rw [wipe_set (h u List.mem_cons_self), wipe_wipe σ us vs fun v hv => h v (List.mem_cons_of_mem _ hv)]
end Nz

/-! Nz2: expressions. -/
namespace Nz
open PySem L2
variable {K : PySem.W.Frag} {O : Addr → Prop} {E : Eff} {sls : List (Sl K)}
section
variable {α β γ κ : Type}
variable (E sls)
def EV (te : TE) (r : R K α) (c : PT α) : Prop := ∀ O σ H, SL O E sls σ H → ∀ k : α → Prop, c k → ∀ Q : VK, (∀ a v H2, k a → XX E H H2 → r.rp (hid H2 O) v a → Q v H2) → te σ H Q
def ET (tt : TT) (c : PT Bool) : Prop := ∀ O σ H, SL O E sls σ H → ∀ k : Bool → Prop, c k → ∀ Q : Bool → Hp → Prop, (∀ b H2, k b → XX E H H2 → Q b H2) → tt σ H Q
def EA (ta : TA) (f : RF K α) (c : PT α) : Prop := ∀ O σ H, SL O E sls σ H → ∀ k : α → Prop, c k → ∀ Q : List V → Hp → Prop, (∀ a vs H2, k a → XX E H H2 → f.rp (hid H2 O) vs a → Q vs H2) → ta σ H Q
def EP' (to : TO) (c : PT (Option Int)) : Prop := ∀ O σ H, SL O E sls σ H → ∀ k : Option Int → Prop, c k → ∀ Q : Option Int → Hp → Prop, (∀ o H2, k o → XX E H H2 → Q o H2) → to σ H Q
/-- items of one kind as arguments -/
def EAs (ta : TA) (r : R K α) (c : PT (List α)) : Prop := ∀ O σ H, SL O E sls σ H → ∀ k : List α → Prop, c k → ∀ Q : List V → Hp → Prop, (∀ a vs H2, k a → XX E H H2 → Paired (r.rp (hid H2 O)) vs a → Q vs H2) → ta σ H Q
/-- a new list of one's own -/
def EL (te : TE) (r : R K α) (c : PT (List α)) : Prop := ∀ O σ H, SL O E sls σ H → ∀ k : List α → Prop, c k → ∀ Q : VK,
  (∀ xs p vs H2, k xs → XX E H H2 → H p = none → H2 p = some (.lst vs) → Paired (r.rp (hid H2 (wD O p))) vs xs → vs.length ≤ big → Q (.ref p) H2) → te σ H Q
/-- a new dict -/
def ED (te : TE) (e : Ky κ) (r : R K α) (c : PT (List (κ × α))) : Prop := ∀ O σ H, SL O E sls σ H → ∀ k : List (κ × α) → Prop, c k → ∀ Q : VK,
  (∀ xs p vs H2, k xs → XX E H H2 → H p = none → H2 p = some (.dK vs) → Paired (DkRel e.enc r (hid H2 (wD O p))) vs xs → vs.length ≤ big → Q (.ref p) H2) → te σ H Q
def EDt (te : TE) (e : Kt κ) (r : R K α) (c : PT (List (κ × α))) : Prop := ∀ O σ H, SL O E sls σ H → ∀ k : List (κ × α) → Prop, c k → ∀ Q : VK,
  (∀ xs p vs H2, k xs → XX E H H2 → H p = none → H2 p = some (.dT vs) → Paired (DtRel e.enc r (hid H2 (wD O p))) vs xs → vs.length ≤ big → Q (.ref p) H2) → te σ H Q
/-- a list, a tuple, a dict that is read -/
def ERl (te : TE) (r : R K α) (c : PT (List α)) : Prop := ∀ O σ H, SL O E sls σ H → ∀ k : List α → Prop, c k → ∀ Q : VK,
  (∀ xs p vs H2, k xs → XX E H H2 → Rd (hid H2 E.M) p (.lst vs) → Paired (r.rp (hid H2 O)) vs xs → vs.length ≤ big → Q (.ref p) H2) → te σ H Q
def ERt (te : TE) (r : R K α) (c : PT (List α)) : Prop := ∀ O σ H, SL O E sls σ H → ∀ k : List α → Prop, c k → ∀ Q : VK,
  (∀ xs p vs H2, k xs → XX E H H2 → TpX K (hid H2 E.M) p vs → Paired (r.rp (hid H2 O)) vs xs → vs.length ≤ big → Q (.ref p) H2) → te σ H Q
def ERs (te : TE) (r : R K α) (c : PT (List α)) : Prop := ∀ O σ H, SL O E sls σ H → ∀ k : List α → Prop, c k → ∀ Q : VK,
  (∀ xs p vs H2, k xs → XX E H H2 → (SqL K (hid H2 E.M) p vs ∨ SqT K (hid H2 E.M) p vs) → Paired (r.rp (hid H2 O)) vs xs → vs.length ≤ big → Q (.ref p) H2) → te σ H Q
def ERd (te : TE) (e : Ky κ) (r : R K α) (c : PT (List (κ × α))) : Prop := ∀ O σ H, SL O E sls σ H → ∀ k : List (κ × α) → Prop, c k → ∀ Q : VK,
  (∀ xs p vs H2, k xs → XX E H H2 → Rd (hid H2 E.M) p (.dK vs) → Paired (DkRel e.enc r (hid H2 O)) vs xs → vs.length ≤ big → Q (.ref p) H2) → te σ H Q
def ERdt (te : TE) (e : Kt κ) (r : R K α) (c : PT (List (κ × α))) : Prop := ∀ O σ H, SL O E sls σ H → ∀ k : List (κ × α) → Prop, c k → ∀ Q : VK,
  (∀ xs p vs H2, k xs → XX E H H2 → Rd (hid H2 E.M) p (.dT vs) → Paired (DtRel e.enc r (hid H2 O)) vs xs → vs.length ≤ big → Q (.ref p) H2) → te σ H Q
end
section
variable {α β γ κ : Type} {te ta tb tc : TE} {r : R K α} {s : R K β} {c : PT α} {d : PT β}

/-! ### weakening -/
theorem out_big {H : Hp} (mo : ∀ a, E.M a → O a) {p : Addr} {u : HO} (h : hid H O p = some u) : hid H E.M p = some u := by
  obtain ⟨n, h⟩ := of_hid h
  rw [hid_out fun z => n (mo p z)]
  exact h
theorem ew_MO {H : Hp} (mo : ∀ a, E.M a → O a) : Ew (hid H O) (hid H E.M) := ew_hid_le mo
theorem ev_cast {te' : TE} (h : EV E sls te r c) (e : te = te') : EV E sls te' r c := e ▸ h
theorem rl_ev {c : PT (List α)} (h : EV E sls te (rLst r) c) : ERl E sls te r c := fun O σ H S k hk Q q =>
  h _ σ H S k hk Q fun xs v H2 ka x ⟨p, vs, e, hs, hp, hl⟩ => by
    subst e
    exact q xs p vs H2 ka x (rdL (ew_MO S.mo) hs) hp hl
theorem rt_ev {c : PT (List α)} (h : EV E sls te (rTup r) c) : ERt E sls te r c := fun O σ H S k hk Q q =>
  h _ σ H S k hk Q fun xs v H2 ka x ⟨p, vs, e, hs, hp, hl⟩ => by
    subst e
    exact q xs p vs H2 ka x (hs.mono (ew_MO S.mo)) hp hl
theorem rs_l {c : PT (List α)} (h : ERl E sls te r c) : ERs E sls te r c := fun O σ H S k hk Q q =>
  h _ σ H S k hk Q fun xs p vs H2 ka x hs hp hl => q xs p vs H2 ka x (.inl (.inl hs)) hp hl
theorem rs_t {c : PT (List α)} (h : ERt E sls te r c) : ERs E sls te r c := fun O σ H S k hk Q q =>
  h _ σ H S k hk Q fun xs p vs H2 ka x hs hp hl => q xs p vs H2 ka x (.inr hs.sq) hp hl
theorem rd_ev {e : Ky κ} {c : PT (List (κ × α))} (h : EV E sls te (rDk e r) c) : ERd E sls te e r c := fun O σ H S k hk Q q =>
  h _ σ H S k hk Q fun xs v H2 ka x ⟨p, vs, e, hs, hp, hl⟩ => by
    subst e
    exact q xs p vs H2 ka x ((ew_MO S.mo).rd _ _ True.intro hs) hp hl
theorem rdt_ev {e : Kt κ} {c : PT (List (κ × α))} (h : EV E sls te (rDt e r) c) : ERdt E sls te e r c := fun O σ H S k hk Q q =>
  h _ σ H S k hk Q fun xs v H2 ka x ⟨p, vs, e, hs, hp, hl⟩ => by
    subst e
    exact q xs p vs H2 ka x ((ew_MO S.mo).rd _ _ True.intro hs) hp hl
theorem SL.nOn (S : SL O E sls σ H) {p : Addr} (n : H p = none) : ¬ O p := fun h => by
  obtain ⟨w, e, _⟩ := S.od p h
  rw [n] at e; cases e
theorem ev_l {c : PT (List α)} (h : EL E sls te r c) : EV E sls te (rLst r) c := fun O σ H S k hk Q q =>
  h _ σ H S k hk Q fun xs p vs H2 ka x n hp hr hl => q xs _ H2 ka x ⟨p, vs, rfl, .inl (by rw [hid_out (S.nOn n)]; exact hp), pmap hr fun _ _ z => r.mono (ew_hid_le fun a h => .inl h) z, hl⟩
theorem ev_d {e : Ky κ} {c : PT (List (κ × α))} (h : ED E sls te e r c) : EV E sls te (rDk e r) c := fun O σ H S k hk Q q =>
  h _ σ H S k hk Q fun xs p vs H2 ka x n hp hr hl => q xs _ H2 ka x ⟨p, vs, rfl, .inl (by rw [hid_out (S.nOn n)]; exact hp), pmap hr fun _ _ z => ⟨z.1, r.mono (ew_hid_le fun a h => .inl h) z.2⟩, hl⟩
theorem ev_dt {e : Kt κ} {c : PT (List (κ × α))} (h : EDt E sls te e r c) : EV E sls te (rDt e r) c := fun O σ H S k hk Q q =>
  h _ σ H S k hk Q fun xs p vs H2 ka x n hp hr hl => q xs _ H2 ka x ⟨p, vs, rfl, .inl (by rw [hid_out (S.nOn n)]; exact hp), pmap hr fun _ _ z => ⟨z.1, r.mono (ew_hid_le fun a h => .inl h) z.2⟩, hl⟩
/-- what hangs on no heap -/
def Flat (r : R K α) : Prop := ∀ {H H' : Hp} {v a}, r.rp H v a → r.rp H' v a
theorem flat_int : Flat (rInt (K := K)) := fun h => h
theorem flat_bl : Flat (rBl (K := K)) := fun h => h
theorem flat_str : Flat (rStr (K := K)) := fun h => h
theorem flat_opt {r : R K α} (f : Flat r) : Flat (rOpt r) := fun {H H' v a} h => by
  cases a with
  | none => exact h
  | some x => exact ⟨h.1, f h.2⟩

/-! ### names, constants -/
theorem ev_var {i : Nat} {a : α} (h : sls[i]? = some (slV r a)) : EV E sls (tVar i) r (fun k => k a) := fun O σ H S k hk Q q => by
  obtain ⟨v, e, hv⟩ := S.val h
  exact ⟨v, e, q a v H hk (XX.refl S) hv⟩
theorem rl_own {i : Nat} {xs : List α} (h : sls[i]? = some (slL r xs)) : ERl E sls (tVar i) r (fun k => k xs) := fun O σ H S k hk Q q => by
  obtain ⟨o, e, p, vs, eo, hs, hp, hl⟩ := S.at h
  subst eo
  exact ⟨_, e, q xs p vs H hk (XX.refl S) hs hp hl⟩
theorem rd_own {e : Ky κ} {i : Nat} {xs : List (κ × α)} (h : sls[i]? = some (slDk e r xs)) : ERd E sls (tVar i) e r (fun k => k xs) := fun O σ H S k hk Q q => by
  obtain ⟨o, e, p, vs, eo, hs, hp, hl⟩ := S.at h
  subst eo
  exact ⟨_, e, q xs p vs H hk (XX.refl S) hs hp hl⟩
theorem rdt_own {e : Kt κ} {i : Nat} {xs : List (κ × α)} (h : sls[i]? = some (slDt e r xs)) : ERdt E sls (tVar i) e r (fun k => k xs) := fun O σ H S k hk Q q => by
  obtain ⟨o, e, p, vs, eo, hs, hp, hl⟩ := S.at h
  subst eo
  exact ⟨_, e, q xs p vs H hk (XX.refl S) hs hp hl⟩
theorem rd_fz {e : Ky κ} {i : Nat} {xs : List (κ × α)} (h : sls[i]? = some (slDkF e r xs)) : ERd E sls (tVar i) e r (fun k => k xs) := fun O σ H S k hk Q q => by
  obtain ⟨o, e, p, od, vs, eo, hs, hp, hl⟩ := S.at h
  subst eo
  exact ⟨_, e, q xs p vs H hk (XX.refl S) (.inr ⟨od, hs⟩) hp hl⟩
theorem rdt_fz {e : Kt κ} {i : Nat} {xs : List (κ × α)} (h : sls[i]? = some (slDtF e r xs)) : ERdt E sls (tVar i) e r (fun k => k xs) := fun O σ H S k hk Q q => by
  obtain ⟨o, e, p, od, vs, eo, hs, hp, hl⟩ := S.at h
  subst eo
  exact ⟨_, e, q xs p vs H hk (XX.refl S) (.inr ⟨od, hs⟩) hp hl⟩
theorem ev_int {i : Int} : EV E sls (tC (.int i)) rInt (fun k => k i) := fun O σ H S k hk Q q => q i _ H hk (XX.refl S) rfl
theorem ev_bl {b : Bool} : EV E sls (tC (.bl b)) rBl (fun k => k b) := fun O σ H S k hk Q q => q b _ H hk (XX.refl S) rfl
theorem ev_str {b : Str} : EV E sls (tC (.str b)) rStr (fun k => k b) := fun O σ H S k hk Q q => q b _ H hk (XX.refl S) rfl
theorem ev_none : EV E sls (tC .non) (rOpt r) (fun k => k none) := fun O σ H S k hk Q q => q none _ H hk (XX.refl S) rfl
theorem ev_unit : EV E sls (tC .non) rNon (fun k => k ()) := fun O σ H S k hk Q q => q () _ H hk (XX.refl S) rfl
/-- a value into what may be None -/
theorem ev_some (nn : ∀ H v a, r.rp H v a → v ≠ .non) (h : EV E sls te r c) : EV E sls te (rOpt r) (fun k => c fun a => k (some a)) := fun O σ H S k hk Q q =>
  h _ σ H S _ hk Q fun a v H2 ka x hv => q (some a) v H2 ka x ⟨nn _ _ _ hv, hv⟩
theorem nn_int : ∀ (H : Hp) (v : V) (a : Int), (rInt (K := K)).rp H v a → v ≠ .non := fun H v a h e => by
  have : v = .int a := h
  rw [this] at e; cases e
theorem nn_ref {r : R K α} (h : ∀ H v a, r.rp H v a → ∃ p, v = .ref p) : ∀ (H : Hp) (v : V) (a : α), r.rp H v a → v ≠ .non := fun H v a q e => by
  obtain ⟨p, z⟩ := h H v a q
  rw [z] at e; cases e
theorem nn_tup : ∀ (H : Hp) (v : V) (a : List α), (rTup r).rp H v a → v ≠ .non := nn_ref fun _ _ _ ⟨p, _, e, _⟩ => ⟨p, e⟩
theorem nn_pr {f : RF K α} : ∀ (H : Hp) (v : V) (a : α), (rPr f).rp H v a → v ≠ .non := nn_ref fun _ _ _ ⟨p, _, e, _⟩ => ⟨p, e⟩
/-- what may be None, where it is known not to be -/
theorem ev_get {c : PT (Option α)} (h : EV E sls te (rOpt r) c) : EV E sls te r (fun k => c fun o => ∃ a, o = some a ∧ k a) := fun O σ H S k hk Q q =>
  h _ σ H S _ hk Q fun o v H2 ⟨a, e, ka⟩ x hv => by
    subst e
    exact q a v H2 ka x hv.2

/-! ### operators -/
theorem ev_bin {R' : Type} {f : V → V → Hp → VK → Prop} {t : R K γ} {g : α → β → PT γ} (ha : EV E sls ta r c) (hb : EV E sls tb s d)
    (hf : ∀ O σ H a b x y, SL O E sls σ H → r.rp (hid H O) x a → s.rp (hid H O) y b → ∀ k, g a b k → ∀ Q : VK, (∀ z v H2, k z → XX E H H2 → t.rp (hid H2 O) v z → Q v H2) → f x y H Q) :
    EV E sls (tOp f ta tb) t (fun k => c fun a => d fun b => g a b k) := fun O σ H S k hk Q q =>
  ha _ σ H S _ hk _ fun a x H1 ka x1 hx => hb _ σ H1 (S.ext x1) _ ka _ fun b y H2 kb x2 hy =>
    hf _ σ H2 a b x y ((S.ext x1).ext x2) ((S.ext x1).rep x2 hx) hy k kb Q fun z v H3 kz x3 hz => q z v H3 kz ((x1.trans x2).trans x3) hz
theorem ev_I0 {g : Int → Int → Int} {c d : PT Int} (ha : EV E sls ta rInt c) (hb : EV E sls tb rInt d) : EV E sls (tOp (rI0 fun i j => .int (g i j)) ta tb) rInt (fun k => c fun a => d fun b => k (g a b)) :=
  ev_bin (R' := Int) (g := fun a b k => k (g a b)) ha hb fun O σ H a b x y S hx hy k hk Q q => ⟨a, b, hx, hy, q _ _ H hk (XX.refl S) rfl⟩
theorem ev_B0 {g : Int → Int → Bool} {c d : PT Int} (ha : EV E sls ta rInt c) (hb : EV E sls tb rInt d) : EV E sls (tOp (rI0 fun i j => .bl (g i j)) ta tb) rBl (fun k => c fun a => d fun b => k (g a b)) :=
  ev_bin (R' := Int) (g := fun a b k => k (g a b)) ha hb fun O σ H a b x y S hx hy k hk Q q => ⟨a, b, hx, hy, q _ _ H hk (XX.refl S) rfl⟩
theorem ev_I {C : Int → Int → Prop} {g : Int → Int → Int} {c d : PT Int} (ha : EV E sls ta rInt c) (hb : EV E sls tb rInt d) : EV E sls (tOp (rI C fun i j => .int (g i j)) ta tb) rInt (fun k => c fun a => d fun b => C a b ∧ k (g a b)) :=
  ev_bin (R' := Int) (g := fun a b k => C a b ∧ k (g a b)) ha hb fun O σ H a b x y S hx hy k hk Q q => ⟨a, b, hx, hy, hk.1, q _ _ H hk.2 (XX.refl S) rfl⟩
theorem ev_neg {c : PT Int} (ha : EV E sls ta rInt c) : EV E sls (tUn (rU fun i => .int (-i)) ta) rInt (fun k => c fun a => k (-a)) := fun O σ H S k hk Q q =>
  ha _ σ H S _ hk _ fun a x H1 ka x1 hx => ⟨a, hx, q _ _ H1 ka x1 rfl⟩
theorem ev_eqI {c d : PT Int} (ha : EV E sls ta rInt c) (hb : EV E sls tb rInt d) : EV E sls (tOp rEq ta tb) rBl (fun k => c fun a => d fun b => k (decide (a = b))) :=
  ev_bin (R' := Int) (g := fun a b k => k (decide (a = b))) ha hb fun O σ H a b x y S hx hy k hk Q q => by
    have e1 : x = .int a := hx
    have e2 : y = .int b := hy
    subst e1 e2
    exact ⟨rfl, q _ _ H hk (XX.refl S) (show V.bl _ = V.bl _ by simp)⟩
theorem ev_neI {c d : PT Int} (ha : EV E sls ta rInt c) (hb : EV E sls tb rInt d) : EV E sls (tOp rNe ta tb) rBl (fun k => c fun a => d fun b => k (!decide (a = b))) :=
  ev_bin (R' := Int) (g := fun a b k => k (!decide (a = b))) ha hb fun O σ H a b x y S hx hy k hk Q q => by
    have e1 : x = .int a := hx
    have e2 : y = .int b := hy
    subst e1 e2
    exact ⟨rfl, q _ _ H hk (XX.refl S) (show V.bl _ = V.bl _ by simp)⟩
theorem ev_eqB {c d : PT Bool} (ha : EV E sls ta rBl c) (hb : EV E sls tb rBl d) : EV E sls (tOp rEq ta tb) rBl (fun k => c fun a => d fun b => k (decide (a = b))) :=
  ev_bin (R' := Int) (g := fun a b k => k (decide (a = b))) ha hb fun O σ H a b x y S hx hy k hk Q q => by
    have e1 : x = .bl a := hx
    have e2 : y = .bl b := hy
    subst e1 e2
    exact ⟨rfl, q _ _ H hk (XX.refl S) (show V.bl _ = V.bl _ by simp)⟩
theorem ev_neB {c d : PT Bool} (ha : EV E sls ta rBl c) (hb : EV E sls tb rBl d) : EV E sls (tOp rNe ta tb) rBl (fun k => c fun a => d fun b => k (!decide (a = b))) :=
  ev_bin (R' := Int) (g := fun a b k => k (!decide (a = b))) ha hb fun O σ H a b x y S hx hy k hk Q q => by
    have e1 : x = .bl a := hx
    have e2 : y = .bl b := hy
    subst e1 e2
    exact ⟨rfl, q _ _ H hk (XX.refl S) (show V.bl _ = V.bl _ by simp)⟩
theorem ev_isB {c d : PT Bool} (ha : EV E sls ta rBl c) (hb : EV E sls tb rBl d) : EV E sls (tOp rIsB ta tb) rBl (fun k => c fun a => d fun b => k (decide (a = b))) :=
  ev_bin (R' := Int) (g := fun a b k => k (decide (a = b))) ha hb fun O σ H a b x y S hx hy k hk Q q => ⟨a, b, hx, hy, q _ _ H hk (XX.refl S) rfl⟩
theorem ev_notB {c d : PT Bool} (ha : EV E sls ta rBl c) (hb : EV E sls tb rBl d) : EV E sls (tOp rNotB ta tb) rBl (fun k => c fun a => d fun b => k (!decide (a = b))) :=
  ev_bin (R' := Int) (g := fun a b k => k (!decide (a = b))) ha hb fun O σ H a b x y S hx hy k hk Q q => ⟨a, b, hx, hy, q _ _ H hk (XX.refl S) rfl⟩
theorem ev_isN {c : PT (Option α)} (ha : EV E sls ta (rOpt r) c) : EV E sls (tIsN ta) rBl (fun k => c fun o => k o.isNone) := fun O σ H S k hk Q q =>
  ha _ σ H S _ hk _ fun o x H1 ka x1 hx => q _ _ H1 ka x1 (show V.bl _ = V.bl _ by
    cases o with
    | none => have e : x = .non := hx; simp [e]
    | some a => simp [hx.1])
theorem ev_notN {c : PT (Option α)} (ha : EV E sls ta (rOpt r) c) : EV E sls (tNotN ta) rBl (fun k => c fun o => k o.isSome) := fun O σ H S k hk Q q =>
  ha _ σ H S _ hk _ fun o x H1 ka x1 hx => q _ _ H1 ka x1 (show V.bl _ = V.bl _ by
    cases o with
    | none => have e : x = .non := hx; simp [e]
    | some a => simp [hx.1])
/-- a < b < c, its middle asked once -/
theorem ev_chain {g g' : Int → Int → Bool} {c d e : PT Int} (ha : EV E sls ta rInt c) (hb : EV E sls tb rInt d) (hc : EV E sls tc rInt e) :
    EV E sls (tChain (rI0 fun i j => .bl (g i j)) (rI0 fun i j => .bl (g' i j)) ta tb tc) rBl (fun k => c fun a => d fun b => if g a b = true then e fun z => k (g' b z) else k false) := fun O σ H S k hk Q q =>
  ha _ σ H S _ hk _ fun a x H1 ka x1 hx => hb _ σ H1 (S.ext x1) _ ka _ fun b y H2 kb x2 hy => by
    refine ⟨a, b, hx, hy, g a b, rfl, ?_⟩
    cases h : g a b with
    | true =>
      rw [h] at kb
      refine hc _ σ H2 ((S.ext x1).ext x2) _ kb _ fun z w H3 kz x3 hz => ⟨b, z, hy, hz, q _ _ H3 kz ((x1.trans x2).trans x3) rfl⟩
    | false =>
      rw [h] at kb
      exact q _ _ H2 kb (x1.trans x2) rfl

/-! ### tests, and, or, not -/
theorem et_B {c : PT Bool} (h : EV E sls te rBl c) : ET E sls (tB te) c := fun O σ H S k hk Q q => h _ σ H S k hk _ fun b v H2 kb x hv => ⟨b, hv, q b H2 kb x⟩
theorem et_T {c : PT Bool} (h : EV E sls te rBl c) : ET E sls (tTest te) c := fun O σ H S k hk Q q => h _ σ H S k hk _ fun b v H2 kb x hv => ⟨b, hv, q b H2 kb x⟩
variable {tt uu : TT}
theorem et_and {c d : PT Bool} (h1 : ET E sls tt c) (h2 : ET E sls uu d) : ET E sls (tAnd tt uu) (fun k => c fun a => if a = true then d k else k false) := fun O σ H S k hk Q q =>
  h1 _ σ H S _ hk _ fun a H1 ka x1 => by
    cases a with
    | true =>
      rw [if_pos rfl] at ka ⊢
      exact h2 _ σ H1 (S.ext x1) k ka Q fun b H2 kb x2 => q b H2 kb (x1.trans x2)
    | false =>
      rw [if_neg Bool.false_ne_true] at ka ⊢
      exact q false H1 ka x1
theorem et_or {c d : PT Bool} (h1 : ET E sls tt c) (h2 : ET E sls uu d) : ET E sls (tOr tt uu) (fun k => c fun a => if a = true then k true else d k) := fun O σ H S k hk Q q =>
  h1 _ σ H S _ hk _ fun a H1 ka x1 => by
    cases a with
    | false =>
      rw [if_neg Bool.false_ne_true] at ka ⊢
      exact h2 _ σ H1 (S.ext x1) k ka Q fun b H2 kb x2 => q b H2 kb (x1.trans x2)
    | true =>
      rw [if_pos rfl] at ka ⊢
      exact q true H1 ka x1
theorem et_not {c : PT Bool} (h1 : ET E sls tt c) : ET E sls (tNot tt) (fun k => c fun a => k (!a)) := fun O σ H S k hk Q q =>
  h1 _ σ H S _ hk _ fun a H1 ka x1 => q (!a) H1 ka x1
theorem ev_and {c d : PT Bool} (h1 : EV E sls ta rBl c) (h2 : EV E sls tb rBl d) : EV E sls (tAndV ta tb) rBl (fun k => c fun a => if a = true then d k else k false) := fun O σ H S k hk Q q =>
  h1 _ σ H S _ hk _ fun a v H1 ka x1 hv => ⟨a, hv, by
    cases a with
    | true =>
      rw [if_pos rfl] at ka ⊢
      exact h2 _ σ H1 (S.ext x1) k ka Q fun b w H2 kb x2 hw => q b w H2 kb (x1.trans x2) hw
    | false =>
      rw [if_neg Bool.false_ne_true] at ka ⊢
      exact q false _ H1 ka x1 rfl⟩
theorem ev_or {c d : PT Bool} (h1 : EV E sls ta rBl c) (h2 : EV E sls tb rBl d) : EV E sls (tOrV ta tb) rBl (fun k => c fun a => if a = true then k true else d k) := fun O σ H S k hk Q q =>
  h1 _ σ H S _ hk _ fun a v H1 ka x1 hv => ⟨a, hv, by
    cases a with
    | false =>
      rw [if_neg Bool.false_ne_true] at ka ⊢
      exact h2 _ σ H1 (S.ext x1) k ka Q fun b w H2 kb x2 hw => q b w H2 kb (x1.trans x2) hw
    | true =>
      rw [if_pos rfl] at ka ⊢
      exact q true _ H1 ka x1 rfl⟩
theorem ev_not {c : PT Bool} (h1 : EV E sls ta rBl c) : EV E sls (tNotV ta) rBl (fun k => c fun a => k (!a)) := fun O σ H S k hk Q q =>
  h1 _ σ H S _ hk _ fun a v H1 ka x1 hv => ⟨a, hv, q _ _ H1 ka x1 rfl⟩
theorem ev_if {b : PT Bool} {c d : PT α} (h : ET E sls tt b) (h1 : EV E sls ta r c) (h2 : EV E sls tb r d) : EV E sls (tIf tt ta tb) r (fun k => b fun x => if x = true then c k else d k) := fun O σ H S k hk Q q =>
  h _ σ H S _ hk _ fun x H1 kx x1 => by
    cases x with
    | true =>
      rw [if_pos rfl] at kx ⊢
      exact h1 _ σ H1 (S.ext x1) k kx Q fun b w H2 kb x2 hw => q b w H2 kb (x1.trans x2) hw
    | false =>
      rw [if_neg Bool.false_ne_true] at kx ⊢
      exact h2 _ σ H1 (S.ext x1) k kx Q fun b w H2 kb x2 hw => q b w H2 kb (x1.trans x2) hw
/-- a test by truth -/
theorem lunS {H : Hp} {p : Addr} {vs : List V} {M : Addr → Prop} (h : SqL K (hid H M) p vs) : SqL K H p vs := SqL.of_hid' h
theorem lun {H : Hp} {p : Addr} {vs : List V} {M : Addr → Prop} (h : Rd (hid H M) p (.lst vs)) : SqL K H p vs := .inl (rd_hid.mp h).2
theorem tun {H : Hp} {p : Addr} {vs : List V} {M : Addr → Prop} (h : SqT K (hid H M) p vs) : SqT K H p vs := h.elim (fun h => .inl (rd_hid.mp h).2) .inr
theorem isEmpty_pair {F : V → β → Prop} {vs : List V} {xs : List β} (h : Paired F vs xs) : vs.isEmpty = xs.isEmpty := by cases h <;> rfl
theorem et_truS {c : PT (List α)} (h : ERs E sls te r c) : ET E sls (fun σ H Q => te σ H fun x H' => ∃ k, TruV K x H' k ∧ Q k H') (fun k => c fun xs => k (!xs.isEmpty)) := fun O σ H S k hk Q q =>
  h _ σ H S _ hk _ fun xs p vs H2 ka x hs hp hl => ⟨!xs.isEmpty, by
    rw [← isEmpty_pair hp]
    exact hs.elim (fun h => .inl ⟨vs, lunS h, rfl⟩) fun h => .inr (.inl ⟨vs, tun h, rfl⟩), q _ H2 ka x⟩

/-! ### arguments -/
theorem ea_1 (h : EV E sls te r c) : EA E sls (tCons te tNil) (f1 r) c := fun O σ H S k hk Q q =>
  h _ σ H S k hk _ fun a v H2 ka x hv => q a [v] H2 ka x ⟨v, rfl, hv⟩
theorem ea_c {tr : TA} {f : RF K β} (h : EV E sls te r c) (h2 : EA E sls tr f d) : EA E sls (tCons te tr) (fc r f) (fun k => c fun a => d fun b => k (a, b)) := fun O σ H S k hk Q q =>
  h _ σ H S _ hk _ fun a v H1 ka x1 hv => h2 _ σ H1 (S.ext x1) _ ka _ fun b vs H2 kb x2 hvs => q (a, b) (v :: vs) H2 kb (x1.trans x2) ⟨v, vs, rfl, (S.ext x1).rep x2 hv, hvs⟩
theorem as_nil : EAs E sls tNil r (fun k => k []) := fun O σ H S k hk Q q => q [] [] H hk (XX.refl S) .nil
theorem as_c {tr : TA} {c : PT α} {d : PT (List α)} (h : EV E sls te r c) (h2 : EAs E sls tr r d) : EAs E sls (tCons te tr) r (fun k => c fun a => d fun b => k (a :: b)) := fun O σ H S k hk Q q =>
  h _ σ H S _ hk _ fun a v H1 ka x1 hv => h2 _ σ H1 (S.ext x1) _ ka _ fun b vs H2 kb x2 hvs => q (a :: b) (v :: vs) H2 kb (x1.trans x2) (.cons ((S.ext x1).rep x2 hv) hvs)
theorem le_line {n : Nat} (h : n ≤ big) : n ≤ sizeLine := Nat.le_trans h (by decide)
theorem lt_line {n : Nat} (h : n < big) : n < sizeLine := Nat.lt_of_lt_of_le h (by decide)
/-- a tuple of different things; of things of one kind; a list -/
theorem ev_pr {f : RF K α} {ta : TA} (h : EA E sls ta f c) (hn : f.n ≤ 1000 := by exact of_decide_eq_true rfl) : EV E sls (tTup ta) (rPr f) c := fun O σ H S k hk Q q =>
  h _ σ H S k hk _ fun a vs H1 ka x1 hv => ⟨by rw [f.len hv]; exact Nat.le_trans hn (by decide), fun p np => by
    have n := (S.ext x1).new (u := .tup vs) np
    exact q a _ _ ka (x1.trans n.1) ⟨p, vs, rfl, .inl (by rw [hid_out n.2]; exact upd_same), f.mono (n.1.ex S.mo).ew hv⟩⟩
theorem ev_tup {ta : TA} {c : PT (List α)} (h : EAs E sls ta r c) : EV E sls (tTup ta) (rTup r) (fun k => c fun xs => xs.length ≤ big ∧ k xs) := fun O σ H S k hk Q q =>
  h _ σ H S _ hk _ fun xs vs H1 ka x1 hv => ⟨by rw [hv.length]; exact le_line ka.1, fun p np => by
    have n := (S.ext x1).new (u := .tup vs) np
    exact q xs _ _ ka.2 (x1.trans n.1) ⟨p, vs, rfl, .inl (by rw [hid_out n.2]; exact upd_same), pmap hv fun _ _ z => r.mono (n.1.ex S.mo).ew z, by rw [hv.length]; exact ka.1⟩⟩
theorem el_lst {ta : TA} {c : PT (List α)} (h : EAs E sls ta r c) : EL E sls (tLst ta) r (fun k => c fun xs => xs.length ≤ big ∧ k xs) := fun O σ H S k hk Q q =>
  h _ σ H S _ hk _ fun xs vs H1 ka x1 hv => ⟨by rw [hv.length]; exact le_line ka.1, fun p np => by
    have n := (S.ext x1).new (u := .lst vs) np
    have n0 : H p = none := by
      cases e : H p with
      | none => rfl
      | some u =>
        by_cases m : E.M p
        · obtain ⟨w, hw, _⟩ := E.there x1.2 p m
          rw [np] at hw; cases hw
        · have := x1.1 p u (by rw [hid_out m]; exact e)
          rw [(of_hid this).2] at np; cases np
    exact q xs p vs _ ka.2 (x1.trans n.1) n0 upd_same (by rw [hid_new np]; exact hv) (by rw [hv.length]; exact ka.1)⟩
end
end Nz

/-! Nz3: containers that are read, built-in calls, equality of data, calls of own defs. -/
namespace Nz
open PySem L2
variable {K : PySem.W.Frag} {O : Addr → Prop} {E : Eff} {sls : List (Sl K)}
section
variable {α β γ κ : Type} {te ta tb tc : TE} {r : R K α} {s : R K β} {c : PT α} {d : PT β}

/-! ### plain functions that the programs name -/
def insI (x : Int) : List Int → List Int
  | [] => [x]
  | y :: l => if x ≤ y then x :: y :: l else y :: insI x l
def sortI : List Int → List Int
  | [] => []
  | x :: l => insI x (sortI l)
def insU (x : Int) : List Int → List Int
  | [] => [x]
  | y :: l => if x < y then x :: y :: l else if x = y then y :: l else y :: insU x l
def sortU : List Int → List Int
  | [] => []
  | x :: l => insU x (sortU l)
theorem mem_insI {x y : Int} : ∀ {l : List Int}, y ∈ insI x l ↔ y = x ∨ y ∈ l
  | [] => by simp [insI]
  | z :: l => by
    unfold insI
    split
    · simp
    · rw [List.mem_cons, mem_insI, List.mem_cons]
      constructor <;> (intro h; rcases h with h | h | h <;> simp [h])
theorem perm_insI (x : Int) : ∀ l : List Int, (insI x l).Perm (x :: l)
  | [] => .refl _
  | z :: l => by
    unfold insI
    split
    · exact .refl _
    · exact ((perm_insI x l).cons z).trans (.swap x z l)
theorem perm_sortI : ∀ l : List Int, (sortI l).Perm l
  | [] => .refl _
  | x :: l => (perm_insI x _).trans ((perm_sortI l).cons x)
theorem pw_insI (x : Int) : ∀ {l : List Int}, l.Pairwise (· ≤ ·) → (insI x l).Pairwise (· ≤ ·)
  | [], _ => by simp [insI]
  | y :: l, h => by
    rw [List.pairwise_cons] at h
    unfold insI
    split
    · rename_i hx
      rw [List.pairwise_cons]
      refine ⟨fun z hz => ?_, List.pairwise_cons.mpr h⟩
      rcases List.mem_cons.mp hz with rfl | hz
      · exact hx
      · exact Int.le_trans hx (h.1 z hz)
    · rename_i hx
      rw [List.pairwise_cons]
      refine ⟨fun z hz => ?_, pw_insI x h.2⟩
      rcases mem_insI.mp hz with rfl | hz
      · omega
      · exact h.1 z hz
theorem pw_sortI : ∀ l : List Int, (sortI l).Pairwise (· ≤ ·)
  | [] => .nil
  | x :: l => pw_insI x (pw_sortI l)
theorem perm_le_unique : ∀ {l m : List Int}, l.Perm m → l.Pairwise (· ≤ ·) → m.Pairwise (· ≤ ·) → l = m
  | [], m, p, _, _ => (List.nil_perm.mp p).symm
  | x :: l, [], p, _, _ => (List.nil_perm.mp p.symm)
  | x :: l, y :: m, p, h, h' => by
    rw [List.pairwise_cons] at h h'
    have e : x = y := by
      have h1 : x ∈ y :: m := p.subset List.mem_cons_self
      have h2 : y ∈ x :: l := p.symm.subset List.mem_cons_self
      rcases List.mem_cons.mp h1 with e | h1
      · exact e
      · rcases List.mem_cons.mp h2 with e | h2
        · exact e.symm
        · have := h.1 y h2
          have := h'.1 x h1
          omega
    subst e
    rw [perm_le_unique (List.perm_cons _ |>.mp p) h.2 h'.2]
theorem sortI_eq {l m : List Int} (p : m.Perm l) (h : m.Pairwise (· ≤ ·)) : m = sortI l := perm_le_unique (p.trans (perm_sortI l).symm) h (pw_sortI l)
theorem mem_insU {x y : Int} : ∀ {l : List Int}, y ∈ insU x l ↔ y = x ∨ y ∈ l
  | [] => by simp [insU]
  | z :: l => by
    unfold insU
    split
    · simp
    · split
      · rename_i e
        subst e
        simp
      · rw [List.mem_cons, mem_insU, List.mem_cons]
        constructor <;> (intro h; rcases h with h | h | h <;> simp [h])
theorem mem_sortU {y : Int} : ∀ {l : List Int}, y ∈ sortU l ↔ y ∈ l
  | [] => by simp [sortU]
  | x :: l => by
    show y ∈ insU x (sortU l) ↔ _
    rw [mem_insU, mem_sortU, List.mem_cons]
theorem pw_insU (x : Int) : ∀ {l : List Int}, l.Pairwise (· < ·) → (insU x l).Pairwise (· < ·)
  | [], _ => by simp [insU]
  | y :: l, h => by
    rw [List.pairwise_cons] at h
    unfold insU
    split
    · rename_i hx
      rw [List.pairwise_cons]
      refine ⟨fun z hz => ?_, List.pairwise_cons.mpr h⟩
      rcases List.mem_cons.mp hz with rfl | hz
      · exact hx
      · exact Int.lt_trans hx (h.1 z hz)
    · split
      · exact List.pairwise_cons.mpr h
      · rename_i h1 h2
        rw [List.pairwise_cons]
        refine ⟨fun z hz => ?_, pw_insU x h.2⟩
        rcases mem_insU.mp hz with rfl | hz
        · omega
        · exact h.1 z hz
theorem pw_sortU : ∀ l : List Int, (sortU l).Pairwise (· < ·)
  | [] => .nil
  | x :: l => pw_insU x (pw_sortU l)
theorem lt_unique : ∀ {l m : List Int}, l.Pairwise (· < ·) → m.Pairwise (· < ·) → (∀ x, x ∈ l ↔ x ∈ m) → l = m
  | [], [], _, _, _ => rfl
  | [], y :: m, _, _, h => absurd ((h y).mpr List.mem_cons_self) (by simp)
  | x :: l, [], _, _, h => absurd ((h x).mp List.mem_cons_self) (by simp)
  | x :: l, y :: m, p, p', h => by
    have q := List.pairwise_cons.mp p
    have q' := List.pairwise_cons.mp p'
    have e : x = y := by
      have h1 := (h x).mp List.mem_cons_self
      have h2 := (h y).mpr List.mem_cons_self
      rcases List.mem_cons.mp h1 with e | h1
      · exact e
      · rcases List.mem_cons.mp h2 with e | h2
        · exact e.symm
        · have := q.1 y h2
          have := q'.1 x h1
          omega
    subst e
    rw [lt_unique q.2 q'.2 fun z => ?_]
    constructor
    · intro hz
      rcases List.mem_cons.mp ((h z).mp (List.mem_cons_of_mem _ hz)) with rfl | w
      · exact absurd (q.1 z hz) (Int.lt_irrefl _)
      · exact w
    · intro hz
      rcases List.mem_cons.mp ((h z).mpr (List.mem_cons_of_mem _ hz)) with rfl | w
      · exact absurd (q'.1 z hz) (Int.lt_irrefl _)
      · exact w
/-- range(n), range(a, b) -/
def rg (n : Int) : List Int := (List.range n.toNat).map fun i => ((i : Nat) : Int)
def rg2 (a b : Int) : List Int := (List.range (b - a).toNat).map fun i => a + ((i : Nat) : Int)
def maxL : List Int → Int
  | [] => 0
  | [x] => x
  | x :: y :: l => max x (maxL (y :: l))
def minL : List Int → Int
  | [] => 0
  | [x] => x
  | x :: y :: l => min x (minL (y :: l))
theorem maxL_spec : ∀ {l : List Int}, l ≠ [] → maxL l ∈ l ∧ ∀ y ∈ l, y ≤ maxL l
  | [], h => (h rfl).elim
  | [x], _ => by simp [maxL]
  | x :: y :: l, _ => by
    have ih := maxL_spec (l := y :: l) (by simp)
    show max x (maxL (y :: l)) ∈ _ ∧ ∀ z ∈ x :: y :: l, z ≤ max x (maxL (y :: l))
    refine ⟨?_, fun z hz => ?_⟩
    · rcases Int.le_total x (maxL (y :: l)) with h | h
      · rw [Int.max_eq_right h]; exact List.mem_cons_of_mem _ ih.1
      · rw [Int.max_eq_left h]; exact List.mem_cons_self
    · rcases List.mem_cons.mp hz with rfl | hz
      · omega
      · have := ih.2 z hz; omega
theorem minL_spec : ∀ {l : List Int}, l ≠ [] → minL l ∈ l ∧ ∀ y ∈ l, minL l ≤ y
  | [], h => (h rfl).elim
  | [x], _ => by simp [minL]
  | x :: y :: l, _ => by
    have ih := minL_spec (l := y :: l) (by simp)
    show min x (minL (y :: l)) ∈ _ ∧ ∀ z ∈ x :: y :: l, min x (minL (y :: l)) ≤ z
    refine ⟨?_, fun z hz => ?_⟩
    · rcases Int.le_total x (minL (y :: l)) with h | h
      · rw [Int.min_eq_left h]; exact List.mem_cons_self
      · rw [Int.min_eq_right h]; exact List.mem_cons_of_mem _ ih.1
    · rcases List.mem_cons.mp hz with rfl | hz
      · omega
      · have := ih.2 z hz; omega
/-- a slice -/
def cut (xs : List α) (lo hi : Option Int) : List α := (xs.drop (HT.sIx xs.length 0 lo)).take (HT.sIx xs.length xs.length hi - HT.sIx xs.length 0 lo)

/-! ### pairs of lists -/
theorem ints_of {H : Hp} : ∀ {vs : List V} {ns : List Int}, Paired ((rInt (K := K)).rp H) vs ns → vs = ns.map V.int
  | _, _, .nil => rfl
  | _, _, .cons h t => by
    have e : _ = V.int _ := h
    rw [e, ints_of t]
    rfl
theorem of_ints {H : Hp} : ∀ (ns : List Int), Paired ((rInt (K := K)).rp H) (ns.map V.int) ns
  | [] => .nil
  | n :: ns => .cons rfl (of_ints ns)
theorem bls_of {H : Hp} : ∀ {vs : List V} {ns : List Bool}, Paired ((rBl (K := K)).rp H) vs ns → vs = ns.map V.bl
  | _, _, .nil => rfl
  | _, _, .cons h t => by
    have e : _ = V.bl _ := h
    rw [e, bls_of t]
    rfl
theorem paired_get' {F : V → α → Prop} : ∀ {vs : List V} {xs : List α}, Paired F vs xs → ∀ {i : Nat} {a : α}, xs[i]? = some a → ∃ v, vs[i]? = some v ∧ F v a
  | _, _, .nil, _, _, e => by simp at e
  | _, _, .cons h _, 0, _, e => by
    simp at e; subst e; exact ⟨_, rfl, h⟩
  | _, _, .cons _ t, i + 1, _, e => by
    obtain ⟨v, h1, h2⟩ := paired_get' t (i := i) (by simpa using e)
    exact ⟨v, by simpa using h1, h2⟩
theorem paired_atI {F : V → α → Prop} {vs : List V} {xs : List α} (h : Paired F vs xs) {i : Int} {a : α} (e : atI xs i = some a) : ∃ v, atI vs i = some v ∧ F v a := by
  unfold atI at e ⊢
  rw [h.length]
  cases q : ixN xs.length i with
  | none => rw [q] at e; cases e
  | some j =>
    rw [q] at e
    exact paired_get' h e
theorem paired_drop {F : V → α → Prop} : ∀ (n : Nat) {vs : List V} {xs : List α}, Paired F vs xs → Paired F (vs.drop n) (xs.drop n)
  | 0, _, _, h => h
  | _ + 1, _, _, .nil => .nil
  | n + 1, _, _, .cons _ t => paired_drop n t
theorem paired_take {F : V → α → Prop} : ∀ (n : Nat) {vs : List V} {xs : List α}, Paired F vs xs → Paired F (vs.take n) (xs.take n)
  | 0, _, _, _ => .nil
  | _ + 1, _, _, .nil => .nil
  | n + 1, _, _, .cons h t => .cons h (paired_take n t)
theorem paired_cut {F : V → α → Prop} {vs : List V} {xs : List α} (h : Paired F vs xs) (lo hi : Option Int) : Paired F (cutV vs lo hi) (cut xs lo hi) := by
  unfold cutV cut
  rw [h.length]
  exact paired_take _ (paired_drop _ h)
theorem paired_app {F : V → α → Prop} : ∀ {vs ws : List V} {xs ys : List α}, Paired F vs xs → Paired F ws ys → Paired F (vs ++ ws) (xs ++ ys)
  | _, _, _, _, .nil, h => h
  | _, _, _, _, .cons a t, h => .cons a (paired_app t h)

/-! ### subscripts, slices -/
theorem ev_ixL {c : PT (List α)} {d : PT Int} (h : ERl E sls te r c) (hi : EV E sls ta rInt d) : EV E sls (tOp (rIxL K) te ta) r (fun k => c fun xs => d fun i => ∃ a, atI xs i = some a ∧ k a) := fun O σ H S k hk Q q =>
  h _ σ H S _ hk _ fun xs p vs H1 ka x1 hs hp hl => hi _ σ H1 (S.ext x1) _ ka _ fun i y H2 ⟨a, e, kb⟩ x2 hy => by
    obtain ⟨v, ev, hv⟩ := paired_atI hp e
    exact ⟨p, vs, i, v, rfl, hy, lun (rdL x2.1.ew hs), ev, q a v H2 kb (x1.trans x2) ((S.ext x1).rep x2 hv)⟩
theorem ev_ixT {c : PT (List α)} {d : PT Int} (h : ERt E sls te r c) (hi : EV E sls ta rInt d) : EV E sls (tOp (rIxT K) te ta) r (fun k => c fun xs => d fun i => ∃ a, atI xs i = some a ∧ k a) := fun O σ H S k hk Q q =>
  h _ σ H S _ hk _ fun xs p vs H1 ka x1 hs hp hl => hi _ σ H1 (S.ext x1) _ ka _ fun i y H2 ⟨a, e, kb⟩ x2 hy => by
    obtain ⟨v, ev, hv⟩ := paired_atI hp e
    exact ⟨p, vs, i, v, rfl, hy, (hs.mono x2.1.ew).of_hid.sq, ev, q a v H2 kb (x1.trans x2) ((S.ext x1).rep x2 hv)⟩
/-- a place of a tuple of different things -/
structure Fld (f : RF K α) (i : Int) (s : R K β) (g : α → β) : Prop where
  at_ : ∀ {H : Hp} {vs : List V} {a : α}, f.rp H vs a → ∃ v, atI vs i = some v ∧ s.rp H v (g a)
theorem fld_one {r : R K α} : Fld (f1 r) 0 r (fun a => a) := ⟨fun ⟨v, e, h⟩ => ⟨v, by subst e; rfl, h⟩⟩
theorem fld_0 {r : R K α} {f : RF K β} : Fld (fc r f) 0 r (·.1) := ⟨fun ⟨v, ws, e, h, _⟩ => ⟨v, by subst e; exact atI_nat (j := 0) rfl, h⟩⟩
theorem fld_s {r : R K α} {f : RF K β} {s : R K γ} {g : β → γ} {n : Nat} (h : Fld f (n : Int) s g) : Fld (fc r f) ((n + 1 : Nat) : Int) s (fun a => g a.2) := ⟨fun {H vs a} ⟨v, ws, e, _, hw⟩ => by
  subst e
  obtain ⟨w, hw1, hw2⟩ := h.at_ hw
  refine ⟨w, ?_, hw2⟩
  unfold atI ixN at hw1 ⊢
  simp only [List.length_cons] at *
  split at hw1
  · rename_i h1
    split at hw1
    · rename_i h2
      rw [if_pos (by omega), if_pos (by omega)]
      have e1 : ((n + 1 : Nat) : Int).toNat = n + 1 := by omega
      have e2 : ((n : Nat) : Int).toNat = n := by omega
      rw [e2] at hw1
      rw [e1]
      exact hw1
    · cases hw1
  · rename_i h1
    omega⟩
theorem ev_fld {f : RF K α} {i : Int} {s : R K β} {g : α → β} (F : Fld f i s g) (h : EV E sls te (rPr f) c) : EV E sls (tOp (rIxT K) te (tC (.int i))) s (fun k => c fun a => k (g a)) := fun O σ H S k hk Q q =>
  h _ σ H S _ hk _ fun a v H1 ka x1 ⟨p, vs, e, hs, hf⟩ => by
    subst e
    obtain ⟨w, e1, hw⟩ := F.at_ hf
    exact ⟨p, vs, i, w, rfl, rfl, hs.of_hid.sq, e1, q _ w H1 ka x1 hw⟩
theorem po_no : EP' E sls tNoPart (fun k => k none) := fun O σ H S k hk Q q => q none H hk (XX.refl S)
theorem po_yes {d : PT Int} (h : EV E sls ta rInt d) : EP' E sls (tPart ta) (fun k => d fun i => k (some i)) := fun O σ H S k hk Q q =>
  h _ σ H S _ hk _ fun i v H1 ka x hv => ⟨i, hv, q (some i) H1 ka x⟩
theorem cut_len (xs : List α) (lo hi : Option Int) : (cut xs lo hi).length ≤ xs.length := by
  unfold cut
  rw [List.length_take, List.length_drop]
  omega
theorem el_slL {c : PT (List α)} {tl th : TO} {dl dh : PT (Option Int)} (h : ERl E sls te r c) (hl : EP' E sls tl dl) (hh : EP' E sls th dh) : EL E sls (tSl (rSlL K) te tl th) r (fun k => c fun xs => dl fun lo => dh fun hi => k (cut xs lo hi)) := fun O σ H S k hk Q q =>
  h _ σ H S _ hk _ fun xs p vs H1 ka x1 hs hp hz => hl _ σ H1 (S.ext x1) _ ka _ fun lo H2 kb x2 => hh _ σ H2 ((S.ext x1).ext x2) _ kb _ fun hi H3 kc x3 => by
    have S3 := ((S.ext x1).ext x2).ext x3
    refine ⟨p, vs, rfl, lun (rdL x3.1.ew (rdL x2.1.ew hs)), fun P nP => ?_⟩
    have n := S3.new (u := .lst (cutV vs lo hi)) nP
    exact q _ P _ _ kc (((x1.trans x2).trans x3).trans n.1) (((x1.trans x2).trans x3).back nP) upd_same (by rw [hid_new nP]; exact pmap (paired_cut hp lo hi) fun _ _ z => ((S.ext x1).ext x2).rep x3 ((S.ext x1).rep x2 z)) (by rw [(paired_cut hp lo hi).length]; exact Nat.le_trans (cut_len _ _ _) (by rw [← hp.length]; exact hz))
theorem sIx_whole {xs : List α} {lo hi : Option Int} (h : HT.sIx xs.length 0 lo = 0 ∧ HT.sIx xs.length xs.length hi = xs.length) : cut xs lo hi = xs := by
  unfold cut
  rw [h.1, h.2, List.drop_zero, Nat.sub_zero, List.take_length]
theorem ev_slT {c : PT (List α)} {tl th : TO} {dl dh : PT (Option Int)} (h : EV E sls te (rTup r) c) (hl : EP' E sls tl dl) (hh : EP' E sls th dh) : EV E sls (tSl (rSlA K) te tl th) (rTup r) (fun k => c fun xs => dl fun lo => dh fun hi => k (cut xs lo hi)) := fun O σ H S k hk Q q =>
  h _ σ H S _ hk _ fun xs v H1 ka x1 ⟨p, vs, ep, hs, hp, hz⟩ => hl _ σ H1 (S.ext x1) _ ka _ fun lo H2 kb x2 => hh _ σ H2 ((S.ext x1).ext x2) _ kb _ fun hi H3 kc x3 => by
    subst ep
    have S2 := (S.ext x1).ext x2
    have S3 := S2.ext x3
    have hs3 : TpX K (hid H3 O) p vs := (hs.mono (x2.ex S.mo).ew).mono (x3.ex S.mo).ew
    have hp3 : Paired (r.rp (hid H3 O)) vs xs := pmap hp fun _ _ z => S2.rep x3 ((S.ext x1).rep x2 z)
    refine ⟨p, vs, rfl, hs3.of_hid.sq, fun w => ?_, fun _ P nP => ?_⟩
    · have e : cut xs lo hi = xs := sIx_whole (by rw [← hp.length]; exact w)
      rw [e] at kc
      exact q xs _ H3 kc ((x1.trans x2).trans x3) ⟨p, vs, rfl, hs3, hp3, hz⟩
    · have n := S3.new (u := .tup (cutV vs lo hi)) nP
      exact q _ _ _ kc (((x1.trans x2).trans x3).trans n.1) ⟨P, _, rfl, .inl (by rw [hid_out n.2]; exact upd_same), pmap (paired_cut hp3 lo hi) fun _ _ z => S3.rep n.1 z, by rw [(paired_cut hp lo hi).length]; exact Nat.le_trans (cut_len _ _ _) (by rw [← hp.length]; exact hz)⟩

/-! ### in, by flat items -/
structure FlEq (r : R K α) [DecidableEq α] : Prop where
  fl : ∀ {H v a}, r.rp H v a → flatV v = true
  eq : ∀ {H v w a b}, r.rp H v a → r.rp H w b → eqV v w = decide (a = b)
theorem fe_int : FlEq (rInt (K := K)) := ⟨fun {H v a} h => by rw [show v = .int a from h]; rfl, fun {H v w a b} h h' => by
  rw [show v = .int a from h, show w = .int b from h']
  show (a == b) = decide (a = b)
  by_cases e : a = b <;> simp [e]⟩
theorem fe_str : FlEq (rStr (K := K)) := ⟨fun {H v a} h => by rw [show v = .str a from h]; rfl, fun {H v w a b} h h' => by
  rw [show v = .str a from h, show w = .str b from h']
  show (a == b) = decide (a = b)
  by_cases e : a = b <;> simp [e]⟩
theorem all_fl [DecidableEq α] (F : FlEq r) {H : Hp} : ∀ {vs : List V} {xs : List α}, Paired (r.rp H) vs xs → vs.all flatV = true
  | _, _, .nil => rfl
  | _, _, .cons h t => by rw [List.all_cons, F.fl h, all_fl F t]; rfl
theorem inV_eq [DecidableEq α] (F : FlEq r) {H : Hp} {x : V} {a : α} (hx : r.rp H x a) : ∀ {vs : List V} {xs : List α}, Paired (r.rp H) vs xs → inV x vs = decide (a ∈ xs)
  | _, _, .nil => rfl
  | v :: vs, b :: xs, .cons h t => by
    show (eqV v x || inV x vs) = _
    rw [F.eq h hx, inV_eq F hx t]
    by_cases e : b = a
    · subst e; simp
    · have e' : ¬ a = b := fun z => e z.symm
      simp [e, e']
theorem ev_inS [DecidableEq α] (F : FlEq r) {c : PT α} {d : PT (List α)} (h1 : EV E sls ta r c) (h2 : ERs E sls tb r d) : EV E sls (tOp (rIn K false) ta tb) rBl (fun k => c fun a => d fun xs => k (decide (a ∈ xs))) := fun O σ H S k hk Q q =>
  h1 _ σ H S _ hk _ fun a x H1 ka x1 hx => h2 _ σ H1 (S.ext x1) _ ka _ fun xs p vs H2 kb x2 hs hp hl => by
    have hx2 := (S.ext x1).rep x2 hx
    refine ⟨p, vs, rfl, hs.elim (fun h => .inl (lunS h)) (fun h => .inr (tun h)), F.fl hx2, all_fl F hp, ?_⟩
    rw [if_neg Bool.false_ne_true]
    rw [inV_eq F hx2 hp]
    exact q _ _ H2 kb (x1.trans x2) rfl
theorem ev_niS [DecidableEq α] (F : FlEq r) {c : PT α} {d : PT (List α)} (h1 : EV E sls ta r c) (h2 : ERs E sls tb r d) : EV E sls (tOp (rIn K true) ta tb) rBl (fun k => c fun a => d fun xs => k (!decide (a ∈ xs))) := fun O σ H S k hk Q q =>
  h1 _ σ H S _ hk _ fun a x H1 ka x1 hx => h2 _ σ H1 (S.ext x1) _ ka _ fun xs p vs H2 kb x2 hs hp hl => by
    have hx2 := (S.ext x1).rep x2 hx
    refine ⟨p, vs, rfl, hs.elim (fun h => .inl (lunS h)) (fun h => .inr (tun h)), F.fl hx2, all_fl F hp, ?_⟩
    rw [if_pos rfl]
    rw [inV_eq F hx2 hp]
    exact q _ _ H2 kb (x1.trans x2) rfl

/-! ### calls of built-ins -/
def rLenS (K : PySem.W.Frag) : List V → Hp → VK → Prop := fun xs H Q => ∃ p ys, xs = [.ref p] ∧ (SqL K H p ys ∨ SqT K H p ys) ∧ Q (.int ys.length) H
theorem ev_lenS {c : PT (List α)} (h : ERs E sls te r c) : EV E sls (tCB (rLenS K) (tCons te tNil)) rInt (fun k => c fun xs => k (xs.length : Int)) := fun O σ H S k hk Q q =>
  h _ σ H S _ hk _ fun xs p vs H2 ka x hs hp hl => ⟨p, vs, rfl, hs.elim (fun h => .inl (lunS h)) (fun h => .inr (tun h)), q _ _ H2 ka x (by rw [hp.length]; rfl)⟩
theorem ev_all {c : PT (List Bool)} (h : ERl E sls te rBl c) : EV E sls (tCB (rAll K) (tCons te tNil)) rBl (fun k => c fun xs => k (xs.all id)) := fun O σ H S k hk Q q =>
  h _ σ H S _ hk _ fun xs p vs H2 ka x hs hp hl => ⟨p, xs, rfl, by rw [← bls_of hp]; exact lun hs, q _ _ H2 ka x rfl⟩
theorem ev_any {c : PT (List Bool)} (h : ERl E sls te rBl c) : EV E sls (tCB (rAny K) (tCons te tNil)) rBl (fun k => c fun xs => k (xs.any id)) := fun O σ H S k hk Q q =>
  h _ σ H S _ hk _ fun xs p vs H2 ka x hs hp hl => ⟨p, xs, rfl, by rw [← bls_of hp]; exact lun hs, q _ _ H2 ka x rfl⟩
theorem ev_sum {c : PT (List Int)} (h : ERl E sls te rInt c) : EV E sls (tCB (rSum K) (tCons te tNil)) rInt (fun k => c fun xs => k xs.sum) := fun O σ H S k hk Q q =>
  h _ σ H S _ hk _ fun xs p vs H2 ka x hs hp hl => ⟨p, xs, rfl, by rw [← ints_of hp]; exact lun hs, q _ _ H2 ka x rfl⟩
theorem ev_max {c : PT (List Int)} (h : ERl E sls te rInt c) : EV E sls (tCB (rMax K) (tCons te tNil)) rInt (fun k => c fun xs => xs ≠ [] ∧ k (maxL xs)) := fun O σ H S k hk Q q =>
  h _ σ H S _ hk _ fun xs p vs H2 ka x hs hp hl => ⟨p, xs, rfl, by rw [← ints_of hp]; exact lun hs, by have := ka.1; cases xs <;> simp_all, fun m hm hy => q _ _ H2 ka.2 x (by
    have sp := maxL_spec ka.1
    have e : m = maxL xs := Int.le_antisymm (sp.2 m hm) (hy _ sp.1)
    rw [e]; rfl)⟩
theorem ev_min {c : PT (List Int)} (h : ERl E sls te rInt c) : EV E sls (tCB (rMin K) (tCons te tNil)) rInt (fun k => c fun xs => xs ≠ [] ∧ k (minL xs)) := fun O σ H S k hk Q q =>
  h _ σ H S _ hk _ fun xs p vs H2 ka x hs hp hl => ⟨p, xs, rfl, by rw [← ints_of hp]; exact lun hs, by have := ka.1; cases xs <;> simp_all, fun m hm hy => q _ _ H2 ka.2 x (by
    have sp := minL_spec ka.1
    have e : m = minL xs := Int.le_antisymm (hy _ sp.1) (sp.2 m hm)
    rw [e]; rfl)⟩
theorem ev_max2 {c d : PT Int} (ha : EV E sls ta rInt c) (hb : EV E sls tb rInt d) : EV E sls (tCB (fun xs H Q => ∃ i j, xs = [.int i, .int j] ∧ Q (.int (if j > i then j else i)) H) (tCons ta (tCons tb tNil))) rInt (fun k => c fun a => d fun b => k (max a b)) := fun O σ H S k hk Q q =>
  ha _ σ H S _ hk _ fun a x H1 ka x1 hx => hb _ σ H1 (S.ext x1) _ ka _ fun b y H2 kb x2 hy => ⟨a, b, by rw [show x = .int a from hx, show y = .int b from hy], q _ _ H2 kb (x1.trans x2) (show V.int _ = V.int _ by congr 1; split <;> omega)⟩
theorem ev_min2 {c d : PT Int} (ha : EV E sls ta rInt c) (hb : EV E sls tb rInt d) : EV E sls (tCB (fun xs H Q => ∃ i j, xs = [.int i, .int j] ∧ Q (.int (if j < i then j else i)) H) (tCons ta (tCons tb tNil))) rInt (fun k => c fun a => d fun b => k (min a b)) := fun O σ H S k hk Q q =>
  ha _ σ H S _ hk _ fun a x H1 ka x1 hx => hb _ σ H1 (S.ext x1) _ ka _ fun b y H2 kb x2 hy => ⟨a, b, by rw [show x = .int a from hx, show y = .int b from hy], q _ _ H2 kb (x1.trans x2) (show V.int _ = V.int _ by congr 1; split <;> omega)⟩
/-- a new list of ints -/
theorem q_ints {σ : L2.St} {H H1 : Hp} {k : List Int → Prop} {Q : VK} (S : SL O E sls σ H) (x : XX E H H1) {ns : List Int} (kn : k ns) (hl : ns.length ≤ big)
    (q : ∀ xs p vs H2, k xs → XX E H H2 → H p = none → H2 p = some (.lst vs) → Paired ((rInt (K := K)).rp (hid H2 (wD O p))) vs xs → vs.length ≤ big → Q (.ref p) H2) {p : Addr} (np : H1 p = none) : Q (.ref p) (upd H1 p (.lst (ns.map V.int))) :=
  q ns p _ _ kn (x.trans ((S.ext x).new np).1) (x.back np) upd_same (of_ints ns) (by rw [List.length_map]; exact hl)
theorem el_sorted {c : PT (List Int)} (h : ERl E sls te rInt c) : EL E sls (tCB (rSortedI K) (tCons te tNil)) rInt (fun k => c fun xs => k (sortI xs)) := fun O σ H S k hk Q q =>
  h _ σ H S _ hk _ fun xs p vs H2 ka x hs hp hl => ⟨p, xs, rfl, by rw [← ints_of hp]; exact lun hs, fun ns' P pm pw nP => by
    rw [sortI_eq pm pw]
    exact q_ints S x ka (by rw [(perm_sortI xs).length_eq, ← hp.length]; exact hl) q nP⟩
def rSortedDI : List V → Hp → VK → Prop := fun xs H Q => ∃ (a : Addr) (kvs : List (Key × V)) (ks : List Int), xs = [.ref a] ∧ Rd H a (.dK kvs) ∧ kvs.map (·.1) = ks.map Sum.inl ∧ ks.length < 64 ∧
    ∀ (ys : List Int) (p : Addr), ys.Perm ks → ys.Pairwise (· ≤ ·) → H p = none → Q (.ref p) (upd H p (.lst (ys.map V.int)))
theorem keys_of {H : Hp} : ∀ {vs : List (Key × V)} {d : List (Int × α)}, Paired (DkRel kyI.enc r H) vs d → vs.map (·.1) = (d.map (·.1)).map Sum.inl
  | _, _, .nil => rfl
  | _, _, .cons h t => by
    rw [List.map_cons, List.map_cons, List.map_cons, keys_of t, h.1]
    rfl
theorem el_sortedD {c : PT (List (Int × α))} (h : ERd E sls te kyI r c) : EL E sls (tCB rSortedDI (tCons te tNil)) rInt (fun k => c fun d => d.length < 64 ∧ k (sortI (d.map (·.1)))) := fun O σ H S k hk Q q =>
  h _ σ H S _ hk _ fun d p vs H2 ka x hs hp hl => ⟨p, vs, d.map (·.1), rfl, (rd_hid.mp hs).2, keys_of hp, by rw [List.length_map]; exact ka.1, fun ns' P pm pw nP => by
    rw [sortI_eq pm pw]
    exact q_ints S x ka.2 (by rw [(perm_sortI _).length_eq, List.length_map]; have := ka.1; show d.length ≤ 100000; omega) q nP⟩
def rLenD : List V → Hp → VK → Prop := fun xs H Q => ∃ (p : Addr) (kvs : List (Key × V)), xs = [.ref p] ∧ Rd H p (.dK kvs) ∧ Q (.int ((kvs.length : Nat) : Int)) H
theorem call_lenDR {X : Cx} : CallR X (.builtin "len") rLenD := by
  intro pins s σ H xs us Q I r h
  obtain ⟨p, kvs, rfl, hd, q⟩ := h
  obtain ⟨u, rfl, ru⟩ := vals1 r
  cases ru
  exact d_len I hd fun t s' I' => ⟨.int _, H, I', ⟨_, rfl⟩, q⟩
theorem ev_lenD {e : Ky κ} {c : PT (List (κ × α))} (h : ERd E sls te e r c) : EV E sls (tCB rLenD (tCons te tNil)) rInt (fun k => c fun xs => k (xs.length : Int)) := fun O σ H S k hk Q q =>
  h _ σ H S _ hk _ fun xs p vs H2 ka x hs hp hl => ⟨p, vs, rfl, (rd_hid.mp hs).2, q _ _ H2 ka x (by rw [hp.length]; rfl)⟩
theorem et_truD' {X : Cx} : TruR X (fun x H Q => ∃ p kvs, x = .ref p ∧ Rd H p (.dK kvs) ∧ Q (!kvs.isEmpty) H) := by
  intro pins s σ H x v Q I rx h
  obtain ⟨p, kvs, rfl, hd, q⟩ := h
  cases rx
  exact d_truth I hd fun s' I' => ⟨H, I', q⟩
def tTruD (te : TE) : TT := fun σ H Q => te σ H fun x H1 => ∃ p kvs, x = .ref p ∧ Rd H1 p (.dK kvs) ∧ Q (!kvs.isEmpty) H1
theorem pt_truD {X : Cx} {a : Expr} {ta : TE} (ha : PE X a ta) (he : ∀ whole, isTrue a X.env whole = (do let v ← whole; standAt a.pos; holding [v] (truthy v))) : L2.PT X a (tTruD ta) := by
  refine ⟨fun pins s σ H Q I h => ?_⟩
  exact PyProof.Rows.isTrue_plain (thn (ha.run pins s σ H _ I h) fun v s1 ⟨x, H1, I1, r1, q1⟩ => et_truD' pins s1 σ H1 x v Q I1 r1 q1) (he _)
theorem et_truD {e : Ky κ} {c : PT (List (κ × α))} (h : ERd E sls te e r c) : ET E sls (tTruD te) (fun k => c fun xs => k (!xs.isEmpty)) := fun O σ H S k hk Q q =>
  h _ σ H S _ hk _ fun xs p vs H2 ka x hs hp hl => ⟨p, vs, rfl, (rd_hid.mp hs).2, by
    have e : vs.isEmpty = xs.isEmpty := by cases hp <;> rfl
    rw [e]
    exact q _ H2 ka x⟩
def rListS (K : PySem.W.Frag) : List V → Hp → VK → Prop := fun xs H Q => ∃ p ys, xs = [.ref p] ∧ (SqL K H p ys ∨ SqT K H p ys) ∧ ∀ l, H l = none → Q (.ref l) (upd H l (.lst ys))
theorem el_list {c : PT (List α)} (h : ERs E sls te r c) : EL E sls (tCB (rListS K) (tCons te tNil)) r c := fun O σ H S k hk Q q =>
  h _ σ H S _ hk _ fun xs p vs H2 ka x hs hp hl => ⟨p, vs, rfl, hs.elim (fun h => .inl (lunS h)) (fun h => .inr (tun h)), fun P nP => by
    have n := (S.ext x).new (u := .lst vs) nP
    exact q xs P vs _ ka (x.trans n.1) (x.back nP) upd_same (by rw [hid_new nP]; exact hp) hl⟩
/-- tuple(a list) -/
def rTupS (K : PySem.W.Frag) : List V → Hp → VK → Prop := fun xs H Q => ∃ p ys, xs = [.ref p] ∧ ((SqL K H p ys ∧ ∀ l, H l = none → Q (.ref l) (upd H l (.tup ys))) ∨ (SqT K H p ys ∧ Q (.ref p) H))
theorem ev_tupL {c : PT (List α)} (h : ERl E sls te r c) : EV E sls (tCB (rTupS K) (tCons te tNil)) (rTup r) c := fun O σ H S k hk Q q =>
  h _ σ H S _ hk _ fun xs p vs H2 ka x hs hp hl => ⟨p, vs, rfl, .inl ⟨lun hs, fun P nP => by
    have n := (S.ext x).new (u := .tup vs) nP
    exact q xs _ _ ka (x.trans n.1) ⟨P, vs, rfl, .inl (by rw [hid_out n.2]; exact upd_same), pmap hp fun _ _ z => (S.ext x).rep n.1 z, hl⟩⟩⟩
theorem ev_tupT {c : PT (List α)} (h : EV E sls te (rTup r) c) : EV E sls (tCB (rTupS K) (tCons te tNil)) (rTup r) c := fun O σ H S k hk Q q =>
  h _ σ H S _ hk _ fun xs v H2 ka x ⟨p, vs, e, hs, hp, hl⟩ => by
    subst e
    exact ⟨p, vs, rfl, .inr ⟨hs.of_hid.sq, q xs _ H2 ka x ⟨p, vs, rfl, hs, hp, hl⟩⟩⟩
theorem el_listD {c : PT (List (Int × α))} (h : ED E sls te kyI r c) : EL E sls (tCB rListD (tCons te tNil)) rInt (fun k => c fun d => k (d.map (·.1))) := fun O σ H S k hk Q q =>
  h _ σ H S _ hk _ fun d p vs H2 ka x np hs hp hl => ⟨p, vs, rfl, hs, fun P nP => by
    have e : (vs.map fun kv => kV kv.1) = (d.map (·.1)).map V.int := by
      have := congrArg (List.map kV) (keys_of hp)
      rw [List.map_map, List.map_map] at this
      rw [show (vs.map fun kv => kV kv.1) = vs.map (kV ∘ fun x => x.1) from rfl, this]
      rfl
    rw [e]
    exact q_ints S x ka (by rw [List.length_map, ← hp.length]; exact hl) q nP⟩
/-- int(n) of an int -/
theorem ev_intI {c : PT Int} (h : EV E sls te rInt c) : EV E sls (tCB (fun xs H Q => (∃ i, xs = [.int i] ∧ Q (.int i) H) ∨ ∃ k, xs = [.bl k] ∧ Q (.int (if k then 1 else 0)) H) (tCons te tNil)) rInt c := fun O σ H S k hk Q q =>
  h _ σ H S _ hk _ fun a x H1 ka x1 hx => .inl ⟨a, by rw [show x = .int a from hx], q a _ H1 ka x1 rfl⟩
theorem ev_abs {c : PT Int} (h : EV E sls te rInt c) : EV E sls (tCB (fun xs H Q => ∃ i, xs = [.int i] ∧ Q (.int (if i < 0 then -i else i)) H) (tCons te tNil)) rInt (fun k => c fun a => k (if a < 0 then -a else a)) := fun O σ H S k hk Q q =>
  h _ σ H S _ hk _ fun a x H1 ka x1 hx => ⟨a, by rw [show x = .int a from hx], q _ _ H1 ka x1 rfl⟩

/-! ### lists and tuples joined, repeated -/
theorem ev_catT {c d : PT (List α)} (h1 : EV E sls ta (rTup r) c) (h2 : EV E sls tb (rTup r) d) : EV E sls (tOp (rCatA K) ta tb) (rTup r) (fun k => c fun a => d fun b => (a ++ b).length ≤ big ∧ k (a ++ b)) := fun O σ H S k hk Q q =>
  h1 _ σ H S _ hk _ fun a v H1 ka x1 hv => h2 _ σ H1 (S.ext x1) _ ka _ fun b w H2 kb x2 ⟨p2, vs2, e2, hs2, hp2, hl2⟩ => by
    have S2 := (S.ext x1).ext x2
    obtain ⟨p1, vs1, e1, hs1, hp1, hl1⟩ := (S.ext x1).rep x2 hv
    subst e1 e2
    have hz := kb.1
    rw [List.length_append, ← hp1.length, ← hp2.length] at hz
    refine ⟨p1, p2, vs1, vs2, rfl, rfl, hs1.of_hid.sq, hs2.of_hid.sq, le_line hz, fun z => ?_, fun _ z => ?_, fun _ _ P nP => ?_⟩
    · subst z
      cases hp1
      exact q _ _ H2 kb.2 (x1.trans x2) ⟨p2, vs2, rfl, hs2, hp2, hl2⟩
    · subst z
      cases hp2
      have kb2 := kb.2
      rw [List.append_nil] at kb2
      exact q _ _ H2 kb2 (x1.trans x2) ⟨p1, vs1, rfl, hs1, hp1, hl1⟩
    · have n := S2.new (u := .tup (vs1 ++ vs2)) nP
      exact q _ _ _ kb.2 ((x1.trans x2).trans n.1) ⟨P, _, rfl, .inl (by rw [hid_out n.2]; exact upd_same), pmap (paired_app hp1 hp2) fun _ _ z => S2.rep n.1 z, by rw [List.length_append]; exact hz⟩
/-- xs + ys, whatever lists: by what they are read as -/
def rCatL : R2 := fun x y H Q => ∃ l b xs zs, x = .ref l ∧ y = .ref b ∧ Rd H l (.lst xs) ∧ Rd H b (.lst zs) ∧ xs.length + zs.length ≤ sizeLine ∧ ∀ p, H p = none → Q (.ref p) (upd H p (.lst (xs ++ zs)))
theorem el_catL {c d : PT (List α)} (h1 : ERl E sls ta r c) (h2 : ERl E sls tb r d) : EL E sls (tOp rCatL ta tb) r (fun k => c fun a => d fun b => (a ++ b).length ≤ big ∧ k (a ++ b)) := fun O σ H S k hk Q q =>
  h1 _ σ H S _ hk _ fun a p1 vs1 H1 ka x1 hs1 hp1 hl1 => h2 _ σ H1 (S.ext x1) _ ka _ fun b p2 vs2 H2 kb x2 hs2 hp2 hl2 => by
    have S2 := (S.ext x1).ext x2
    have hp1' : Paired (r.rp (hid H2 O)) vs1 a := pmap hp1 fun _ _ z => (S.ext x1).rep x2 z
    have hz := kb.1
    rw [List.length_append, ← hp1.length, ← hp2.length] at hz
    refine ⟨p1, p2, vs1, vs2, rfl, rfl, (rd_hid.mp (rdL x2.1.ew hs1)).2, (rd_hid.mp hs2).2, le_line hz, fun P nP => ?_⟩
    have n := S2.new (u := .lst (vs1 ++ vs2)) nP
    exact q _ P _ _ kb.2 ((x1.trans x2).trans n.1) ((x1.trans x2).back nP) upd_same (by rw [hid_new nP]; exact paired_app hp1' hp2) (by rw [List.length_append]; exact hz)

/-! ### == of data -/
structure Da (r : R K α) where
  enc : α → PyData
  dp : ∀ {H v a}, r.rp H v a → Dp K H v (enc a)
  lay : ∀ a, (enc a).canLay0 = true
  dep : Nat
  dle : ∀ a, (enc a).depth ≤ dep
  inj : ∀ a b, PyData.eqv (enc a) (enc b) = true ↔ a = b
def da_int : Da (rInt (K := K)) := ⟨.int, fun {H v a} h => by rw [show v = .int a from h]; exact .int a, fun _ => rfl, 0, fun _ => Nat.le_refl _, fun a b => by simp [PyData.eqv]⟩
def da_bl : Da (rBl (K := K)) := ⟨.bool, fun {H v a} h => by rw [show v = .bl a from h]; exact .bl a, fun _ => rfl, 0, fun _ => Nat.le_refl _, fun a b => by simp [PyData.eqv]⟩
def encO (D : Da r) : Option α → PyData
  | none => .none
  | some a => D.enc a
theorem enc_nn (D : Da r) (nn : ∀ a, D.enc a ≠ .none) (a : α) : PyData.eqv (D.enc a) .none = false ∧ PyData.eqv .none (D.enc a) = false := by
  have := nn a
  cases h : D.enc a with
  | none => exact (this h).elim
  | bool _ => simp [PyData.eqv]
  | int _ => simp [PyData.eqv]
  | str _ => simp [PyData.eqv]
  | list _ => simp [PyData.eqv]
  | tuple _ => simp [PyData.eqv]
  | dict _ => simp [PyData.eqv]
def da_opt (D : Da r) (nn : ∀ a, D.enc a ≠ .none) : Da (rOpt r) := ⟨encO D, fun {H v a} h => by
    cases a with
    | none => rw [show v = .non from h]; exact .non
    | some x => exact D.dp h.2, fun a => by
    cases a with
    | none => rfl
    | some x => exact D.lay x, D.dep, fun a => by
    cases a with
    | none => exact Nat.zero_le _
    | some x => exact D.dle x, fun a b => by
    cases a with
    | none =>
      cases b with
      | none => simp [encO, PyData.eqv]
      | some y => simp [encO, (enc_nn D nn y).2]
    | some x =>
      cases b with
      | none => simp [encO, (enc_nn D nn x).1]
      | some y => simp [encO, D.inj]⟩
theorem dpAll (D : Da r) {H : Hp} : ∀ {vs : List V} {xs : List α}, Paired (r.rp H) vs xs → DpAll K H vs (xs.map D.enc)
  | _, _, .nil => .nil
  | _, _, .cons h t => .cons (D.dp h) (dpAll D t)
theorem layAll (D : Da r) : ∀ xs : List α, PyData.canLayAll0 (xs.map D.enc) = true
  | [] => rfl
  | x :: xs => by
    rw [List.map_cons, PyData.canLayAll0, D.lay x, layAll D xs]
    rfl
theorem depAll (D : Da r) : ∀ xs : List α, PyData.depthAll (xs.map D.enc) ≤ D.dep
  | [] => Nat.zero_le _
  | x :: xs => by
    rw [List.map_cons, PyData.depthAll]
    exact Nat.max_le.mpr ⟨D.dle x, depAll D xs⟩
theorem injAll (D : Da r) : ∀ xs ys : List α, PyData.eqvAll (xs.map D.enc) (ys.map D.enc) = true ↔ xs = ys
  | [], [] => by simp [PyData.eqvAll]
  | [], y :: ys => by simp [PyData.eqvAll]
  | x :: xs, [] => by simp [PyData.eqvAll]
  | x :: xs, y :: ys => by simp [PyData.eqvAll, D.inj, injAll D xs ys]
theorem SqT.of_hidO {H : Hp} {O : Addr → Prop} {p : Addr} {vs : List V} (h : TpX K (hid H O) p vs) : SqT K (hid H O) p vs := h.sq
def da_tup (D : Da r) : Da (rTup r) := ⟨fun xs => .tuple (xs.map D.enc), fun {H v a} ⟨p, vs, e, hs, hp, _⟩ => by
    subst e
    exact .tup hs.sq (dpAll D hp), fun a => by rw [PyData.canLay0]; exact layAll D a, D.dep + 1, fun a => by rw [PyData.depth]; exact Nat.succ_le_succ (depAll D a), fun a b => by rw [PyData.eqv]; exact injAll D a b⟩
def da_lst (D : Da r) : Da (rLst r) := ⟨fun xs => .list (xs.map D.enc), fun {H v a} ⟨p, vs, e, hs, hp, _⟩ => by
    subst e
    exact .lst (.inl hs) (dpAll D hp), fun a => by rw [PyData.canLay0]; exact layAll D a, D.dep + 1, fun a => by rw [PyData.depth]; exact Nat.succ_le_succ (depAll D a), fun a b => by rw [PyData.eqv]; exact injAll D a b⟩
structure Das (f : RF K α) where
  enc : α → List PyData
  dp : ∀ {H v a}, f.rp H v a → DpAll K H v (enc a)
  lay : ∀ a, PyData.canLayAll0 (enc a) = true
  dep : Nat
  dle : ∀ a, PyData.depthAll (enc a) ≤ dep
  inj : ∀ a b, PyData.eqvAll (enc a) (enc b) = true ↔ a = b
def das_1 (D : Da r) : Das (f1 r) := ⟨fun a => [D.enc a], fun {H v a} ⟨w, e, h⟩ => by subst e; exact .cons (D.dp h) .nil, fun a => by simp [PyData.canLayAll0, D.lay], D.dep, fun a => by simp [PyData.depthAll, D.dle], fun a b => by simp [PyData.eqvAll, D.inj]⟩
def das_c {f : RF K β} (D : Da r) (F : Das f) : Das (fc r f) := ⟨fun a => D.enc a.1 :: F.enc a.2, fun {H v a} ⟨w, ws, e, h, h2⟩ => by subst e; exact .cons (D.dp h) (F.dp h2), fun a => by simp [PyData.canLayAll0, D.lay, F.lay], max D.dep F.dep,
  fun a => by
    rw [PyData.depthAll]
    have h1 := D.dle a.1
    have h2 := F.dle a.2
    omega, fun a b => by
    obtain ⟨a1, a2⟩ := a
    obtain ⟨b1, b2⟩ := b
    simp [PyData.eqvAll, D.inj, F.inj]⟩
def da_pr {f : RF K α} (F : Das f) : Da (rPr f) := ⟨fun a => .tuple (F.enc a), fun {H v a} ⟨p, vs, e, hs, hf⟩ => by
    subst e
    exact .tup hs.sq (F.dp hf), fun a => by rw [PyData.canLay0]; exact F.lay a, F.dep + 1, fun a => by rw [PyData.depth]; exact Nat.succ_le_succ (F.dle a), fun a b => by rw [PyData.eqv]; exact F.inj a b⟩
theorem Da.sh (D : Da r) (h : D.dep ≤ 64) (a : α) : SeqAt.shaped (D.enc a) = true := by
  unfold SeqAt.shaped
  rw [D.lay a, decide_eq_true (Nat.le_trans (D.dle a) h)]
  rfl
theorem eqv_dec [DecidableEq α] (D : Da r) (a b : α) : PyData.eqv (D.enc a) (D.enc b) = decide (a = b) := by
  by_cases e : a = b
  · rw [decide_eq_true e]; exact (D.inj a b).mpr e
  · rw [decide_eq_false e]
    cases h : PyData.eqv (D.enc a) (D.enc b) with
    | false => rfl
    | true => exact (e ((D.inj a b).mp h)).elim
mutual
theorem dp_unhid {H : Hp} {M : Addr → Prop} : ∀ (d : PyData) (v : V), Dp K (hid H M) v d → Dp K H v d
  | .none, _, h => by cases h; exact .non
  | .bool b, _, h => by cases h; exact .bl b
  | .int b, _, h => by cases h; exact .int b
  | .str b, _, h => by cases h; exact .str b
  | .list ds, _, h => by
    cases h with
    | lst hs ha => exact .lst (lunS hs) (dpAll_unhid ds _ ha)
  | .tuple ds, _, h => by
    cases h with
    | tup hs ha => exact .tup (tun hs) (dpAll_unhid ds _ ha)
  | .dict _, _, h => by cases h
theorem dpAll_unhid {H : Hp} {M : Addr → Prop} : ∀ (ds : List PyData) (vs : List V), DpAll K (hid H M) vs ds → DpAll K H vs ds
  | [], _, h => by cases h; exact .nil
  | d :: ds, _, h => by
    cases h with
    | cons h1 h2 => exact .cons (dp_unhid d _ h1) (dpAll_unhid ds _ h2)
end
theorem ev_eqD [DecidableEq α] (D : Da r) {c d : PT α} (h1 : EV E sls ta r c) (h2 : EV E sls tb r d) (hd : D.dep ≤ 64 := by exact of_decide_eq_true rfl) : EV E sls (tOp (rEqD K) ta tb) rBl (fun k => c fun a => d fun b => k (decide (a = b))) :=
  ev_bin (R' := Int) (g := fun a b k => k (decide (a = b))) h1 h2 fun O σ H a b x y S hx hy k hk Q q =>
    ⟨D.enc a, D.enc b, dp_unhid _ _ (D.dp hx), dp_unhid _ _ (D.dp hy), D.sh hd a, D.sh hd b, by rw [eqv_dec]; exact q _ _ H hk (XX.refl S) rfl⟩
theorem ev_neD [DecidableEq α] (D : Da r) {c d : PT α} (h1 : EV E sls ta r c) (h2 : EV E sls tb r d) (hd : D.dep ≤ 64 := by exact of_decide_eq_true rfl) : EV E sls (tOp (rNeD K) ta tb) rBl (fun k => c fun a => d fun b => k (!decide (a = b))) :=
  ev_bin (R' := Int) (g := fun a b k => k (!decide (a = b))) h1 h2 fun O σ H a b x y S hx hy k hk Q q =>
    ⟨D.enc a, D.enc b, dp_unhid _ _ (D.dp hx), dp_unhid _ _ (D.dp hy), D.sh hd a, D.sh hd b, by rw [eqv_dec]; exact q _ _ H hk (XX.refl S) rfl⟩

/-! ### dicts -/
theorem rdK {H H' : Hp} {p : Addr} {vs : List (Key × V)} (w : Ew H H') (h : Rd H p (.dK vs)) : Rd H' p (.dK vs) := w.rd p _ True.intro h
theorem rdT {H H' : Hp} {p : Addr} {vs : List (List Key × V)} (w : Ew H H') (h : Rd H p (.dT vs)) : Rd H' p (.dT vs) := w.rd p _ True.intro h
theorem paired_dgetK [DecidableEq κ] {e : Ky κ} {H : Hp} {a : κ} : ∀ {vs : List (Key × V)} {d : List (κ × α)}, Paired (DkRel e.enc r H) vs d → (match dget d a with | none => valV vs (e.enc a) = none | some b => ∃ v, valV vs (e.enc a) = some v ∧ r.rp H v b)
  | _, _, .nil => rfl
  | p :: vs, q :: d, .cons h t => by
    unfold dget
    by_cases c : q.1 = a
    · rw [if_pos c]
      exact ⟨p.2, valV_pos (by rw [h.1, c]), h.2⟩
    · rw [if_neg c]
      have := paired_dgetK (a := a) t
      rw [valV_neg (fun z => c (e.inj _ _ (by rw [← h.1, z])))]
      exact this
theorem paired_dgetT [DecidableEq κ] {e : Kt κ} {H : Hp} {a : κ} : ∀ {vs : List (List Key × V)} {d : List (κ × α)}, Paired (DtRel e.enc r H) vs d → (match dget d a with | none => valV vs (e.enc a) = none | some b => ∃ v, valV vs (e.enc a) = some v ∧ r.rp H v b)
  | _, _, .nil => rfl
  | p :: vs, q :: d, .cons h t => by
    unfold dget
    by_cases c : q.1 = a
    · rw [if_pos c]
      exact ⟨p.2, valV_pos (by rw [h.1, c]), h.2⟩
    · rw [if_neg c]
      have := paired_dgetT (a := a) t
      rw [valV_neg (fun z => c (e.inj _ _ (by rw [← h.1, z])))]
      exact this
/-- a value that is a key -/
structure KyR (r : R K κ) (e : Ky κ) : Prop where
  is : ∀ {H v a}, r.rp H v a → v = kV (e.enc a)
theorem kyr_int : KyR (rInt (K := K)) kyI := ⟨fun h => h⟩
theorem kyr_str : KyR (rStr (K := K)) kyS := ⟨fun h => h⟩
structure KtR (r : R K κ) (e : Kt κ) : Prop where
  is : ∀ {H v a}, r.rp H v a → ∃ p, v = .ref p ∧ (H p = some (.tup ((e.enc a).map kV)) ∨ ∃ (o : Obj) (its : Array Value) (n : Nat), K.lookup p = some o ∧ o.cls = .type "tuple" ∧ o.data = .seq its n ∧ its.size ≤ sizeLine ∧ Vals ((e.enc a).map kV) its.toList)
theorem ev_dget [DecidableEq κ] {e : Ky κ} {rk : R K κ} {c : PT (List (κ × α))} {d : PT κ} (R' : KyR rk e) (h : ERd E sls te e r c) (hi : EV E sls ta rk d) : EV E sls (tDGet te ta) r (fun k => c fun xs => d fun i => ∃ a, dget xs i = some a ∧ k a) := fun O σ H S k hk Q q =>
  h _ σ H S _ hk _ fun xs p vs H1 ka x1 hs hp hl => hi _ σ H1 (S.ext x1) _ ka _ fun i y H2 ⟨a, ea, kb⟩ x2 hy => by
    have hp2 : Paired (DkRel e.enc r (hid H2 O)) vs xs := pmap hp fun _ _ z => ⟨z.1, (S.ext x1).rep x2 z.2⟩
    have := paired_dgetK (a := i) hp2
    rw [ea] at this
    obtain ⟨v, ev, hv⟩ := this
    refine ⟨p, v, rfl, .inl ⟨vs, e.enc i, (rd_hid.mp (rdK x2.1.ew hs)).2, R'.is hy, ev.symm⟩, q a v H2 kb (x1.trans x2) hv⟩
theorem ev_din [DecidableEq κ] {e : Ky κ} {rk : R K κ} {c : PT (List (κ × α))} {d : PT κ} (R' : KyR rk e) (hi : EV E sls ta rk d) (h : ERd E sls te e r c) : EV E sls (tDIn ta te) rBl (fun k => d fun i => c fun xs => k (dget xs i).isSome) := fun O σ H S k hk Q q =>
  hi _ σ H S _ hk _ fun i y H1 ka x1 hy => h _ σ H1 (S.ext x1) _ ka _ fun xs p vs H2 kb x2 hs hp hl => by
    have := paired_dgetK (a := i) hp
    refine ⟨p, valV vs (e.enc i), rfl, .inl ⟨vs, e.enc i, (rd_hid.mp hs).2, R'.is ((S.ext x1).rep x2 hy), rfl⟩, q _ _ H2 kb (x1.trans x2) (show V.bl _ = V.bl _ by
      cases g : dget xs i with
      | none => rw [g] at this; rw [this]; rfl
      | some b => rw [g] at this; obtain ⟨v, ev, _⟩ := this; rw [ev]; rfl)⟩
theorem ev_dni [DecidableEq κ] {e : Ky κ} {rk : R K κ} {c : PT (List (κ × α))} {d : PT κ} (R' : KyR rk e) (hi : EV E sls ta rk d) (h : ERd E sls te e r c) : EV E sls (tDNotIn ta te) rBl (fun k => d fun i => c fun xs => k (!(dget xs i).isSome)) := fun O σ H S k hk Q q =>
  hi _ σ H S _ hk _ fun i y H1 ka x1 hy => h _ σ H1 (S.ext x1) _ ka _ fun xs p vs H2 kb x2 hs hp hl => by
    have := paired_dgetK (a := i) hp
    refine ⟨p, valV vs (e.enc i), rfl, .inl ⟨vs, e.enc i, (rd_hid.mp hs).2, R'.is ((S.ext x1).rep x2 hy), rfl⟩, q _ _ H2 kb (x1.trans x2) (show V.bl _ = V.bl _ by
      cases g : dget xs i with
      | none => rw [g] at this; rw [this]; rfl
      | some b => rw [g] at this; obtain ⟨v, ev, _⟩ := this; rw [ev]; rfl)⟩
/-- keys that are tuples, shown as they are made -/
structure KtX (f : RF K κ) (e : Kt κ) : Prop where
  is : ∀ {H vs a}, f.rp H vs a → vs = (e.enc a).map kV
theorem ktx_ii {μ : Type} {rk : R K κ} {rm : R K μ} {ek : Ky κ} {em : Ky μ} (h1 : KyR rk ek) (h2 : KyR rm em) : KtX (fc rk (f1 rm)) (ktP ek em) := ⟨fun {H vs a} ⟨v, ws, e, hv, ⟨w, e2, hw⟩⟩ => by
  subst e e2
  rw [h1.is hv, h2.is hw]
  rfl⟩
theorem ev_dtget [DecidableEq κ] {e : Kt κ} {f : RF K κ} {c : PT (List (κ × α))} {tk : TA} {d : PT κ} (R' : KtX f e) (h : ERdt E sls te e r c) (hi : EA E sls tk f d) (hn : f.n ≤ 1000 := by exact of_decide_eq_true rfl) : EV E sls (tDGet te (tTup tk)) r (fun k => c fun xs => d fun i => ∃ a, dget xs i = some a ∧ k a) := fun O σ H S k hk Q q =>
  h _ σ H S _ hk _ fun xs p vs H1 ka x1 hs hp hl => hi _ σ H1 (S.ext x1) _ ka _ fun i ys H2 ⟨a, ea, kb⟩ x2 hy => by
    have hp2 : Paired (DtRel e.enc r (hid H2 O)) vs xs := pmap hp fun _ _ z => ⟨z.1, (S.ext x1).rep x2 z.2⟩
    refine ⟨by rw [f.len hy]; exact Nat.le_trans hn (by decide), fun P nP => ?_⟩
    have S2 := (S.ext x1).ext x2
    have n := S2.new (u := .tup ys) nP
    have hp3 : Paired (DtRel e.enc r (hid (upd H2 P (.tup ys)) O)) vs xs := pmap hp2 fun _ _ z => ⟨z.1, S2.rep n.1 z.2⟩
    have := paired_dgetT (a := i) hp3
    rw [ea] at this
    obtain ⟨v, ev, hv⟩ := this
    have hs3 := rdT n.1.1.ew (rdT x2.1.ew hs)
    exact ⟨p, v, rfl, .inr ⟨vs, e.enc i, P, (rd_hid.mp hs3).2, rfl, by rw [upd_same, R'.is hy], ev.symm⟩, q a v _ kb ((x1.trans x2).trans n.1) hv⟩
end
end Nz

/-! Nz4: what is walked; comprehensions; locks; calls of own defs. -/
namespace Nz
open PySem L2
variable {K : PySem.W.Frag} {O : Addr → Prop} {E : Eff} {sls : List (Sl K)}
section
variable {α β γ κ : Type} {te ta tb tc : TE} {r : R K α} {s : R K β} {c : PT α} {d : PT β}

/-! ### what is walked: F, B: the heap in which the items, the walked thing stand -/
structure IW (F B : Hp) (r : R K α) (xs : List α) (J : It) : Prop where
  len : xs.length ≤ big
  go : ∀ i H3, i < xs.length → Ef B H3 → J.go i H3
  stop : ∀ H3, Ef B H3 → J.stop xs.length H3
  yld : ∀ (O' : Addr → Prop) i H3 x H4, i < xs.length → Ef B H3 → (∀ a, O' a → ∃ u, H3 a = some u ∧ NT u) → Ew F (hid H3 O') → J.yld i H3 x H4 → Ex H3 H4 ∧ ∃ a, xs[i]? = some a ∧ r.rp (hid H4 O') x a
variable (E sls)
/-- walked while all that one does not own stands; while nothing is changed but what is hidden -/
def IV (wi : TI) (r : R K α) (c : PT (List α)) : Prop := ∀ O σ H, SL O E sls σ H → ∀ k : List α → Prop, c k → ∀ Rr : It → Hp → Prop, (∀ xs J H2, k xs → XX E H H2 → IW (hid H2 O) (hid H2 O) r xs J → Rr J H2) → wi σ H Rr
def IR (wi : TI) (r : R K α) (c : PT (List α)) : Prop := ∀ O σ H, SL O E sls σ H → ∀ k : List α → Prop, c k → ∀ Rr : It → Hp → Prop, (∀ xs J H2, k xs → XX E H H2 → IW (hid H2 O) (hid H2 E.M) r xs J → Rr J H2) → wi σ H Rr
/-- no own slot is new -/
def Hs (sls sls' : List (Sl K)) : Prop := ∀ (j : Nat) (sl : Sl K), sls'[j]? = some sl → sl.hp = true → ∃ sl0 : Sl K, sls[j]? = some sl0 ∧ sl0.hp = true
theorem Hs.refl (sls : List (Sl K)) : Hs sls sls := fun j sl h hp => ⟨sl, h, hp⟩
theorem Hs.trans {a b c : List (Sl K)} (h : Hs a b) (h' : Hs b c) : Hs a c := fun j sl e hp => let ⟨s, e1, h1⟩ := h' j sl e hp; h j s e1 h1
theorem Hs.set {sls : List (Sl K)} {i : Nat} {sl : Sl K} (h : sl.hp = false) : Hs sls (sls.set i sl) := fun j s e hp => by
  by_cases c : j = i
  · subst c
    by_cases hl : j < sls.length
    · rw [List.getElem?_set_self hl] at e
      cases e
      rw [h] at hp
      cases hp
    · rw [List.getElem?_eq_none (by simpa using hl)] at e
      cases e
  · rw [List.getElem?_set_ne (Ne.symm c)] at e
    exact ⟨s, e, hp⟩
/-- a target: js the slots that it stores -/
def GT (g : TG) (r : R K α) (js : List Nat) (f : α → List (Sl K)) : Prop := ∀ O σ H a v, SL O E sls σ H → r.rp (hid H O) v a → ∀ Q : L2.St → Hp → Prop,
  (∀ σ', SL O E (f a) σ' H → Hs sls (f a) → (∀ vs, (∀ j ∈ js, j ∈ vs) → wipe σ' vs = wipe σ vs) → (∀ i, i ∉ js → σ'[i]? = σ[i]?) → Q σ' H) → g v σ H Q
def GTs (g : TGs) (f : RF K α) (js : List Nat) (h : α → List (Sl K)) : Prop := ∀ O σ H a vs, SL O E sls σ H → f.rp (hid H O) vs a → ∀ Q : L2.St → Hp → Prop,
  (∀ σ', SL O E (h a) σ' H → Hs sls (h a) → (∀ vs, (∀ j ∈ js, j ∈ vs) → wipe σ' vs = wipe σ vs) → (∀ i, i ∉ js → σ'[i]? = σ[i]?) → Q σ' H) → g vs σ H Q
variable {E sls}
theorem ir_iv {wi : TI} {c : PT (List α)} (h : IV E sls wi r c) : IR E sls wi r c := fun O σ H S k hk Rr q => h _ σ H S k hk Rr fun xs J H2 ka x w =>
  q xs J H2 ka x ⟨w.len, fun i H3 hi e => w.go i H3 hi ((ef_hid_le S.mo).trans e), fun H3 e => w.stop H3 ((ef_hid_le S.mo).trans e), fun O' i H3 y H4 hi e od ef => w.yld O' i H3 y H4 hi ((ef_hid_le S.mo).trans e) od ef⟩
/-- a list's items -/
theorem ef_un {H : Hp} {M : Addr → Prop} : Ef (hid H M) H := ⟨⟨fun a u _ q => (rd_hid.mp q).2, fun a xs q => (of_hid q).2⟩, fun a o u q => (of_hid q).2, fun a u q => ⟨u, (of_hid q).2⟩⟩
theorem ew_un {H H' : Hp} {M : Addr → Prop} (h : Ex (hid H M) (hid H' M)) : Ef (hid H M) H' := h.ef.trans ef_un
theorem iw_list {F B H2 : Hp} {p : Addr} {vs : List V} {xs : List α} (hs : Rd B p (.lst vs)) (hp : Paired (r.rp F) vs xs) (hl : vs.length ≤ big) : IW F B r xs (Itl K p) := by
  have e := hp.length
  refine ⟨by omega, fun i H3 hi w => ⟨vs, vs[i]'(by omega), (.inl (rdL w.ew hs)), by simp [show i < vs.length by omega]⟩, fun H3 w => ⟨vs, (.inl (rdL w.ew hs)), by omega⟩, fun O' i H3 x H4 hi w od wf y => ?_⟩
  obtain ⟨e4, y⟩ := y
  subst e4
  refine ⟨Ex.refl _, xs[i], by simp [hi], ?_⟩
  obtain ⟨v, e1, hv⟩ := paired_get' hp (i := i) (a := xs[i]) (by simp [hi])
  have := y vs ((.inl (rdL w.ew hs)))
  rw [e1] at this
  cases this
  exact r.mono wf hv
theorem iw_tup {F B : Hp} {p : Addr} {vs : List V} {xs : List α} (hs : TpX K B p vs) (hp : Paired (r.rp F) vs xs) (hl : vs.length ≤ big) : IW F B r xs (Itt K p) := by
  have e := hp.length
  refine ⟨by omega, fun i H3 hi w => ⟨vs, vs[i]'(by omega), (hs.mono w.ew).sq, by simp [show i < vs.length by omega]⟩, fun H3 w => ⟨vs, (hs.mono w.ew).sq, by omega⟩, fun O' i H3 x H4 hi w od wf y => ?_⟩
  obtain ⟨e4, y⟩ := y
  subst e4
  refine ⟨Ex.refl _, xs[i], by simp [hi], ?_⟩
  obtain ⟨v, e1, hv⟩ := paired_get' hp (i := i) (a := xs[i]) (by simp [hi])
  have := y vs (hs.mono w.ew).sq
  rw [e1] at this
  cases this
  exact r.mono wf hv
theorem iw_range {F B : Hp} {lo : Int} {n : Nat} (hn : n ≤ big) : IW (K := K) F B rInt ((List.range n).map fun i => lo + ((i : Nat) : Int)) (Itr lo n) := by
  refine ⟨by simpa using hn, fun i H3 hi _ => by simp at hi; exact hi, fun H3 _ => by simp [Itr], fun O' i H3 x H4 hi w od wf y => ?_⟩
  obtain ⟨e4, y⟩ := y
  subst e4 y
  have hi' : i < n := by simpa using hi
  exact ⟨Ex.refl _, lo + (i : Int), by simp [hi'], rfl⟩
theorem iw_pair {F B : Hp} {p : Addr} {xs : List α} {ys : List β} {zs : List (α × β)} {r : R K α} {s : R K β} {J : It} (hl : zs.length ≤ big)
    (go : ∀ i H3, i < zs.length → Ef B H3 → J.go i H3) (stop : ∀ H3, Ef B H3 → J.stop zs.length H3)
    (y : ∀ i H3 v H4, i < zs.length → Ef B H3 → J.yld i H3 v H4 → ∃ T x y, v = .ref T ∧ H3 T = none ∧ H4 = upd H3 T (.tup [x, y]) ∧ ∃ z, zs[i]? = some z ∧ r.rp F x z.1 ∧ s.rp F y z.2) : IW F B (rPr (fc r (f1 s))) zs J := by
  refine ⟨hl, go, stop, fun O' i H3 x H4 hi w od wf yl => ?_⟩
  obtain ⟨T, v1, v2, e1, nT, e4, z, ez, h1, h2⟩ := y i H3 x H4 hi w yl
  subst e1 e4
  have nO : ¬ O' T := fun h => by
    obtain ⟨u, hu, _⟩ := od T h
    rw [nT] at hu; cases hu
  have ex := (Ex.new (o := .tup [v1, v2]) nT)
  have w4 := wf.trans (ex.hid O').ew
  exact ⟨ex, z, ez, T, [v1, v2], rfl, .inl (by rw [hid_out nO]; exact upd_same), v1, [v2], rfl, r.mono w4 h1, v2, rfl, s.mono w4 h2⟩
theorem iv_list {c : PT (List α)} (h : EV E sls te (rLst r) c) : IV E sls (iList K te) r c := fun O σ H S k hk Rr q =>
  h _ σ H S k hk _ fun xs v H2 ka x ⟨p, vs, e, hs, hp, hl⟩ => ⟨p, e, ⟨vs, lun hs⟩, q xs _ H2 ka x (iw_list (H2 := H2) hs hp hl)⟩
theorem ir_list {c : PT (List α)} (h : ERl E sls te r c) : IR E sls (iList K te) r c := fun O σ H S k hk Rr q =>
  h _ σ H S k hk _ fun xs p vs H2 ka x hs hp hl => ⟨p, rfl, ⟨vs, lun hs⟩, q xs _ H2 ka x (iw_list (H2 := H2) hs hp hl)⟩
theorem iv_tup {c : PT (List α)} (h : EV E sls te (rTup r) c) : IV E sls (iTup K te) r c := fun O σ H S k hk Rr q =>
  h _ σ H S k hk _ fun xs v H2 ka x ⟨p, vs, e, hs, hp, hl⟩ => ⟨p, e, ⟨vs, hs.of_hid.sq⟩, q xs _ H2 ka x (iw_tup hs hp hl)⟩
theorem big62 {n : Int} (h : n ≤ 100000) : n < 2 ^ 62 := by omega
theorem iv_rng1 {c : PT Int} (h : EV E sls te rInt c) : IV E sls (iRng1 (tCons te tNil)) rInt (fun k => c fun n => (-100000 ≤ n ∧ n ≤ 100000) ∧ k (rg n)) := fun O σ H S k hk Rr q =>
  h _ σ H S _ hk _ fun n v H2 ka x hv => ⟨n, by rw [show v = .int n from hv], by omega, by omega, q _ _ H2 ka.2 x (by
    have := iw_range (K := K) (F := hid H2 O) (B := hid H2 O) (lo := 0) (n := n.toNat) (by show _ ≤ 100000; omega)
    simpa [rg] using this)⟩
theorem iv_rng2 {c d : PT Int} (h : EV E sls te rInt c) (h2 : EV E sls ta rInt d) : IV E sls (iRng2 (tCons te (tCons ta tNil))) rInt (fun k => c fun a => d fun b => (-100000 ≤ a ∧ a ≤ 100000 ∧ -100000 ≤ b ∧ b ≤ 100000 ∧ b - a ≤ 100000) ∧ k (rg2 a b)) := fun O σ H S k hk Rr q =>
  h _ σ H S _ hk _ fun a v H1 ka x1 hv => h2 _ σ H1 (S.ext x1) _ ka _ fun b w H2 kb x2 hw => ⟨a, b, by rw [show v = .int a from hv, show w = .int b from hw], by omega, q _ _ H2 kb.2 (x1.trans x2) (iw_range (by show _ ≤ 100000; omega))⟩
def enumZ (xs : List α) : List (Int × α) := (List.range xs.length).zip xs |>.map fun p => ((p.1 : Int), p.2)
theorem enumZ_len (xs : List α) : (enumZ xs).length = xs.length := by unfold enumZ; simp
theorem enumZ_get (xs : List α) (i : Nat) (a : α) (h : xs[i]? = some a) : (enumZ xs)[i]? = some ((i : Int), a) := by
  obtain ⟨h1, h2⟩ := List.getElem?_eq_some_iff.mp h
  unfold enumZ
  simp [List.getElem?_zip_eq_some, h, h1, h2]
theorem iw_enumL {F B : Hp} {p : Addr} {vs : List V} {xs : List α} (hs : Rd B p (.lst vs)) (hp : Paired (r.rp F) vs xs) (hl : vs.length ≤ big) : IW F B (rPr (fc rInt (f1 r))) (enumZ xs) (Ite K p) := by
  have e := hp.length
  refine iw_pair (p := p) (xs := []) (ys := xs) (by rw [enumZ_len]; omega) (fun i H3 hi w => ?_) (fun H3 w => ⟨vs, (.inl (rdL w.ew hs)), by rw [enumZ_len]; omega⟩) (fun i H3 v H4 hi w y => ?_)
  · rw [enumZ_len] at hi
    exact ⟨vs, vs[i]'(by omega), (.inl (rdL w.ew hs)), by simp [show i < vs.length by omega]⟩
  · rw [enumZ_len] at hi
    obtain ⟨T, x, h1, h2, h3, h4⟩ := y
    obtain ⟨v, e1, hv⟩ := paired_get' hp (i := i) (a := xs[i]) (by simp [hi])
    have := h4 vs ((.inl (rdL w.ew hs)))
    rw [e1] at this
    cases this
    exact ⟨T, _, _, h1, h2, h3, ((i : Int), xs[i]), enumZ_get xs i _ (by simp [hi]), rfl, hv⟩
theorem iv_enumL {c : PT (List α)} (h : EV E sls te (rLst r) c) : IV E sls (iEnum K (tCons te tNil)) (rPr (fc rInt (f1 r))) (fun k => c fun xs => k (enumZ xs)) := fun O σ H S k hk Rr q =>
  h _ σ H S _ hk _ fun xs v H2 ka x ⟨p, vs, e, hs, hp, hl⟩ => ⟨p, vs, by rw [e], lun hs, q _ _ H2 ka x (iw_enumL hs hp hl)⟩
theorem ir_enumL {c : PT (List α)} (h : ERl E sls te r c) : IR E sls (iEnum K (tCons te tNil)) (rPr (fc rInt (f1 r))) (fun k => c fun xs => k (enumZ xs)) := fun O σ H S k hk Rr q =>
  h _ σ H S _ hk _ fun xs p vs H2 ka x hs hp hl => ⟨p, vs, rfl, lun hs, q _ _ H2 ka x (iw_enumL hs hp hl)⟩
theorem iw_zipT {F B : Hp} {p p2 : Addr} {vs vs2 : List V} {xs : List α} {ys : List β} (hs : TpX K B p vs) (hp : Paired (r.rp F) vs xs) (hl : vs.length ≤ big) (hs2 : TpX K B p2 vs2) (hp2 : Paired (s.rp F) vs2 ys) : IW F B (rPr (fc r (f1 s))) (xs.zip ys) (RZ.ItzT K p p2) := by
  have e := hp.length
  have e2 := hp2.length
  refine iw_pair (p := p) (xs := xs) (ys := ys) (by rw [List.length_zip]; omega) (fun i H3 hi w => ?_) (fun H3 w => ⟨vs, vs2, (hs.mono w.ew).sq, (hs2.mono w.ew).sq, by rw [List.length_zip]; omega⟩) (fun i H3 v H4 hi w y => ?_)
  · rw [List.length_zip] at hi
    exact ⟨vs, vs2, vs[i]'(by omega), vs2[i]'(by omega), (hs.mono w.ew).sq, (hs2.mono w.ew).sq, by simp [show i < vs.length by omega], by simp [show i < vs2.length by omega]⟩
  · rw [List.length_zip] at hi
    obtain ⟨T, x, z, h1, h2, h3, h4, h5⟩ := y
    obtain ⟨v, e1, hv⟩ := paired_get' hp (i := i) (a := xs[i]'(by omega)) (by simp [show i < xs.length by omega])
    obtain ⟨v2, e3, hv2⟩ := paired_get' hp2 (i := i) (a := ys[i]'(by omega)) (by simp [show i < ys.length by omega])
    have q1 := h4 vs (hs.mono w.ew).sq
    have q2 := h5 vs2 (hs2.mono w.ew).sq
    rw [e1] at q1
    rw [e3] at q2
    cases q1
    cases q2
    exact ⟨T, _, _, h1, h2, h3, (xs[i]'(by omega), ys[i]'(by omega)), by simp [List.getElem?_zip_eq_some, show i < xs.length by omega, show i < ys.length by omega], hv, hv2⟩
theorem iw_zipL {F B : Hp} {p p2 : Addr} {vs vs2 : List V} {xs : List α} {ys : List β} (hs : Rd B p (.lst vs)) (hp : Paired (r.rp F) vs xs) (hl : vs.length ≤ big) (hs2 : Rd B p2 (.lst vs2)) (hp2 : Paired (s.rp F) vs2 ys) : IW F B (rPr (fc r (f1 s))) (xs.zip ys) (Itz K p p2) := by
  have e := hp.length
  have e2 := hp2.length
  refine iw_pair (p := p) (xs := xs) (ys := ys) (by rw [List.length_zip]; omega) (fun i H3 hi w => ?_) (fun H3 w => ⟨vs, vs2, (.inl (rdL w.ew hs)), (.inl (rdL w.ew hs2)), by rw [List.length_zip]; omega⟩) (fun i H3 v H4 hi w y => ?_)
  · rw [List.length_zip] at hi
    exact ⟨vs, vs2, vs[i]'(by omega), vs2[i]'(by omega), (.inl (rdL w.ew hs)), (.inl (rdL w.ew hs2)), by simp [show i < vs.length by omega], by simp [show i < vs2.length by omega]⟩
  · rw [List.length_zip] at hi
    obtain ⟨T, x, z, h1, h2, h3, h4, h5⟩ := y
    obtain ⟨v, e1, hv⟩ := paired_get' hp (i := i) (a := xs[i]'(by omega)) (by simp [show i < xs.length by omega])
    obtain ⟨v2, e3, hv2⟩ := paired_get' hp2 (i := i) (a := ys[i]'(by omega)) (by simp [show i < ys.length by omega])
    have q1 := h4 vs ((.inl (rdL w.ew hs)))
    have q2 := h5 vs2 ((.inl (rdL w.ew hs2)))
    rw [e1] at q1
    rw [e3] at q2
    cases q1
    cases q2
    exact ⟨T, _, _, h1, h2, h3, (xs[i]'(by omega), ys[i]'(by omega)), by simp [List.getElem?_zip_eq_some, show i < xs.length by omega, show i < ys.length by omega], hv, hv2⟩
theorem iv_zipT {c : PT (List α)} {d : PT (List β)} (h : EV E sls ta (rTup r) c) (h2 : EV E sls tb (rTup s) d) : IV E sls (RZ.iZipA K (tCons ta (tCons tb tNil))) (rPr (fc r (f1 s))) (fun k => c fun xs => d fun ys => k (xs.zip ys)) := fun O σ H S k hk Rr q =>
  h _ σ H S _ hk _ fun xs v H1 ka x1 hv => h2 _ σ H1 (S.ext x1) _ ka _ fun ys w H2 kb x2 ⟨p2, vs2, e2, hs2, hp2, hl2⟩ => by
    obtain ⟨p1, vs1, e1, hs1, hp1, hl1⟩ := (S.ext x1).rep x2 hv
    exact ⟨p1, p2, vs1, vs2, by rw [e1, e2], .inr ⟨hs1.of_hid.sq, hs2.of_hid.sq, q _ _ H2 kb (x1.trans x2) (iw_zipT hs1 hp1 hl1 hs2 hp2)⟩⟩
theorem ir_zipL {c : PT (List α)} {d : PT (List β)} (h : ERl E sls ta r c) (h2 : ERl E sls tb s d) : IR E sls (RZ.iZipA K (tCons ta (tCons tb tNil))) (rPr (fc r (f1 s))) (fun k => c fun xs => d fun ys => k (xs.zip ys)) := fun O σ H S k hk Rr q =>
  h _ σ H S _ hk _ fun xs p1 vs1 H1 ka x1 hs1 hp1 hl1 => h2 _ σ H1 (S.ext x1) _ ka _ fun ys p2 vs2 H2 kb x2 hs2 hp2 hl2 =>
    ⟨p1, p2, vs1, vs2, rfl, .inl ⟨lun (rdL x2.1.ew hs1), lun hs2, q _ _ H2 kb (x1.trans x2) (iw_zipL (rdL x2.1.ew hs1) (pmap hp1 fun _ _ z => (S.ext x1).rep x2 z) hl1 hs2 hp2)⟩⟩
theorem iv_zipL {c : PT (List α)} {d : PT (List β)} (h : EV E sls ta (rLst r) c) (h2 : EV E sls tb (rLst s) d) : IV E sls (RZ.iZipA K (tCons ta (tCons tb tNil))) (rPr (fc r (f1 s))) (fun k => c fun xs => d fun ys => k (xs.zip ys)) := fun O σ H S k hk Rr q =>
  h _ σ H S _ hk _ fun xs v H1 ka x1 hv => h2 _ σ H1 (S.ext x1) _ ka _ fun ys w H2 kb x2 ⟨p2, vs2, e2, hs2, hp2, hl2⟩ => by
    obtain ⟨p1, vs1, e1, hs1, hp1, hl1⟩ := (S.ext x1).rep x2 hv
    exact ⟨p1, p2, vs1, vs2, by rw [e1, e2], .inl ⟨lun hs1, lun hs2, q _ _ H2 kb (x1.trans x2) (iw_zipL hs1 hp1 hl1 hs2 hp2)⟩⟩

/-! ### targets -/
theorem gt_name {j : Nat} : GT E sls (gName j) r [j] (fun a => sls.set j (slV r a)) := fun O σ H a v S hv Q q =>
  q _ (S.set ⟨v, rfl, hv⟩) (Hs.set rfl) (fun vs h => wipe_set (h j (by simp))) (fun i hi => List.getElem?_set_ne (fun e => hi (by simp [e])))
theorem gts_nil {r : R K α} {g : TG} {js : List Nat} {h : α → List (Sl K)} (hg : GT E sls g r js h) : GTs E sls (gCons g gNil) (f1 r) js h := fun O σ H a vs S ⟨v, e, hv⟩ Q q =>
  ⟨v, [], e, hg _ σ H a v S hv _ fun σ' S' hs h1 h2 => ⟨rfl, q σ' S' hs h1 h2⟩⟩
theorem gts_cons {g : TG} {gs : TGs} {f : RF K β} {js ks : List Nat} {h : α → List (Sl K)} {h' : α → β → List (Sl K)} (hg : GT E sls g r js h) (hs : ∀ a, GTs E (h a) gs f ks (h' a)) : GTs E sls (gCons g gs) (fc r f) (js ++ ks) (fun p => h' p.1 p.2) :=
  fun O σ H a vs S ⟨v, ws, e, hv, hw⟩ Q q => ⟨v, ws, e, hg _ σ H a.1 v S hv _ fun σ1 S1 g1 h1 h2 => hs a.1 _ σ1 H a.2 ws S1 hw _ fun σ2 S2 g2 h3 h4 =>
    q σ2 S2 (g1.trans g2) (fun us hu => (h3 us fun j hj => hu j (List.mem_append_right _ hj)).trans (h1 us fun j hj => hu j (List.mem_append_left _ hj)))
      (fun i hi => (h4 i fun z => hi (List.mem_append_right _ z)).trans (h2 i fun z => hi (List.mem_append_left _ z)))⟩
theorem gt_tup {gs : TGs} {f : RF K α} {n : Nat} {js : List Nat} {h : α → List (Sl K)} (hn : f.n = n) (hs : GTs E sls gs f js h) : GT E sls (gTup K n gs) (rPr f) js h := fun O σ H a v S ⟨p, vs, e, ht, hf⟩ Q q =>
  ⟨p, vs, e, ht.of_hid.sq, by rw [f.len hf, hn], hs _ σ H a vs S hf Q q⟩

/-! ### comprehensions -/
theorem compT_nil {t : α → PT Bool} {f : α → PT β} {k : List β → Prop} : compT [] t f k = k [] := rfl
theorem compT_cons {x : α} {xs : List α} {t : α → PT Bool} {f : α → PT β} {k : List β → Prop} : compT (x :: xs) t f k = t x fun b => if b = true then f x fun y => compT xs t f fun ys => k (y :: ys) else compT xs t f k := rfl
theorem drop_at {xs : List α} {i : Nat} {a : α} (h : xs[i]? = some a) : xs.drop i = a :: xs.drop (i + 1) := by
  obtain ⟨h1, h2⟩ := List.getElem?_eq_some_iff.mp h
  rw [List.drop_eq_getElem_cons h1, h2]
theorem SL.withD {σ : L2.St} {H2 H3 : Hp} {D : Addr} (S2 : SL O E sls σ H2) (nD : H2 D = none) (x : XX E H2 H3) (hD : ∃ u, H3 D = some u ∧ NT u) : SL (wD O D) E sls σ H3 := by
  have mo : ∀ a, E.M a → wD O D a := fun a h => .inl (S2.mo a h)
  have S3 := S2.ext x
  refine ⟨pmap S2.sl fun o sl h => sl.mono ?_ x.1.ef h, fun a h => ?_, mo, x.2⟩
  · rw [← hid_wD nD]
    exact (x.ex mo).ew
  · rcases h with h | rfl
    · exact S3.od a h
    · exact hD
theorem el_lc {wi : TI} {g : TG} {tt : TT} {vs js : List Nat} {rx : R K γ} {cx : PT (List γ)} {h : γ → List (Sl K)} {t : γ → PT Bool} {fe : γ → PT α}
    (hi : IR E sls wi rx cx) (hg : GT E (wipeS sls vs) g rx js h) (hj : ∀ j ∈ js, j ∈ vs) (ht : ∀ a, ET E (h a) tt (t a)) (he : ∀ a, EV E (h a) te r (fe a)) :
    EL E sls (tLc wi g tt te vs) r (fun k => cx fun xs => compT xs t fe k) := fun O σ H S k hk Q q =>
  hi _ σ H S _ hk _ fun xs J H2 ka x2 w D nD => by
    have S2 := S.ext x2
    have nDO : ¬ O D := S2.nOn nD
    have nDM : ¬ E.M D := fun z => nDO (S2.mo D z)
    have mo : ∀ a, E.M a → wD O D a := fun a h => .inl (S2.mo a h)
    refine ⟨fun i m H3 => m = xs.length - i ∧ i ≤ xs.length ∧ XX E H2 H3 ∧ ∃ acc ys, H3 D = some (.lst acc) ∧ Paired (r.rp (hid H3 (wD O D))) acc ys ∧ ys.length ≤ i ∧ compT (xs.drop i) t fe fun zs => k (ys ++ zs), ⟨xs.length, by simp, Nat.zero_le _, (S2.new nD).1, [], [], upd_same, .nil, Nat.le_refl _, by simpa using ka⟩, ?_⟩
    rintro i m H3 ⟨rfl, hi, x3, acc, ys, hD, hacc, hys, kc⟩
    have S3 := S2.withD nD x3 ⟨_, hD, fun _ z => by cases z⟩
    by_cases hlt : i < xs.length
    · refine .inr ⟨w.go i H3 hlt (ew_un x3.1), fun H' => xs.length - (i + 1) < xs.length - i ∧ XX E H2 H' ∧ ∃ acc ys, H' D = some (.lst acc) ∧ Paired (r.rp (hid H' (wD O D))) acc ys ∧ ys.length ≤ i + 1 ∧ compT (xs.drop (i + 1)) t fe fun zs => k (ys ++ zs), fun H' ⟨h1, h2, h3⟩ => ⟨xs.length - (i + 1), h1, rfl, hlt, h2, h3⟩, fun v H4 y => ?_⟩
      obtain ⟨ex, a, ea, hv⟩ := w.yld (wD O D) i H3 v H4 hlt (ew_un x3.1) S3.od (by rw [← hid_wD nD]; exact (x3.ex mo).ew) y
      rw [drop_at ea, compT_cons] at kc
      have x4 : XX E H3 H4 := .of_ex ex S3.inv
      have S4 := S3.ext x4
      have acc4 := pmap hacc fun _ _ z => S3.rep x4 z
      refine hg _ (wipe σ vs) H4 a v (S4.wipe vs) hv _ fun σ5 S5 _ h1 h2 => ⟨?_, ?_⟩
      · rw [h1 vs hj, wipe_wipe σ vs vs fun _ z => z]
      refine ht a _ σ5 H4 S5 _ kc _ fun b H5 kb x5 => ?_
      have acc5 := pmap acc4 fun _ _ z => S4.rep x5 z
      have hD5 := x5.keep (x4.keep hD nDM) nDM
      cases b with
      | false =>
        rw [if_neg Bool.false_ne_true] at kb ⊢
        exact ⟨by omega, (x3.trans x4).trans x5, acc, ys, hD5, acc5, Nat.le_succ_of_le hys, kb⟩
      | true =>
        rw [if_pos rfl] at kb ⊢
        refine he a _ σ5 H5 (S5.ext x5) _ kb _ fun z u H6 kz x6 hu => ?_
        have hD6 := x6.keep hD5 nDM
        have x26 := ((x3.trans x4).trans x5).trans x6
        have acc6 := pmap acc5 fun _ _ z => (S4.ext x5).rep x6 z
        have al := hacc.length
        have wl : xs.length ≤ 100000 := w.len
        refine ⟨acc, hD6, lt_line (show acc.length < 100000 by omega), by omega, x26.put nD nDM (fun φ z => by rw [hD6] at z; cases z), acc ++ [u], ys ++ [z], upd_same, ?_, by simp; omega, by simpa using kz⟩
        rw [hid_put]
        exact paired_app acc6 (.cons hu .nil)
    · have e : i = xs.length := by omega
      subst e
      rw [List.drop_length, compT_nil, List.append_nil] at kc
      exact .inl ⟨w.stop H3 (ew_un x3.1), q ys D acc H3 kc (x2.trans x3) (x2.back nD) hD hacc (by have := hacc.length; have := w.len; omega)⟩
theorem et_yes : ET E sls tYes (fun k => k true) := fun O σ H S k hk Q q => q true H hk (XX.refl S)
/-- the dict that a comprehension makes -/
theorem any_K [DecidableEq κ] {e : κ → Key} (inj : ∀ a b, e a = e b → a = b) {H : Hp} {a : κ} : ∀ {vs : List (Key × V)} {d : List (κ × α)}, Paired (DkRel e r H) vs d → (vs.any fun kv => decide (kv.1 = e a)) = d.any fun p => decide (p.1 = a)
  | _, _, .nil => rfl
  | p :: vs, q :: d, .cons h t => by
    rw [List.any_cons, List.any_cons, any_K inj t, h.1]
    congr 1
    by_cases c : q.1 = a
    · rw [decide_eq_true c, c, decide_eq_true rfl]
    · rw [decide_eq_false c, decide_eq_false fun z => c (inj _ _ z)]
theorem map_K [DecidableEq κ] {e : κ → Key} (inj : ∀ a b, e a = e b → a = b) {H : Hp} {a : κ} {b : α} {v : V} (hv : r.rp H v b) : ∀ {vs : List (Key × V)} {d : List (κ × α)}, Paired (DkRel e r H) vs d → Paired (DkRel e r H) (vs.map fun kv => if kv.1 = e a then (kv.1, v) else kv) (d.map fun p => if p.1 = a then (p.1, b) else p)
  | _, _, .nil => .nil
  | p :: vs, q :: d, .cons h t => by
    refine .cons ?_ (map_K inj hv t)
    dsimp only
    by_cases c : q.1 = a
    · rw [if_pos c, if_pos (by rw [h.1, c])]
      exact ⟨h.1, hv⟩
    · rw [if_neg c, if_neg (by rw [h.1]; exact fun z => c (inj _ _ z))]
      exact h
theorem pair_snoc {κ' μ' : Type} {F : κ' → μ' → Prop} {a : κ'} {b : μ'} : ∀ {l₁ : List κ'} {l₂ : List μ'}, Paired F l₁ l₂ → F a b → Paired F (l₁ ++ [a]) (l₂ ++ [b])
  | _, _, .nil, h => .cons h .nil
  | _, _, .cons h₁ t, h => .cons h₁ (pair_snoc t h)
theorem paired_dputK [DecidableEq κ] {e : Ky κ} {H : Hp} {a : κ} {b : α} {v : V} (hv : r.rp H v b) {vs : List (Key × V)} {d : List (κ × α)} (h : Paired (DkRel e.enc r H) vs d) : Paired (DkRel e.enc r H) (putK vs (e.enc a) v) (dput d a b) := by
  unfold putK dput
  rw [any_K e.inj h]
  split
  · exact map_K e.inj hv h
  · exact pair_snoc h ⟨rfl, hv⟩
theorem any_T [DecidableEq κ] {e : κ → List Key} (inj : ∀ a b, e a = e b → a = b) {H : Hp} {a : κ} : ∀ {vs : List (List Key × V)} {d : List (κ × α)}, Paired (DtRel e r H) vs d → (vs.any fun kv => decide (kv.1 = e a)) = d.any fun p => decide (p.1 = a)
  | _, _, .nil => rfl
  | p :: vs, q :: d, .cons h t => by
    rw [List.any_cons, List.any_cons, any_T inj t, h.1]
    congr 1
    by_cases c : q.1 = a
    · rw [decide_eq_true c, c, decide_eq_true rfl]
    · rw [decide_eq_false c, decide_eq_false fun z => c (inj _ _ z)]
theorem map_T [DecidableEq κ] {e : κ → List Key} (inj : ∀ a b, e a = e b → a = b) {H : Hp} {a : κ} {b : α} {v : V} (hv : r.rp H v b) : ∀ {vs : List (List Key × V)} {d : List (κ × α)}, Paired (DtRel e r H) vs d → Paired (DtRel e r H) (vs.map fun kv => if kv.1 = e a then (kv.1, v) else kv) (d.map fun p => if p.1 = a then (p.1, b) else p)
  | _, _, .nil => .nil
  | p :: vs, q :: d, .cons h t => by
    refine .cons ?_ (map_T inj hv t)
    dsimp only
    by_cases c : q.1 = a
    · rw [if_pos c, if_pos (by rw [h.1, c])]
      exact ⟨h.1, hv⟩
    · rw [if_neg c, if_neg (by rw [h.1]; exact fun z => c (inj _ _ z))]
      exact h
theorem paired_dputT [DecidableEq κ] {e : Kt κ} {H : Hp} {a : κ} {b : α} {v : V} (hv : r.rp H v b) {vs : List (List Key × V)} {d : List (κ × α)} (h : Paired (DtRel e.enc r H) vs d) : Paired (DtRel e.enc r H) (putK vs (e.enc a) v) (dput d a b) := by
  unfold putK dput
  rw [any_T e.inj h]
  split
  · exact map_T e.inj hv h
  · exact pair_snoc h ⟨rfl, hv⟩
theorem dput_len [DecidableEq κ] (d : List (κ × α)) (k : κ) (v : α) : (dput d k v).length ≤ d.length + 1 := by
  unfold dput
  split <;> simp
/-- the pairs of a dict's comprehension, as they come -/
def dictT [DecidableEq κ] : List γ → (γ → PT Bool) → (γ → PT κ) → (γ → PT α) → List (κ × α) → PT (List (κ × α))
  | [], _, _, _, d, k => k d
  | x :: xs, t, fk, fv, d, k => t x fun b => if b = true then fk x fun a => fv x fun v => dictT xs t fk fv (dput d a v) k else dictT xs t fk fv d k
theorem dictT_mono [DecidableEq κ] {t : γ → PT Bool} {fk : γ → PT κ} {fv : γ → PT α} (mt : ∀ x (k k' : Bool → Prop), (∀ a, k a → k' a) → t x k → t x k') (mk : ∀ x (k k' : κ → Prop), (∀ a, k a → k' a) → fk x k → fk x k') (mf : ∀ x (k k' : α → Prop), (∀ a, k a → k' a) → fv x k → fv x k') :
    ∀ (xs : List γ) (d : List (κ × α)) (k k' : List (κ × α) → Prop), (∀ a, k a → k' a) → dictT xs t fk fv d k → dictT xs t fk fv d k'
  | [], d, k, k', h, q => h d q
  | x :: xs, d, k, k', h, q => by
    refine mt x _ _ (fun b hb => ?_) q
    cases b with
    | true =>
      rw [if_pos rfl] at hb ⊢
      exact mk x _ _ (fun a ha => mf x _ _ (fun v hv => dictT_mono mt mk mf xs _ k k' h hv) ha) hb
    | false =>
      rw [if_neg Bool.false_ne_true] at hb ⊢
      exact dictT_mono mt mk mf xs d k k' h hb
end
def Pg.dict {γ κ α : Type} [DecidableEq κ] (xs : List γ) (t : γ → Pg Bool) (fk : γ → Pg κ) (fv : γ → Pg α) : Pg (List (κ × α)) := ⟨dictT xs (fun x => (t x).wp) (fun x => (fk x).wp) (fun x => (fv x).wp) [], fun h q => dictT_mono (fun x _ _ h' => (t x).mono h') (fun x _ _ h' => (fk x).mono h') (fun x _ _ h' => (fv x).mono h') xs [] _ _ h q⟩
section
variable {α β γ κ : Type} {te ta tb tc tk tv : TE} {r : R K α} {s : R K β} {c : PT α} {d : PT β}
theorem ed_dc [DecidableEq κ] {e : Ky κ} {rk : R K κ} (Kr : KyR rk e) {wi : TI} {g : TG} {tt : TT} {vs js : List Nat} {rx : R K γ} {cx : PT (List γ)} {h : γ → List (Sl K)} {t : γ → PT Bool} {fk : γ → PT κ} {fv : γ → PT α}
    (hi : IR E sls wi rx cx) (hg : GT E (wipeS sls vs) g rx js h) (hj : ∀ j ∈ js, j ∈ vs) (ht : ∀ a, ET E (h a) tt (t a)) (hk' : ∀ a, EV E (h a) tk rk (fk a)) (he : ∀ a, EV E (h a) tv r (fv a)) :
    ED E sls (tDc wi g tt tk tv vs) e r (fun k => cx fun xs => dictT xs t fk fv [] k) := fun O σ H S k hk Q q =>
  hi _ σ H S _ hk _ fun xs J H2 ka x2 w D nD => by
    have S2 := S.ext x2
    have nDO : ¬ O D := S2.nOn nD
    have nDM : ¬ E.M D := fun z => nDO (S2.mo D z)
    have mo : ∀ a, E.M a → wD O D a := fun a h => .inl (S2.mo a h)
    refine ⟨fun i m H3 => m = xs.length - i ∧ i ≤ xs.length ∧ XX E H2 H3 ∧ ∃ acc ys, H3 D = some (.dK acc) ∧ Paired (DkRel e.enc r (hid H3 (wD O D))) acc ys ∧ ys.length ≤ i ∧ dictT (xs.drop i) t fk fv ys k, ⟨xs.length, by simp, Nat.zero_le _, (S2.new nD).1, [], [], upd_same, .nil, Nat.le_refl _, by simpa using ka⟩, ?_⟩
    rintro i m H3 ⟨rfl, hi, x3, acc, ys, hD, hacc, hys, kc⟩
    have S3 := S2.withD nD x3 ⟨_, hD, fun _ z => by cases z⟩
    by_cases hlt : i < xs.length
    · refine .inr ⟨w.go i H3 hlt (ew_un x3.1), fun H' => xs.length - (i + 1) < xs.length - i ∧ XX E H2 H' ∧ ∃ acc ys, H' D = some (.dK acc) ∧ Paired (DkRel e.enc r (hid H' (wD O D))) acc ys ∧ ys.length ≤ i + 1 ∧ dictT (xs.drop (i + 1)) t fk fv ys k, fun H' ⟨h1, h2, h3⟩ => ⟨xs.length - (i + 1), h1, rfl, hlt, h2, h3⟩, fun v H4 y => ?_⟩
      obtain ⟨ex, a, ea, hv⟩ := w.yld (wD O D) i H3 v H4 hlt (ew_un x3.1) S3.od (by rw [← hid_wD nD]; exact (x3.ex mo).ew) y
      rw [drop_at ea, dictT] at kc
      have x4 : XX E H3 H4 := .of_ex ex S3.inv
      have S4 := S3.ext x4
      have acc4 : Paired (DkRel e.enc r (hid H4 (wD O D))) acc ys := pmap hacc fun _ _ z => ⟨z.1, S3.rep x4 z.2⟩
      refine hg _ (wipe σ vs) H4 a v (S4.wipe vs) hv _ fun σ5 S5 _ h1 h2 => ⟨?_, ?_⟩
      · rw [h1 vs hj, wipe_wipe σ vs vs fun _ z => z]
      refine ht a _ σ5 H4 S5 _ kc _ fun b H5 kb x5 => ?_
      have acc5 : Paired (DkRel e.enc r (hid H5 (wD O D))) acc ys := pmap acc4 fun _ _ z => ⟨z.1, S4.rep x5 z.2⟩
      have hD5 := x5.keep (x4.keep hD nDM) nDM
      cases b with
      | false =>
        rw [if_neg Bool.false_ne_true] at kb ⊢
        exact ⟨by omega, (x3.trans x4).trans x5, acc, ys, hD5, acc5, Nat.le_succ_of_le hys, kb⟩
      | true =>
        rw [if_pos rfl] at kb ⊢
        refine hk' a _ σ5 H5 (S5.ext x5) _ kb _ fun ka' yk H6 kz x6 hu => ?_
        have S6 := (S5.ext x5).ext x6
        refine he a _ σ5 H6 S6 _ kz _ fun z u H7 kw x7 hw => ?_
        have hD7 := x7.keep (x6.keep hD5 nDM) nDM
        have x27 := (((x3.trans x4).trans x5).trans x6).trans x7
        have acc7 : Paired (DkRel e.enc r (hid H7 (wD O D))) acc ys := pmap acc5 fun _ _ z => ⟨z.1, ((S4.ext x5).ext x6).rep x7 ((S4.ext x5).rep x6 z.2)⟩
        have al := hacc.length
        have wl : xs.length ≤ 100000 := w.len
        refine ⟨acc, e.enc ka', Kr.is hu, hD7, lt_line (show acc.length < 100000 by omega), by omega, x27.put nD nDM (fun φ z => by rw [hD7] at z; cases z), _, _, upd_same, ?_, Nat.le_trans (dput_len _ _ _) (by omega), kw⟩
        rw [hid_put]
        exact paired_dputK hw acc7
    · have e : i = xs.length := by omega
      subst e
      rw [List.drop_length, dictT] at kc
      exact .inl ⟨w.stop H3 (ew_un x3.1), q ys D acc H3 kc (x2.trans x3) (x2.back nD) hD hacc (by have := hacc.length; have := w.len; omega)⟩

/-! ### empty containers -/
theorem el_nil : EL E sls (tLst tNil) r (fun k => k []) := fun O σ H S k hk Q q => ⟨Nat.zero_le _, fun p np => q [] p [] _ hk (S.new np).1 np upd_same .nil (Nat.zero_le _)⟩
theorem ed_new {e : Ky κ} : ED E sls tDNewK e r (fun k => k []) := fun O σ H S k hk Q q p np => q [] p [] _ hk (S.new np).1 np upd_same .nil (Nat.zero_le _)
theorem edt_new {e : Kt κ} : EDt E sls tDNewT e r (fun k => k []) := fun O σ H S k hk Q q p np => q [] p [] _ hk (S.new np).1 np upd_same .nil (Nat.zero_le _)

/-! ### calls of own defs -/
/-- the promise of a def that changes nothing of its caller's: it hands back what m says -/
def spP (f : RF K α) (r : R K β) (m : α → PT β) : Sp := fun vs H Q _ => ∃ (O : Addr → Prop) (a : α) (k : β → Prop), (∀ x, O x → ∃ u, H x = some u ∧ NT u) ∧ f.rp (hid H O) vs a ∧ m a k ∧ ∀ b v H2, k b → Ex H H2 → r.rp (hid H2 O) v b → Q v H2
theorem ev_call {f : RF K α} {m : α → PT β} {t : TA} {X0 : XK} {c : PT α} (h : EA E sls t f c) : EV E sls (tCall (spP f s m) [] X0 t) s (fun k => c fun a => m a k) := fun O σ H S k hk Q q =>
  h _ σ H S _ hk _ fun a vs H2 ka x hv => by
    have S2 := S.ext x
    refine ⟨O, a, k, S2.od, by rw [List.append_nil]; exact hv, ka, fun b v H3 kb ex hr => q b v H3 kb (x.trans (.of_ex ex S2.inv)) hr⟩
/-! ### what one owns, read as a value, where the result hangs on no heap -/
theorem set_self {σ : L2.St} {i : Nat} {o : Option V} (h : σ[i]? = some o) : σ.set i o = σ := by
  obtain ⟨h1, h2⟩ := List.getElem?_eq_some_iff.mp h
  rw [← h2, List.set_getElem_self]
theorem SL.thaw {i : Nat} {σ : L2.St} {H : Hp} {sl sl' : Sl K} (S : SL O E sls σ H) (h : sls[i]? = some sl) {p : Addr} (nM : ¬ E.M p)
    (hs : ∀ o, sl.p (hid H O) (hid H E.M) o → o = some (.ref p) → sl'.p (hid H fun a => O a ∧ a ≠ p) (hid H E.M) o) (hp : σ[i]? = some (some (.ref p))) : SL (fun a => O a ∧ a ≠ p) E (sls.set i sl') σ H := by
  obtain ⟨o, e, q⟩ := S.at h
  rw [hp] at e
  cases e
  refine ⟨?_, fun a h => S.od a h.1, fun a h => ⟨S.mo a h, fun e => nM (by rw [← e]; exact h)⟩, S.inv⟩
  have base : Paired (fun o (sl : Sl K) => sl.p (hid H fun a => O a ∧ a ≠ p) (hid H E.M) o) σ sls := pmap S.sl fun o sl h => sl.mono (ew_hid_le fun a h => h.1) (Ef.refl _) h
  have := paired_set (F := fun o (sl : Sl K) => sl.p (hid H fun a => O a ∧ a ≠ p) (hid H E.M) o) (hs _ q rfl) i base
  rwa [set_self hp] at this
theorem ev_thawD {i : Nat} {e : Ky κ} {r' : R K γ} {d : List (κ × γ)} (f : Flat r) (h0 : sls[i]? = some (slDk e r' d)) (h : EV E (sls.set i (slV (rDk e r') d)) te r c) : EV E sls te r c := fun O σ H S k hk Q q => by
  obtain ⟨o, eo, p, kvs, e1, hr, hp, hl⟩ := S.at h0
  subst e1
  obtain ⟨nM, hr⟩ := rd_hid.mp hr
  refine h _ σ H (S.thaw h0 nM (fun o ho eo' => ?_) eo) k hk Q fun a v H2 ka x hv => q a v H2 ka x (f hv)
  subst eo'
  exact ⟨_, rfl, p, kvs, rfl, rd_hid.mpr ⟨fun z => z.2 rfl, hr⟩, pmap hp fun _ _ z => ⟨z.1, r'.mono (ew_hid_le fun a h => h.1) z.2⟩, hl⟩
theorem et_thawD {i : Nat} {e : Ky κ} {r' : R K γ} {d : List (κ × γ)} {tt : TT} {c : PT Bool} (h0 : sls[i]? = some (slDk e r' d)) (h : ET E (sls.set i (slV (rDk e r') d)) tt c) : ET E sls tt c := fun O σ H S k hk Q q => by
  obtain ⟨o, eo, p, kvs, e1, hr, hp, hl⟩ := S.at h0
  subst e1
  obtain ⟨nM, hr⟩ := rd_hid.mp hr
  refine h _ σ H (S.thaw h0 nM (fun o ho eo' => ?_) eo) k hk Q fun a H2 ka x => q a H2 ka x
  subst eo'
  exact ⟨_, rfl, p, kvs, rfl, rd_hid.mpr ⟨fun z => z.2 rfl, hr⟩, pmap hp fun _ _ z => ⟨z.1, r'.mono (ew_hid_le fun a h => h.1) z.2⟩, hl⟩
theorem ev_thawL {i : Nat} {r' : R K γ} {d : List γ} (f : Flat r) (h0 : sls[i]? = some (slL r' d)) (h : EV E (sls.set i (slV (rLst r') d)) te r c) : EV E sls te r c := fun O σ H S k hk Q q => by
  obtain ⟨o, eo, p, kvs, e1, hr, hp, hl⟩ := S.at h0
  subst e1
  obtain ⟨nM, hr⟩ := rd_hid.mp hr
  refine h _ σ H (S.thaw h0 nM (fun o ho eo' => ?_) eo) k hk Q fun a v H2 ka x hv => q a v H2 ka x (f hv)
  subst eo'
  exact ⟨_, rfl, p, kvs, rfl, rd_hid.mpr ⟨fun z => z.2 rfl, hr⟩, pmap hp fun _ _ z => r'.mono (ew_hid_le fun a h => h.1) z, hl⟩
theorem et_thawL {i : Nat} {r' : R K γ} {d : List γ} {tt : TT} {c : PT Bool} (h0 : sls[i]? = some (slL r' d)) (h : ET E (sls.set i (slV (rLst r') d)) tt c) : ET E sls tt c := fun O σ H S k hk Q q => by
  obtain ⟨o, eo, p, kvs, e1, hr, hp, hl⟩ := S.at h0
  subst e1
  obtain ⟨nM, hr⟩ := rd_hid.mp hr
  refine h _ σ H (S.thaw h0 nM (fun o ho eo' => ?_) eo) k hk Q fun a H2 ka x => q a H2 ka x
  subst eo'
  exact ⟨_, rfl, p, kvs, rfl, rd_hid.mpr ⟨fun z => z.2 rfl, hr⟩, pmap hp fun _ _ z => r'.mono (ew_hid_le fun a h => h.1) z, hl⟩
theorem ev_thawDt {i : Nat} {e : Kt κ} {r' : R K γ} {d : List (κ × γ)} (f : Flat r) (h0 : sls[i]? = some (slDt e r' d)) (h : EV E (sls.set i (slV (rDt e r') d)) te r c) : EV E sls te r c := fun O σ H S k hk Q q => by
  obtain ⟨o, eo, p, kvs, e1, hr, hp, hl⟩ := S.at h0
  subst e1
  obtain ⟨nM, hr⟩ := rd_hid.mp hr
  refine h _ σ H (S.thaw h0 nM (fun o ho eo' => ?_) eo) k hk Q fun a v H2 ka x hv => q a v H2 ka x (f hv)
  subst eo'
  exact ⟨_, rfl, p, kvs, rfl, rd_hid.mpr ⟨fun z => z.2 rfl, hr⟩, pmap hp fun _ _ z => ⟨z.1, r'.mono (ew_hid_le fun a h => h.1) z.2⟩, hl⟩

/-! ### walks over dicts, locked -/
/-- a lock, where it is none yet -/
def tLk (t : TE) : TE := fun σ H Q => tLockE t σ H Q ∨ t σ H Q
theorem pe_lk {X : Cx} {e : Expr} {t : TE} (h : PE X e t) : PE X e (tLk t) := ⟨fun pins s σ H Q I hw => hw.elim (fun z => (pe_lock h).run pins s σ H Q I z) fun z => h.run pins s σ H Q I z⟩
def sLk (t : TS) : TS := fun D σ H => tLock t D σ H ∨ t D σ H
theorem ps_lk {X : Cx} {st : Stmt} {t : TS} (h : PS X st t) : PS X st (sLk t) := ⟨fun pins s σ H D I hw => hw.elim (fun z => (ps_lock h).run pins s σ H D I z) fun z => h.run pins s σ H D I z⟩
/-- a comprehension over a dict that a name holds -/
theorem XX.unlock {H H2 : Hp} {p : Addr} {od : Obj} {u : HO} (nM : ¬ E.M p) (h : H p = some u) (x : XX E (upd H p (.frz od u)) H2) : XX E H (upd H2 p u) := ⟨fun a w e => by
  obtain ⟨na, e⟩ := of_hid e
  rw [hid_out na]
  by_cases c : a = p
  · subst c
    rw [h] at e
    cases e
    exact upd_same
  · rw [upd_ne c]
    have := x.1 a w (by rw [hid_out na, upd_ne c]; exact e)
    exact (of_hid this).2, E.mono (fun a ha => upd_ne fun e => nM (by subst e; exact ha)) (ext_upd (frz_nx (x.keep upd_same nM))) x.2⟩
theorem rd_one {H : Hp} {p : Addr} {u w : HO} (h : Rd H p u) (h' : Rd H p w) (pu : Pl u) (pw : Pl w) : w = u := by
  rcases h with h | ⟨o, h⟩ <;> rcases h' with h' | ⟨o', h'⟩ <;> rw [h] at h' <;> cases h'
  · rfl
  · exact pu.elim
  · exact pw.elim
  · rfl
/-- a slot in which a dict stands that may be walked, and what it is when it is locked -/
structure Lkb (sl sl' : Sl K) : Prop where
  lk : ∀ {H : Hp} {O M : Addr → Prop} {o : Option V}, (∀ a, M a → O a) → sl.p (hid H O) (hid H M) o → ∃ p u, o = some (.ref p) ∧ Rd (hid H M) p u ∧ Pl u ∧ ∀ {F' H' : Hp} {od : Obj}, Ew (hid H O) F' → H' p = some (.frz od u) → sl'.p F' H' (some (.ref p))
theorem lk_own {e : Ky κ} {d : List (κ × α)} : Lkb (slDk e r d) (slDkF e r d) := ⟨fun mo ⟨p, kvs, eo, hr, hp, hl⟩ => ⟨p, .dK kvs, eo, hr, True.intro, fun w hf => ⟨p, _, kvs, rfl, hf, pmap hp fun _ _ z => ⟨z.1, r.mono w z.2⟩, hl⟩⟩⟩
theorem lk_ownT {e : Kt κ} {d : List (κ × α)} : Lkb (slDt e r d) (slDtF e r d) := ⟨fun mo ⟨p, kvs, eo, hr, hp, hl⟩ => ⟨p, .dT kvs, eo, hr, True.intro, fun w hf => ⟨p, _, kvs, rfl, hf, pmap hp fun _ _ z => ⟨z.1, r.mono w z.2⟩, hl⟩⟩⟩
theorem lk_val {e : Ky κ} {d : List (κ × α)} : Lkb (slV (rDk e r) d) (slDkF e r d) := ⟨fun mo ⟨v, eo, p, kvs, ev, hr, hp, hl⟩ => ⟨p, .dK kvs, by rw [eo, ev], (ew_hid_le mo).rd _ _ (by exact True.intro) hr, True.intro, fun w hf => ⟨p, _, kvs, rfl, hf, pmap hp fun _ _ z => ⟨z.1, r.mono w z.2⟩, hl⟩⟩⟩
theorem lk_valT {e : Kt κ} {d : List (κ × α)} : Lkb (slV (rDt e r) d) (slDtF e r d) := ⟨fun mo ⟨v, eo, p, kvs, ev, hr, hp, hl⟩ => ⟨p, .dT kvs, by rw [eo, ev], (ew_hid_le mo).rd _ _ (by exact True.intro) hr, True.intro, fun w hf => ⟨p, _, kvs, rfl, hf, pmap hp fun _ _ z => ⟨z.1, r.mono w z.2⟩, hl⟩⟩⟩
theorem lk_F {e : Ky κ} {d : List (κ × α)} : Lkb (slDkF e r d) (slDkF e r d) := ⟨fun mo ⟨p, od, kvs, eo, hr, hp, hl⟩ => ⟨p, .dK kvs, eo, .inr ⟨od, hr⟩, True.intro, fun w hf => ⟨p, _, kvs, rfl, hf, pmap hp fun _ _ z => ⟨z.1, r.mono w z.2⟩, hl⟩⟩⟩
theorem lk_FT {e : Kt κ} {d : List (κ × α)} : Lkb (slDtF e r d) (slDtF e r d) := ⟨fun mo ⟨p, od, kvs, eo, hr, hp, hl⟩ => ⟨p, .dT kvs, eo, .inr ⟨od, hr⟩, True.intro, fun w hf => ⟨p, _, kvs, rfl, hf, pmap hp fun _ _ z => ⟨z.1, r.mono w z.2⟩, hl⟩⟩⟩
/-- the two ways of a lock -/
theorem lk_cases {i : Nat} {sl sl' : Sl K} (L : Lkb sl sl') (h0 : sls[i]? = some sl) {σ : L2.St} {H : Hp} (S : SL O E sls σ H) :
    ∃ p u, σ[i]? = some (some (.ref p)) ∧ ¬ E.M p ∧ Pl u ∧ ((H p = some u ∧ ∀ od, SL O E (sls.set i sl') σ (upd H p (.frz od u))) ∨ ((∃ od, H p = some (.frz od u)) ∧ SL O E (sls.set i sl') σ H)) := by
  obtain ⟨o, e, q⟩ := S.at h0
  obtain ⟨p, u, eo, hr, pu, f⟩ := L.lk S.mo q
  subst eo
  obtain ⟨nM, hr⟩ := rd_hid.mp hr
  refine ⟨p, u, e, nM, pu, ?_⟩
  rcases hr with hr | ⟨od, hr⟩
  · refine .inl ⟨hr, fun od => ?_⟩
    have ef := Ef.lock od hr pu.mut
    refine ⟨?_, fun a h => ?_, S.mo, E.mono (fun a ha => upd_ne fun e => nM (by subst e; exact ha)) (ext_upd (pu.nx hr)) S.inv⟩
    · have base : Paired (fun o (sl : Sl K) => sl.p (hid (upd H p (.frz od u)) O) (hid (upd H p (.frz od u)) E.M) o) σ sls := pmap S.sl fun o sl h => sl.mono (ef.ew.hid _) (ef.hid _) h
      have := paired_set (F := fun o (sl : Sl K) => sl.p (hid (upd H p (.frz od u)) O) (hid (upd H p (.frz od u)) E.M) o) (f (F' := hid (upd H p (.frz od u)) O) (H' := hid (upd H p (.frz od u)) E.M) (od := od) (ef.ew.hid _) (by rw [hid_out nM]; exact upd_same)) i base
      rwa [set_self e] at this
    · obtain ⟨w, hw, nt⟩ := S.od a h
      by_cases c : a = p
      · subst c; exact ⟨_, upd_same, fun _ z => by cases z⟩
      · exact ⟨w, by rw [upd_ne c]; exact hw, nt⟩
  · refine .inr ⟨⟨od, hr⟩, ?_, S.od, S.mo, S.inv⟩
    have := paired_set (F := fun o (sl : Sl K) => sl.p (hid H O) (hid H E.M) o) (f (F' := hid H O) (H' := hid H E.M) (od := od) (Ew.refl _) (by rw [hid_out nM]; exact hr)) i S.sl
    rwa [set_self e] at this
theorem lock_free {H : Hp} {p q : Addr} {u : HO} (h : upd H p u q = none) : q ≠ p ∧ H q = none := by
  by_cases c : q = p
  · subst c; rw [upd_same] at h; cases h
  · rw [upd_ne c] at h; exact ⟨c, h⟩
theorem el_lk {i : Nat} {sl sl' : Sl K} (L : Lkb sl sl') (h0 : sls[i]? = some sl) {c : PT (List α)} (h : EL E (sls.set i sl') te r c) : EL E sls (tLk te) r c := fun O σ H S k hk Q q => by
  obtain ⟨p, u, e, nM, pu, z⟩ := lk_cases L h0 S
  rcases z with ⟨hp, S'⟩ | ⟨_, S'⟩
  · refine .inl ⟨p, u, hp, pu.mut, fun od => h _ σ _ (S' od) k hk _ fun xs P vs H2 ka x nP hP hr hl => ?_⟩
    obtain ⟨ne, nP⟩ := lock_free nP
    have x' := x.unlock nM hp
    have h2 : H2 p = some (.frz od u) := x.keep upd_same nM
    exact ⟨h2, q xs P vs _ ka x' nP (by rw [upd_ne ne]; exact hP) (pmap hr fun _ _ z => r.mono ((Ew.unlock h2).hid _) z) hl⟩
  · exact .inr (h _ σ _ S' k hk Q q)
theorem ed_lk [DecidableEq κ] {e : Ky κ} {i : Nat} {sl sl' : Sl K} (L : Lkb sl sl') (h0 : sls[i]? = some sl) {c : PT (List (κ × α))} (h : ED E (sls.set i sl') te e r c) : ED E sls (tLk te) e r c := fun O σ H S k hk Q q => by
  obtain ⟨p, u, e, nM, pu, z⟩ := lk_cases L h0 S
  rcases z with ⟨hp, S'⟩ | ⟨_, S'⟩
  · refine .inl ⟨p, u, hp, pu.mut, fun od => h _ σ _ (S' od) k hk _ fun xs P vs H2 ka x nP hP hr hl => ?_⟩
    obtain ⟨ne, nP⟩ := lock_free nP
    have x' := x.unlock nM hp
    have h2 : H2 p = some (.frz od u) := x.keep upd_same nM
    exact ⟨h2, q xs P vs _ ka x' nP (by rw [upd_ne ne]; exact hP) (pmap hr fun _ _ z => ⟨z.1, r.mono ((Ew.unlock h2).hid _) z.2⟩) hl⟩
  · exact .inr (h _ σ _ S' k hk Q q)
/-- a locked dict's keys, items -/
theorem key_get {e : Ky κ} {rk : R K κ} (Kr : ∀ {H a}, rk.rp H (kV (e.enc a)) a) {F : Hp} {vs : List (Key × V)} {d : List (κ × α)} (h : Paired (DkRel e.enc r F) vs d) {i : Nat} {k : Key} {v : V} (hi : vs[i]? = some (k, v)) : ∃ p, d[i]? = some p ∧ k = e.enc p.1 ∧ r.rp F v p.2 := by
  induction h generalizing i with
  | nil => simp at hi
  | cons h t ih =>
    cases i with
    | zero =>
      simp at hi
      subst hi
      exact ⟨_, rfl, h.1, h.2⟩
    | succ i => simpa using ih (i := i) (by simpa using hi)
structure KyW (rk : R K κ) (e : Ky κ) : Prop where
  is : ∀ {H a}, rk.rp H (kV (e.enc a)) a
theorem kyw_int : KyW (rInt (K := K)) kyI := ⟨rfl⟩
theorem kyw_str : KyW (rStr (K := K)) kyS := ⟨rfl⟩
theorem iw_keys {e : Ky κ} {rk : R K κ} (Kw : KyW rk e) {F B : Hp} {p : Addr} {od : Obj} {vs : List (Key × V)} {d : List (κ × α)} (hB : B p = some (.frz od (.dK vs))) (hp : Paired (DkRel e.enc r F) vs d) (hl : vs.length ≤ big) : IW F B rk (d.map (·.1)) (Itk p od vs) := by
  have e1 := hp.length
  refine ⟨by rw [List.length_map]; omega, fun i H3 hi w => ⟨w.fz _ _ _ hB, by rw [List.length_map] at hi; omega⟩, fun H3 w => ⟨w.fz _ _ _ hB, by rw [List.length_map]; omega⟩, fun O' i H3 x H4 hi w od' wf y => ?_⟩
  obtain ⟨e4, k, v, ek, ex⟩ := y
  subst e4 ex
  obtain ⟨q, eq, rfl, _⟩ := key_get (rk := rk) Kw.is hp ek
  exact ⟨Ex.refl _, q.1, by rw [List.getElem?_map, eq]; rfl, Kw.is⟩
theorem ir_keysF {e : Ky κ} {rk : R K κ} (Kw : KyW rk e) {i : Nat} {d : List (κ × α)} (h0 : sls[i]? = some (slDkF e r d)) : IR E sls (iKeys (tVar i)) rk (fun k => k (d.map (·.1))) := fun O σ H S k hk Rr q => by
  obtain ⟨o, eo, p, od, kvs, e1, hr, hp, hl⟩ := S.at h0
  subst e1
  exact ⟨_, eo, p, od, rfl, .inl ⟨kvs, (of_hid hr).2, q _ _ H hk (XX.refl S) (iw_keys Kw hr hp hl)⟩⟩
theorem iw_items {e : Ky κ} {rk : R K κ} (Kw : KyW rk e) {F B : Hp} {p : Addr} {od : Obj} {vs : List (Key × V)} {d : List (κ × α)} (hB : B p = some (.frz od (.dK vs))) (hp : Paired (DkRel e.enc r F) vs d) (hl : vs.length ≤ big) : IW F B (rPr (fc rk (f1 r))) d (Iti p od vs) := by
  have e1 := hp.length
  refine iw_pair (p := p) (xs := []) (ys := []) (by omega) (fun i H3 hi w => ⟨w.fz _ _ _ hB, by omega⟩) (fun H3 w => ⟨w.fz _ _ _ hB, by omega⟩) (fun i H3 v H4 hi w y => ?_)
  obtain ⟨T, k, v', ek, h2, h3, h4⟩ := y
  obtain ⟨q, eq, rfl, hv⟩ := key_get (rk := rk) Kw.is hp ek
  exact ⟨T, _, _, h2, h3, h4, q, eq, Kw.is, hv⟩
theorem ir_itemsF {e : Ky κ} {rk : R K κ} (Kw : KyW rk e) {i : Nat} {d : List (κ × α)} (h0 : sls[i]? = some (slDkF e r d)) : IR E sls (iItems (tVar i)) (rPr (fc rk (f1 r))) (fun k => k d) := fun O σ H S k hk Rr q => by
  obtain ⟨o, eo, p, od, kvs, e1, hr, hp, hl⟩ := S.at h0
  subst e1
  exact ⟨_, eo, p, od, kvs, rfl, (of_hid hr).2, q _ _ H hk (XX.refl S) (iw_items Kw hr hp hl)⟩
theorem getT {e : Kt κ} {F : Hp} {vs : List (List Key × V)} {d : List (κ × α)} (h : Paired (DtRel e.enc r F) vs d) {i : Nat} {k : List Key} {v : V} (hi : vs[i]? = some (k, v)) : ∃ p, d[i]? = some p ∧ k = e.enc p.1 ∧ r.rp F v p.2 := by
  induction h generalizing i with
  | nil => simp at hi
  | cons h t ih =>
    cases i with
    | zero =>
      simp at hi
      subst hi
      exact ⟨_, rfl, h.1, h.2⟩
    | succ i => simpa using ih (i := i) (by simpa using hi)
/-- tuples that are keys, as values -/
structure KtW (rk : R K κ) (e : Kt κ) : Prop where
  is : ∀ {H : Hp} {a : κ} {p : Addr}, H p = some (.tup ((e.enc a).map kV)) → rk.rp H (.ref p) a
theorem ktw_ii {μ : Type} {rk : R K κ} {rm : R K μ} {ek : Ky κ} {em : Ky μ} (h1 : KyW rk ek) (h2 : KyW rm em) : KtW (rPr (fc rk (f1 rm))) (ktP ek em) := ⟨fun {H a p} h => ⟨p, _, rfl, .inl h, _, _, rfl, h1.is, _, rfl, h2.is⟩⟩
theorem iw_keysT {e : Kt κ} {rk : R K κ} (Kw : KtW rk e) {F B : Hp} {p : Addr} {od : Obj} {vs : List (List Key × V)} {d : List (κ × α)} (hB : B p = some (.frz od (.dT vs))) (hp : Paired (DtRel e.enc r F) vs d) (hl : vs.length ≤ big) : IW F B rk (d.map (·.1)) (Itkt p od vs) := by
  have e1 := hp.length
  refine ⟨by rw [List.length_map]; omega, fun i H3 hi w => ⟨w.fz _ _ _ hB, by rw [List.length_map] at hi; omega⟩, fun H3 w => ⟨w.fz _ _ _ hB, by rw [List.length_map]; omega⟩, fun O' i H3 x H4 hi w od' wf y => ?_⟩
  obtain ⟨e4, k, v, q, ek, ex, eq⟩ := y
  subst e4 ex
  obtain ⟨pr, epr, rfl, _⟩ := getT hp ek
  refine ⟨Ex.refl _, pr.1, by rw [List.getElem?_map, epr]; rfl, Kw.is ?_⟩
  rw [hid_out fun z => ?_]
  · exact eq
  · obtain ⟨u, hu, nt⟩ := od' q z
    rw [eq] at hu
    cases hu
    exact nt _ rfl
theorem ir_keysTF {e : Kt κ} {rk : R K κ} (Kw : KtW rk e) {i : Nat} {d : List (κ × α)} (h0 : sls[i]? = some (slDtF e r d)) : IR E sls (iKeys (tVar i)) rk (fun k => k (d.map (·.1))) := fun O σ H S k hk Rr q => by
  obtain ⟨o, eo, p, od, kvs, e1, hr, hp, hl⟩ := S.at h0
  subst e1
  exact ⟨_, eo, p, od, rfl, .inr ⟨kvs, (of_hid hr).2, q _ _ H hk (XX.refl S) (iw_keysT Kw hr hp hl)⟩⟩
end
end Nz

/-! Nz5: statements. -/
namespace Nz
open PySem L2
variable {K : PySem.W.Frag} {E : Eff}
section
variable {α β γ κ S : Type} {te ta tb tc : TE}

def OwnOf (O0 : Addr → Prop) (own : List Nat) (σ : L2.St) : Addr → Prop := fun a => O0 a ∨ ∃ i ∈ own, σ[i]? = some (some (.ref a))
structure SI (E : Eff) (O0 : Addr → Prop) (H0 G : Hp) (sls : List (Sl K)) (own : List Nat) (σ : L2.St) (H : Hp) : Prop where
  sl : SL (OwnOf O0 own σ) E sls σ H
  h0 : Ex (hid H0 E.M) (hid H E.M)
  g : Ef G (hid H (OwnOf O0 own σ))
  ow : ∀ i ∈ own, ∃ p u, σ[i]? = some (some (.ref p)) ∧ G p = none ∧ H0 p = none ∧ ¬ E.M p ∧ ¬ O0 p ∧ H p = some u ∧ Pl u
  ap : ∀ i ∈ own, ∀ j ∈ own, σ[i]? = σ[j]? → i = j
  mo : ∀ a, E.M a → O0 a
  hk : ∀ j sl, sls[j]? = some sl → sl.hp = true → j ∈ own
section
variable {O0 : Addr → Prop} {H0 G : Hp} {sls : List (Sl K)} {own own' : List Nat} {σ : L2.St} {H H' : Hp} {r : R K α}
theorem SI.ext (I : SI E O0 H0 G sls own σ H) (x : XX E H H') : SI E O0 H0 G sls own σ H' where
  sl := I.sl.ext x
  h0 := I.h0.trans x.1
  g := I.g.trans (x.ex I.sl.mo).ef
  ow := fun i hi => by
    obtain ⟨p, u, a, b, c, d, e, f, g⟩ := I.ow i hi
    exact ⟨p, u, a, b, c, d, e, x.keep f d, g⟩
  ap := I.ap
  mo := I.mo
  hk := I.hk
theorem own_le {O0 : Addr → Prop} {own own' : List Nat} {σ σ' : L2.St} (h : ∀ j ∈ own', j ∈ own ∧ σ'[j]? = σ[j]?) : ∀ a, OwnOf O0 own' σ' a → OwnOf O0 own σ a := fun a ha => ha.elim .inl fun ⟨j, hj, e⟩ => .inr ⟨j, (h j hj).1, (h j hj).2 ▸ e⟩
/-- slots changed that are not one's own any more; what stands there is known -/
theorem SI.chg {sls' : List (Sl K)} {σ' : L2.St} (I : SI E O0 H0 G sls own σ H) (ho : ∀ j ∈ own', j ∈ own ∧ σ'[j]? = σ[j]?) (hs : Paired (fun o (sl : Sl K) => sl.p (hid H (OwnOf O0 own' σ')) (hid H E.M) o) σ' sls')
    (hk : ∀ j sl, sls'[j]? = some sl → sl.hp = true → j ∈ own') : SI E O0 H0 G sls' own' σ' H where
  sl := ⟨hs, fun a h => I.sl.od a (own_le ho a h), fun a h => .inl (I.mo a h), I.sl.inv⟩
  h0 := I.h0
  g := I.g.trans (ef_hid_le (own_le ho))
  ow := fun i hi => by
    obtain ⟨p, u, a, q⟩ := I.ow i (ho i hi).1
    exact ⟨p, u, (ho i hi).2.trans a, q⟩
  ap := fun i hi j hj e => I.ap i (ho i hi).1 j (ho j hj).1 (by rw [← (ho i hi).2, ← (ho j hj).2]; exact e)
  mo := I.mo
  hk := hk
theorem at_ne {α : Type} {xs : List α} {i j : Nat} {a : α} (h : j ≠ i) : (xs.set i a)[j]? = xs[j]? := List.getElem?_set_ne (Ne.symm h)
def rmv (own : List Nat) (i : Nat) : List Nat := own.filter fun j => decide (j ≠ i)
theorem mem_rmv {own : List Nat} {i j : Nat} : j ∈ rmv own i ↔ j ∈ own ∧ j ≠ i := by unfold rmv; simp
theorem set_sl {i : Nat} {o : Option V} {sl : Sl K} {F H : Hp} {sls : List (Sl K)} {σ : L2.St} (h : sl.p F H o) (t : Paired (fun o (sl : Sl K) => sl.p F H o) σ sls) : Paired (fun o (sl : Sl K) => sl.p F H o) (σ.set i o) (sls.set i sl) := paired_set (F := fun o (sl : Sl K) => sl.p F H o) h i t
/-- a slot set to what is known by what one does not own -/
theorem SI.setS {i : Nat} {o : Option V} {sl : Sl K} (I : SI E O0 H0 G sls own σ H) (hp : sl.hp = false) (hv : sl.p (hid H (OwnOf O0 own σ)) (hid H E.M) o) : SI E O0 H0 G (sls.set i sl) (rmv own i) (σ.set i o) H := by
  have h1 : ∀ j ∈ rmv own i, j ∈ own ∧ (σ.set i o)[j]? = σ[j]? := fun j hj => ⟨(mem_rmv.mp hj).1, at_ne (mem_rmv.mp hj).2⟩
  refine I.chg h1 ?_ fun j s hj hs => ?_
  · exact set_sl (sl.mono (ew_hid_le (own_le h1)) (Ef.refl _) hv) (pmap I.sl.sl fun o sl h => sl.mono (ew_hid_le (own_le h1)) (Ef.refl _) h)
  · by_cases c : j = i
    · subst c
      by_cases hl : j < sls.length
      · rw [List.getElem?_set_self hl] at hj
        cases hj
        rw [hp] at hs
        cases hs
      · rw [List.getElem?_eq_none (by simpa using hl)] at hj
        cases hj
    · rw [at_ne c] at hj
      exact mem_rmv.mpr ⟨I.hk j s hj hs, c⟩
theorem SI.set {i : Nat} {v : V} {a : α} (I : SI E O0 H0 G sls own σ H) (hv : r.rp (hid H (OwnOf O0 own σ)) v a) : SI E O0 H0 G (sls.set i (slV r a)) (rmv own i) (σ.set i (some v)) H := I.setS rfl ⟨v, rfl, hv⟩
/-- a new thing of one's own in slot i -/
theorem SI.made {i : Nat} {p : Addr} {u : HO} {sl : Sl K} (I : SI E O0 H0 G sls own σ H) (x : XX E H H') (np : H p = none) (hu : H' p = some u) (pu : Pl u)
    (hs : sl.p (hid H' (wD (OwnOf O0 own σ) p)) (hid H' E.M) (some (.ref p))) (hi : i < sls.length) : SI E O0 H0 G (sls.set i sl) (i :: rmv own i) (σ.set i (some (.ref p))) H' := by
  have nO : ¬ OwnOf O0 own σ p := I.sl.nOn np
  have nM : ¬ E.M p := fun z => nO (I.sl.mo p z)
  have hl : i < σ.length := by rw [I.sl.sl.length]; exact hi
  have ho : ∀ j ∈ rmv own i, j ∈ own ∧ j ≠ i := fun j hj => mem_rmv.mp hj
  have le : ∀ a, OwnOf O0 (i :: rmv own i) (σ.set i (some (.ref p))) a → wD (OwnOf O0 own σ) p a := fun a ha => by
    rcases ha with ha | ⟨j, hj, e⟩
    · exact .inl (.inl ha)
    · rcases List.mem_cons.mp hj with rfl | hj
      · rw [List.getElem?_set_self hl] at e
        cases e
        exact .inr rfl
      · rw [at_ne (ho j hj).2] at e
        exact .inl (.inr ⟨j, (ho j hj).1, e⟩)
  have S1 := I.sl.withD np x ⟨u, hu, pu.nt⟩
  refine ⟨⟨?_, fun a h => S1.od a (le a h), fun a h => .inl (I.mo a h), x.2⟩, I.h0.trans x.1, ?_, fun j hj => ?_, fun j hj j' hj' e => ?_, I.mo, fun j s hj hp => ?_⟩
  · exact set_sl (sl.mono (ew_hid_le le) (Ef.refl _) hs) (pmap S1.sl fun o sl h => sl.mono (ew_hid_le le) (Ef.refl _) h)
  · have e1 := I.g
    rw [← hid_wD np] at e1
    exact (e1.trans (x.ex (O := wD (OwnOf O0 own σ) p) fun a h => .inl (I.sl.mo a h)).ef).trans (ef_hid_le le)
  · rcases List.mem_cons.mp hj with rfl | hj
    · refine ⟨p, u, List.getElem?_set_self hl, ?_, ?_, nM, fun z => nO (.inl z), hu, pu⟩
      · cases q : G p with
        | none => rfl
        | some w =>
          obtain ⟨w', h'⟩ := I.g.ex p w q
          rw [(of_hid h').2] at np
          cases np
      · cases q : H0 p with
        | none => rfl
        | some w =>
          have := I.h0 p w (by rw [hid_out nM]; exact q)
          rw [(of_hid this).2] at np
          cases np
    · obtain ⟨q, w, a, b, c, d, e, f, g⟩ := I.ow j (ho j hj).1
      exact ⟨q, w, by rw [at_ne (ho j hj).2]; exact a, b, c, d, e, x.keep f d, g⟩
  · have at' : ∀ k ∈ rmv own i, ∃ q, (σ.set i (some (.ref p)))[k]? = some (some (.ref q)) ∧ q ≠ p := fun k hk => by
      obtain ⟨q, w, a, _, _, _, _, f, _⟩ := I.ow k (ho k hk).1
      exact ⟨q, by rw [at_ne (ho k hk).2]; exact a, ne_of_none f np⟩
    rcases List.mem_cons.mp hj with rfl | hj <;> rcases List.mem_cons.mp hj' with rfl | hj'
    · rfl
    · obtain ⟨q, a, n⟩ := at' j' hj'
      rw [a, List.getElem?_set_self hl] at e
      cases e
      exact (n rfl).elim
    · obtain ⟨q, a, n⟩ := at' j hj
      rw [a, List.getElem?_set_self hl] at e
      cases e
      exact (n rfl).elim
    · rw [at_ne (ho j hj).2, at_ne (ho j' hj').2] at e
      exact I.ap j (ho j hj).1 j' (ho j' hj').1 e
  · by_cases c : j = i
    · subst c; exact List.mem_cons_self
    · rw [at_ne c] at hj
      exact List.mem_cons_of_mem _ (mem_rmv.mpr ⟨I.hk j s hj hp, c⟩)
/-- one's own is changed -/
theorem SI.mut {i : Nat} {p : Addr} {u : HO} {sl : Sl K} (I : SI E O0 H0 G sls own σ H) (hi : i ∈ own) (e : σ[i]? = some (some (.ref p))) (pu : Pl u) (hs : sl.p (hid H (OwnOf O0 own σ)) (hid (upd H p u) E.M) (some (.ref p))) :
    SI E O0 H0 G (sls.set i sl) own σ (upd H p u) := by
  obtain ⟨p', u', e', Gp, H0p, nM, nO0, hp, pu'⟩ := I.ow i hi
  rw [e] at e'
  cases e'
  have Op : OwnOf O0 own σ p := .inr ⟨i, hi, e⟩
  have hh : hid (upd H p u) (OwnOf O0 own σ) = hid H (OwnOf O0 own σ) := funext fun a => by
    by_cases c : OwnOf O0 own σ a
    · rw [hid_in c, hid_in c]
    · rw [hid_out c, hid_out c, upd_ne fun e => c (by subst e; exact Op)]
  refine ⟨⟨?_, fun a h => ?_, I.sl.mo, E.mono (fun a ha => upd_ne fun e => nM (by subst e; exact ha)) (ext_upd (pu'.nx hp)) I.sl.inv⟩, fun a w q => ?_, by rw [hh]; exact I.g, fun j hj => ?_, I.ap, I.mo, fun j s hj hp => ?_⟩
  · rw [hh]
    -- every other slot stands
    have all : ∀ (τ : L2.St) (ts : List (Sl K)) (n : Nat), (∀ (j : Nat) (o : Option V) (s : Sl K), j ≠ n → τ[j]? = some o → ts[j]? = some s → s.hp = true → o ≠ some (.ref p)) → Paired (fun o (sl : Sl K) => sl.p (hid H (OwnOf O0 own σ)) (hid H E.M) o) τ ts → n < τ.length → τ[n]? = some (some (.ref p)) →
        Paired (fun o (sl : Sl K) => sl.p (hid H (OwnOf O0 own σ)) (hid (upd H p u) E.M) o) τ (ts.set n sl) := by
      intro τ ts
      have one : ∀ o (s : Sl K), (s.hp = true → o ≠ some (.ref p)) → s.p (hid H (OwnOf O0 own σ)) (hid H E.M) o → s.p (hid H (OwnOf O0 own σ)) (hid (upd H p u) E.M) o := fun o s hn h => by
        cases q : s.hp with
        | false => exact s.no q h
        | true => exact s.yes (fun a ea => by
            have ne : a ≠ p := fun z => hn q (by rw [ea, z])
            by_cases m : E.M a
            · rw [hid_in m, hid_in m]
            · rw [hid_out m, hid_out m, upd_ne ne]) h
      have rest : ∀ (τ : L2.St) (ts : List (Sl K)), (∀ (j : Nat) (o : Option V) (s : Sl K), τ[j]? = some o → ts[j]? = some s → s.hp = true → o ≠ some (.ref p)) → Paired (fun o (sl : Sl K) => sl.p (hid H (OwnOf O0 own σ)) (hid H E.M) o) τ ts → Paired (fun o (sl : Sl K) => sl.p (hid H (OwnOf O0 own σ)) (hid (upd H p u) E.M) o) τ ts := by
        intro τ ts hn h
        induction h with
        | nil => exact .nil
        | cons h t ih => exact .cons (one _ _ (fun q => hn 0 _ _ rfl rfl q) h) (ih fun j o s a b q => hn (j + 1) o s (by simpa using a) (by simpa using b) q)
      intro n hn h hlt en
      induction h generalizing n with
      | nil => simp at en
      | cons h t ih =>
        cases n with
        | zero =>
          simp at en
          subst en
          exact .cons hs (rest _ _ (fun j o s a b q => hn (j + 1) o s (by omega) (by simpa using a) (by simpa using b) q) t)
        | succ n => exact .cons (one _ _ (fun q => hn 0 _ _ (by omega) rfl rfl q) h) (ih n (fun j o s c a b q => hn (j + 1) o s (by omega) (by simpa using a) (by simpa using b) q) (by simpa using hlt) (by simpa using en))
    refine all σ sls i (fun j o s c a b q z => ?_) I.sl.sl (List.getElem?_eq_some_iff.mp e).1 e
    subst z
    exact c (I.ap j (I.hk j s b q) i hi (by rw [a, e]))
  · obtain ⟨w, hw, nt⟩ := I.sl.od a h
    by_cases c : a = p
    · subst c; exact ⟨u, upd_same, pu.nt⟩
    · exact ⟨w, by rw [upd_ne c]; exact hw, nt⟩
  · have := I.h0 a w q
    obtain ⟨na, q⟩ := of_hid q
    rw [hid_out na, upd_ne (ne_of_none q H0p)]
    exact (of_hid this).2
  · obtain ⟨q, w, a, b, c, d, e1, f, g⟩ := I.ow j hj
    by_cases z : q = p
    · subst z; exact ⟨q, u, a, b, c, d, e1, upd_same, pu⟩
    · exact ⟨q, w, a, b, c, d, e1, by rw [upd_ne z]; exact f, g⟩
  · by_cases c : j = i
    · subst c; exact hi
    · rw [at_ne c] at hj
      exact I.hk j s hj hp
/-- seen from another beginning -/
theorem SI.ghost {G' : Hp} (I : SI E O0 H0 G sls own σ H) (f : Ef G' G) : SI E O0 H0 G' sls own σ H := ⟨I.sl, I.h0, f.trans I.g, (fun i hi => by
  obtain ⟨p, u, a, b, q⟩ := I.ow i hi
  refine ⟨p, u, a, ?_, q⟩
  cases z : G' p with
  | none => rfl
  | some w =>
    obtain ⟨w', h⟩ := f.ex p w z
    rw [b] at h
    cases h), I.ap, I.mo, I.hk⟩
theorem SI.fresh (I : SI E O0 H0 G sls own σ H) : SI E O0 H0 (hid H (OwnOf O0 own σ)) sls own σ H := ⟨I.sl, I.h0, Ef.refl _, (fun i hi => by
  obtain ⟨p, u, a, b, q⟩ := I.ow i hi
  exact ⟨p, u, a, hid_in (.inr ⟨i, hi, a⟩), q⟩), I.ap, I.mo, I.hk⟩
end

/-! ### weakening of slots -/
/-- slot by slot: what is known less -/
structure Wk (a b : Sl K) : Prop where
  to : ∀ {F H : Hp} {o : Option V}, a.p F H o → b.p F H o
inductive Wks (own' : List Nat) : Nat → List (Sl K) → List (Sl K) → Prop
  | nil {n : Nat} : Wks own' n [] []
  | step {n : Nat} {a b : Sl K} {s t : List (Sl K)} : Wk a b → b.hp = false ∨ n ∈ own' → Wks own' (n + 1) s t → Wks own' n (a :: s) (b :: t)
theorem wk_k {own' : List Nat} {n : Nat} {a : Sl K} {s t : List (Sl K)} (h : a.hp = false) (w : Wks own' (n + 1) s t) : Wks own' n (a :: s) (a :: t) := .step ⟨fun h => h⟩ (.inl h) w
theorem wk_o {own' : List Nat} {n : Nat} {a : Sl K} {s t : List (Sl K)} (h : n ∈ own') (w : Wks own' (n + 1) s t) : Wks own' n (a :: s) (a :: t) := .step ⟨fun h => h⟩ (.inr h) w
theorem wk_a {own' : List Nat} {n : Nat} {a : Sl K} {s t : List (Sl K)} (w : Wks own' (n + 1) s t) : Wks own' n (a :: s) (slAny :: t) := .step ⟨fun _ => True.intro⟩ (.inl rfl) w
theorem Wks.sl {own' : List Nat} {n : Nat} {s t : List (Sl K)} (w : Wks own' n s t) {σ : L2.St} {F H : Hp} (h : Paired (fun o (sl : Sl K) => sl.p F H o) σ s) : Paired (fun o (sl : Sl K) => sl.p F H o) σ t := by
  induction w generalizing σ with
  | nil => cases h; exact .nil
  | step w _ t ih => cases h with | cons h1 h2 => exact .cons (w.to h1) (ih h2)
theorem Wks.hk {own' : List Nat} {n : Nat} {s t : List (Sl K)} (w : Wks own' n s t) : ∀ (j : Nat) (sl : Sl K), t[j]? = some sl → sl.hp = true → n + j ∈ own' := by
  induction w with
  | nil => intro j sl h; simp at h
  | step w h t ih =>
    intro j sl hj hp
    cases j with
    | zero =>
      simp at hj
      subst hj
      rcases h with h | h
      · rw [h] at hp; cases hp
      · exact h
    | succ j =>
      have := ih j sl (by simpa using hj) hp
      rwa [Nat.add_right_comm, Nat.add_assoc] at this
theorem SI.wk {O0 : Addr → Prop} {H0 G : Hp} {sls sls' : List (Sl K)} {own own' : List Nat} {σ : L2.St} {H : Hp} (I : SI E O0 H0 G sls own σ H) (w : Wks own' 0 sls sls') (ho : ∀ j ∈ own', j ∈ own) : SI E O0 H0 G sls' own' σ H :=
  I.chg (fun j hj => ⟨ho j hj, rfl⟩) (w.sl (pmap I.sl.sl fun o sl h => sl.mono (ew_hid_le (own_le fun j hj => ⟨ho j hj, rfl⟩)) (Ef.refl _) h)) fun j s a b => by simpa using w.hk j s a b

/-! ### blocks -/
def seqK {β L N M : Type} (f : M → PT (Ctl β L N)) (k : Ctl β L N → Prop) : Ctl β L M → Prop
  | .nx s => f s k
  | .rt b => k (.rt b)
  | .bk l => k (.bk l)
  | .ct l => k (.ct l)
/-- from the slots sls, what is one's own at own, the block t does what m says -/
def BJ {β L N : Type} (E : Eff) (sls : List (Sl K)) (own : List Nat) (t : TS) (m : PT (Ctl β L N)) (r : R K β) (fN : N → List (Sl K)) (oN : List Nat) (fL : L → List (Sl K)) (oL : List Nat) : Prop :=
  ∀ (O0 : Addr → Prop) (H0 G : Hp) (σ : L2.St) (H : Hp), SI E O0 H0 G sls own σ H → ∀ k : Ctl β L N → Prop, m k → ∀ D : Ends,
    (∀ n σ' H', k (.nx n) → SI E O0 H0 G (fN n) oN σ' H' → D.nx σ' H') →
    (∀ b v H', k (.rt b) → Ex (hid H0 E.M) (hid H' E.M) → E.I H' → r.rp (hid H' O0) v b → D.rt v H') →
    (∀ l σ' H', k (.bk l) → SI E O0 H0 G (fL l) oL σ' H' → D.bk σ' H') →
    (∀ l σ' H', k (.ct l) → SI E O0 H0 G (fL l) oL σ' H' → D.ct σ' H') → t D σ H
variable {L N M : Type} {sls : List (Sl K)} {own own' : List Nat} {r : R K β} {fN : N → List (Sl K)} {oN : List Nat} {fL : L → List (Sl K)} {oL : List Nat} {u : TS} {rx : R K α}
theorem bj_nx {s : N} (w : Wks oN 0 sls (fN s)) (ho : ∀ j ∈ oN, j ∈ own) : BJ E sls own tNext (fun k => k (.nx s)) r fN oN fL oL := fun O0 H0 G σ H I k hk' D q1 q2 q3 q4 => q1 s σ H hk' (I.wk w ho)
theorem bj_brk {s : L} (w : Wks oL 0 sls (fL s)) (ho : ∀ j ∈ oL, j ∈ own) : BJ E sls own (tSeq tBreak u) (fun k => k (.bk s)) r fN oN fL oL := fun O0 H0 G σ H I k hk' D q1 q2 q3 q4 => q3 s σ H hk' (I.wk w ho)
theorem bj_cnt {s : L} (w : Wks oL 0 sls (fL s)) (ho : ∀ j ∈ oL, j ∈ own) : BJ E sls own (tSeq tCont u) (fun k => k (.ct s)) r fN oN fL oL := fun O0 H0 G σ H I k hk' D q1 q2 q3 q4 => q4 s σ H hk' (I.wk w ho)
theorem bj_never : BJ E sls own (tSeq tNever u) (fun _ => False) r fN oN fL oL := fun O0 H0 G σ H I k hk D q1 q2 q3 q4 => hk.elim
theorem bj_ret {c : PT β} (h : EV E sls te r c) : BJ E sls own (tSeq (tRet te) u) (fun k => c fun a => k (.rt a)) r fN oN fL oL := fun O0 H0 G σ H I k hk D q1 q2 q3 q4 =>
  h _ σ H I.sl _ hk _ fun a v H2 ka x hv => q2 a v H2 ka (I.h0.trans x.1) x.2 (r.mono (ew_hid_le fun _ h => .inl h) hv)
theorem bj_asg {i : Nat} {c : PT α} {m : α → PT (Ctl β L N)} (h : EV E sls te rx c) (n : ∀ a, BJ E (sls.set i (slV rx a)) (rmv own i) u (m a) r fN oN fL oL) :
    BJ E sls own (tSeq (tAsg te (gName i)) u) (fun k => c fun a => m a k) r fN oN fL oL := fun O0 H0 G σ H I k hk D q1 q2 q3 q4 =>
  h _ σ H I.sl _ hk _ fun a v H2 ka x hv => n a O0 H0 G _ H2 ((I.ext x).set hv) k ka D q1 q2 q3 q4
theorem bj_asgL {i : Nat} {c : PT (List α)} {m : List α → PT (Ctl β L N)} (h : EL E sls te rx c) (hi : i < sls.length) (n : ∀ a, BJ E (sls.set i (slL rx a)) (i :: rmv own i) u (m a) r fN oN fL oL) :
    BJ E sls own (tSeq (tAsg te (gName i)) u) (fun k => c fun a => m a k) r fN oN fL oL := fun O0 H0 G σ H I k hk D q1 q2 q3 q4 =>
  h _ σ H I.sl _ hk _ fun a p vs H2 ka x np hp hr hl => n a O0 H0 G _ H2 (I.made x np hp True.intro ⟨p, vs, rfl, .inl (by rw [hid_out fun z => I.sl.nOn np (I.sl.mo p z)]; exact hp), hr, hl⟩ hi) k ka D q1 q2 q3 q4
theorem bj_asgD {i : Nat} {e : Ky κ} {c : PT (List (κ × α))} {m : List (κ × α) → PT (Ctl β L N)} (h : ED E sls te e rx c) (hi : i < sls.length) (n : ∀ a, BJ E (sls.set i (slDk e rx a)) (i :: rmv own i) u (m a) r fN oN fL oL) :
    BJ E sls own (tSeq (tAsg te (gName i)) u) (fun k => c fun a => m a k) r fN oN fL oL := fun O0 H0 G σ H I k hk D q1 q2 q3 q4 =>
  h _ σ H I.sl _ hk _ fun a p vs H2 ka x np hp hr hl => n a O0 H0 G _ H2 (I.made x np hp True.intro ⟨p, vs, rfl, .inl (by rw [hid_out fun z => I.sl.nOn np (I.sl.mo p z)]; exact hp), hr, hl⟩ hi) k ka D q1 q2 q3 q4
theorem bj_asgDt {i : Nat} {e : Kt κ} {c : PT (List (κ × α))} {m : List (κ × α) → PT (Ctl β L N)} (h : EDt E sls te e rx c) (hi : i < sls.length) (n : ∀ a, BJ E (sls.set i (slDt e rx a)) (i :: rmv own i) u (m a) r fN oN fL oL) :
    BJ E sls own (tSeq (tAsg te (gName i)) u) (fun k => c fun a => m a k) r fN oN fL oL := fun O0 H0 G σ H I k hk D q1 q2 q3 q4 =>
  h _ σ H I.sl _ hk _ fun a p vs H2 ka x np hp hr hl => n a O0 H0 G _ H2 (I.made x np hp True.intro ⟨p, vs, rfl, .inl (by rw [hid_out fun z => I.sl.nOn np (I.sl.mo p z)]; exact hp), hr, hl⟩ hi) k ka D q1 q2 q3 q4
/-- a value thrown away -/
theorem bj_drop {c : PT α} {m : α → PT (Ctl β L N)} (h : EV E sls te rx c) (n : ∀ a, BJ E sls own u (m a) r fN oN fL oL) : BJ E sls own (tSeq (tDrop te) u) (fun k => c fun a => m a k) r fN oN fL oL := fun O0 H0 G σ H I k hk D q1 q2 q3 q4 =>
  h _ σ H I.sl _ hk _ fun a v H2 ka x hv => n a O0 H0 G _ H2 (I.ext x) k ka D q1 q2 q3 q4
/-- a target of several names -/
theorem SI.tgt {O0 : Addr → Prop} {H0 G : Hp} {σ σ' : L2.St} {H : Hp} {sls' : List (Sl K)} {js : List Nat} (I : SI E O0 H0 G sls own σ H) (S : SL (OwnOf O0 own σ) E sls' σ' H) (hs : Hs sls sls') (h2 : ∀ i, i ∉ js → σ'[i]? = σ[i]?) (hd : ∀ j ∈ own, j ∉ js) : SI E O0 H0 G sls' own σ' H := by
  have ho : ∀ j ∈ own, j ∈ own ∧ σ'[j]? = σ[j]? := fun j hj => ⟨hj, h2 j (hd j hj)⟩
  exact I.chg ho (pmap S.sl fun o sl h => sl.mono (ew_hid_le (own_le ho)) (Ef.refl _) h) fun j sl a b => let ⟨s, e, h⟩ := hs j sl a b; I.hk j s e h
theorem bj_asgG {g : TG} {js : List Nat} {h : α → List (Sl K)} {c : PT α} {m : α → PT (Ctl β L N)} (he : EV E sls te rx c) (hg : GT E sls g rx js h) (hd : ∀ j ∈ own, j ∉ js) (n : ∀ a, BJ E (h a) own u (m a) r fN oN fL oL) :
    BJ E sls own (tSeq (tAsg te g) u) (fun k => c fun a => m a k) r fN oN fL oL := fun O0 H0 G σ H I k hk D q1 q2 q3 q4 =>
  he _ σ H I.sl _ hk _ fun a v H2 ka x hv => hg _ σ H2 a v (I.ext x).sl hv _ fun σ' S' hs h1 h2 => n a O0 H0 G σ' H2 ((I.ext x).tgt S' hs h2 hd) k ka D q1 q2 q3 q4
/-- one's own from now on known by value -/
theorem SI.frz {O0 : Addr → Prop} {H0 G : Hp} {σ : L2.St} {H : Hp} {i : Nat} {sl sl' : Sl K} (I : SI E O0 H0 G sls own σ H) (hi : i ∈ own) (h : sls[i]? = some sl) (hp : sl'.hp = false)
    (to : ∀ {F F' H : Hp} {p : Addr}, Ew F F' → (∀ u, Pl u → Rd H p u → Rd F' p u) → sl.p F H (some (.ref p)) → sl'.p F' H (some (.ref p))) : SI E O0 H0 G (sls.set i sl') (rmv own i) σ H := by
  obtain ⟨o, eo, q⟩ := I.sl.at h
  obtain ⟨p, u, e, Gp, H0p, nM, nO0, hp', pu⟩ := I.ow i hi
  rw [e] at eo
  cases eo
  have h1 : ∀ j ∈ rmv own i, j ∈ own ∧ σ[j]? = σ[j]? := fun j hj => ⟨(mem_rmv.mp hj).1, rfl⟩
  have nO : ¬ OwnOf O0 (rmv own i) σ p := fun z => by
    rcases z with z | ⟨j, hj, ej⟩
    · exact nO0 z
    · exact (mem_rmv.mp hj).2 (I.ap j (mem_rmv.mp hj).1 i hi (by rw [ej, e]))
  have base := pmap I.sl.sl fun o sl h => sl.mono (ew_hid_le (own_le h1)) (Ef.refl _) h
  have := set_sl (i := i) (to (F' := hid H (OwnOf O0 (rmv own i) σ)) (ew_hid_le (own_le h1)) (fun u pu hr => rd_hid.mpr ⟨nO, (rd_hid.mp hr).2⟩) q) base
  rw [set_self e] at this
  refine I.chg h1 this fun j s hj hs => ?_
  by_cases c : j = i
  · subst c
    rw [List.getElem?_set_self (List.getElem?_eq_some_iff.mp h).1] at hj
    cases hj
    rw [hp] at hs
    cases hs
  · rw [at_ne c] at hj
    exact mem_rmv.mpr ⟨I.hk j s hj hs, c⟩
theorem bj_frzL {i : Nat} {xs : List α} {m : PT (Ctl β L N)} (hi : i ∈ own) (h : sls[i]? = some (slL rx xs)) (n : BJ E (sls.set i (slV (rLst rx) xs)) (rmv own i) u m r fN oN fL oL) : BJ E sls own u m r fN oN fL oL := fun O0 H0 G σ H I k hk D =>
  n O0 H0 G σ H (I.frz hi h rfl fun w hr ⟨p, vs, eo, a, b, c⟩ => by cases eo; exact ⟨_, rfl, _, vs, rfl, hr (.lst vs) True.intro a, pmap b fun _ _ z => rx.mono w z, c⟩) k hk D
theorem bj_frzD {i : Nat} {e : Ky κ} {xs : List (κ × α)} {m : PT (Ctl β L N)} (hi : i ∈ own) (h : sls[i]? = some (slDk e rx xs)) (n : BJ E (sls.set i (slV (rDk e rx) xs)) (rmv own i) u m r fN oN fL oL) : BJ E sls own u m r fN oN fL oL := fun O0 H0 G σ H I k hk D =>
  n O0 H0 G σ H (I.frz hi h rfl fun w hr ⟨p, vs, eo, a, b, c⟩ => by cases eo; exact ⟨_, rfl, _, vs, rfl, hr (.dK vs) True.intro a, pmap b fun _ _ z => ⟨z.1, rx.mono w z.2⟩, c⟩) k hk D
theorem bj_frzDt {i : Nat} {e : Kt κ} {xs : List (κ × α)} {m : PT (Ctl β L N)} (hi : i ∈ own) (h : sls[i]? = some (slDt e rx xs)) (n : BJ E (sls.set i (slV (rDt e rx) xs)) (rmv own i) u m r fN oN fL oL) : BJ E sls own u m r fN oN fL oL := fun O0 H0 G σ H I k hk D =>
  n O0 H0 G σ H (I.frz hi h rfl fun w hr ⟨p, vs, eo, a, b, c⟩ => by cases eo; exact ⟨_, rfl, _, vs, rfl, hr (.dT vs) True.intro a, pmap b fun _ _ z => ⟨z.1, rx.mono w z.2⟩, c⟩) k hk D
/-- what one owns, as it stands now -/
theorem SI.atL {O0 : Addr → Prop} {H0 G : Hp} {σ : L2.St} {H : Hp} {i : Nat} {xs : List α} (I : SI E O0 H0 G sls own σ H) (hi : i ∈ own) (h : sls[i]? = some (slL rx xs)) : ∃ p vs, σ[i]? = some (some (.ref p)) ∧ ¬ E.M p ∧ H p = some (.lst vs) ∧ Paired (rx.rp (hid H (OwnOf O0 own σ))) vs xs ∧ vs.length ≤ big := by
  obtain ⟨o, eo, p, vs, e1, hr, hp, hl⟩ := I.sl.at h
  subst e1
  obtain ⟨p', u, e, _, _, nM, _, hp', pu⟩ := I.ow i hi
  rw [e] at eo
  cases eo
  have := rd_one (.inl hp') (rd_hid.mp hr).2 pu True.intro
  subst this
  exact ⟨p, vs, e, nM, hp', hp, hl⟩
theorem SI.atD {O0 : Addr → Prop} {H0 G : Hp} {σ : L2.St} {H : Hp} {i : Nat} {e : Ky κ} {xs : List (κ × α)} (I : SI E O0 H0 G sls own σ H) (hi : i ∈ own) (h : sls[i]? = some (slDk e rx xs)) : ∃ p vs, σ[i]? = some (some (.ref p)) ∧ ¬ E.M p ∧ H p = some (.dK vs) ∧ Paired (DkRel e.enc rx (hid H (OwnOf O0 own σ))) vs xs ∧ vs.length ≤ big := by
  obtain ⟨o, eo, p, vs, e1, hr, hp, hl⟩ := I.sl.at h
  subst e1
  obtain ⟨p', u, e, _, _, nM, _, hp', pu⟩ := I.ow i hi
  rw [e] at eo
  cases eo
  have := rd_one (.inl hp') (rd_hid.mp hr).2 pu True.intro
  subst this
  exact ⟨p, vs, e, nM, hp', hp, hl⟩
theorem SI.atDt {O0 : Addr → Prop} {H0 G : Hp} {σ : L2.St} {H : Hp} {i : Nat} {e : Kt κ} {xs : List (κ × α)} (I : SI E O0 H0 G sls own σ H) (hi : i ∈ own) (h : sls[i]? = some (slDt e rx xs)) : ∃ p vs, σ[i]? = some (some (.ref p)) ∧ ¬ E.M p ∧ H p = some (.dT vs) ∧ Paired (DtRel e.enc rx (hid H (OwnOf O0 own σ))) vs xs ∧ vs.length ≤ big := by
  obtain ⟨o, eo, p, vs, e1, hr, hp, hl⟩ := I.sl.at h
  subst e1
  obtain ⟨p', u, e, _, _, nM, _, hp', pu⟩ := I.ow i hi
  rw [e] at eo
  cases eo
  have := rd_one (.inl hp') (rd_hid.mp hr).2 pu True.intro
  subst this
  exact ⟨p, vs, e, nM, hp', hp, hl⟩
/-- behind a change of one's own, what slots say by it -/
theorem own_hid {O0 : Addr → Prop} {H0 G : Hp} {σ : L2.St} {H : Hp} {i : Nat} {p : Addr} {w : HO} (I : SI E O0 H0 G sls own σ H) (hi : i ∈ own) (e : σ[i]? = some (some (.ref p))) : hid (upd H p w) (OwnOf O0 own σ) = hid H (OwnOf O0 own σ) := funext fun a => by
  by_cases c : OwnOf O0 own σ a
  · rw [hid_in c, hid_in c]
  · rw [hid_out c, hid_out c, upd_ne fun z => c (by subst z; exact .inr ⟨i, hi, e⟩)]
theorem SI.putL {O0 : Addr → Prop} {H0 G : Hp} {σ : L2.St} {H : Hp} {i : Nat} {p : Addr} {vs : List V} {xs : List α} (I : SI E O0 H0 G sls own σ H) (hi : i ∈ own) (e : σ[i]? = some (some (.ref p))) (nM : ¬ E.M p) (hp : Paired (rx.rp (hid H (OwnOf O0 own σ))) vs xs) (hl : xs.length ≤ big) : SI E O0 H0 G (sls.set i (slL rx xs)) own σ (upd H p (.lst vs)) :=
  I.mut hi e True.intro ⟨p, vs, rfl, .inl (by rw [hid_out nM]; exact upd_same), hp, by rw [hp.length]; exact hl⟩
/-- l.append(e) -/
theorem bj_app {i : Nat} {xs : List α} {c : PT α} {m : List α → PT (Ctl β L N)} (hi : i ∈ own) (h0 : sls[i]? = some (slL rx xs)) (h : EV E sls te rx c) (n : ∀ ys, BJ E (sls.set i (slL rx ys)) own u (m ys) r fN oN fL oL) :
    BJ E sls own (tSeq (tDrop (tBM K "list" rAppend (tVar i) (tCons te tNil))) u) (fun k => c fun a => xs.length < big ∧ m (xs ++ [a]) k) r fN oN fL oL := fun O0 H0 G σ H I k hk D q1 q2 q3 q4 => by
  obtain ⟨p, vs, e, nM, hp, hv, hl⟩ := I.atL hi h0
  refine ⟨_, e, .inl ⟨rfl, vs, .inl (.inl hp)⟩, h _ σ H I.sl _ hk _ fun a v H2 ka x hv2 => ?_⟩
  have I2 := I.ext x
  have hp2 := x.keep hp nM
  have hv' := pmap hv fun _ _ z => I.sl.rep x z
  exact ⟨p, vs, v, rfl, rfl, hp2, lt_line (by rw [hv.length]; exact ka.1), n _ O0 H0 G σ _ (I2.putL hi e nM (paired_app hv' (.cons hv2 .nil)) (by rw [List.length_append]; exact ka.1)) k ka.2 D q1 q2 q3 q4⟩
/-- d[k] = e, keys ints or texts -/
theorem bj_dput [DecidableEq κ] {i : Nat} {e : Ky κ} {rk : R K κ} (Kr : KyR rk e) {tk : TE} {xs : List (κ × α)} {c : PT α} {ck : PT κ} {m : List (κ × α) → PT (Ctl β L N)} (hi : i ∈ own) (h0 : sls[i]? = some (slDk e rx xs)) (hk' : EV E sls tk rk ck) (h : EV E sls te rx c) (n : ∀ ys, BJ E (sls.set i (slDk e rx ys)) own u (m ys) r fN oN fL oL) :
    BJ E sls own (tSeq (sDPut (tVar i) tk te) u) (fun k => c fun a => ck fun b => xs.length < big ∧ m (dput xs b a) k) r fN oN fL oL := fun O0 H0 G σ H I k hk D q1 q2 q3 q4 => by
  obtain ⟨p, vs, e1, nM, hp, hv, hl⟩ := I.atD hi h0
  refine h _ σ H I.sl _ hk _ fun a v H2 ka x hv2 => ⟨_, e1, hk' _ σ H2 (I.ext x).sl _ ka _ fun b y H3 kb x3 hy => ?_⟩
  have I3 := (I.ext x).ext x3
  have hp3 := x3.keep (x.keep hp nM) nM
  have hv' : Paired (DkRel e.enc rx (hid H3 (OwnOf O0 own σ))) vs xs := pmap hv fun _ _ z => ⟨z.1, (I.ext x).sl.rep x3 (I.sl.rep x z.2)⟩
  refine ⟨p, upd H3 p (.dK (putK vs (e.enc b) v)), rfl, .inl ⟨vs, e.enc b, hp3, Kr.is hy, lt_line (by rw [hv.length]; exact kb.1), rfl⟩, n _ O0 H0 G σ _ (I3.mut hi e1 (u := .dK _) True.intro ?_) k kb.2 D q1 q2 q3 q4⟩
  have := paired_dputK (e := e) (a := b) ((I.ext x).sl.rep x3 hv2) hv'
  exact ⟨p, _, rfl, .inl (by rw [hid_out nM]; exact upd_same), this, by rw [this.length]; have := dput_len xs b a; have := kb.1; omega⟩
/-- .., keys tuples shown as they are made -/
theorem bj_dputT [DecidableEq κ] {i : Nat} {e : Kt κ} {f : RF K κ} (Kr : KtX f e) {tk : TA} {xs : List (κ × α)} {c : PT α} {ck : PT κ} {m : List (κ × α) → PT (Ctl β L N)} (hi : i ∈ own) (h0 : sls[i]? = some (slDt e rx xs)) (hk' : EA E sls tk f ck) (h : EV E sls te rx c) (n : ∀ ys, BJ E (sls.set i (slDt e rx ys)) own u (m ys) r fN oN fL oL) (hn : f.n ≤ 1000 := by exact of_decide_eq_true rfl) :
    BJ E sls own (tSeq (sDPut (tVar i) (tTup tk) te) u) (fun k => c fun a => ck fun b => xs.length < big ∧ m (dput xs b a) k) r fN oN fL oL := fun O0 H0 G σ H I k hk D q1 q2 q3 q4 => by
  obtain ⟨p, vs, e1, nM, hp, hv, hl⟩ := I.atDt hi h0
  refine h _ σ H I.sl _ hk _ fun a v H2 ka x hv2 => ⟨_, e1, hk' _ σ H2 (I.ext x).sl _ ka _ fun b ys H3 kb x3 hy => ⟨by rw [f.len hy]; exact Nat.le_trans hn (by decide), fun P nP => ?_⟩⟩
  have I3 := (I.ext x).ext x3
  have n4 := I3.sl.new (u := .tup ys) nP
  have I4 := I3.ext n4.1
  have hp4 := n4.1.keep (x3.keep (x.keep hp nM) nM) nM
  have hv' : Paired (DtRel e.enc rx (hid (upd H3 P (.tup ys)) (OwnOf O0 own σ))) vs xs := pmap hv fun _ _ z => ⟨z.1, I3.sl.rep n4.1 ((I.ext x).sl.rep x3 (I.sl.rep x z.2))⟩
  refine ⟨p, upd (upd H3 P (.tup ys)) p (.dT (putK vs (e.enc b) v)), rfl, .inr ⟨vs, e.enc b, P, hp4, rfl, by rw [upd_same, Kr.is hy], lt_line (by rw [hv.length]; exact kb.1), rfl⟩, n _ O0 H0 G σ _ (I4.mut hi e1 (u := .dT _) True.intro ?_) k kb.2 D q1 q2 q3 q4⟩
  have := paired_dputT (e := e) (a := b) (I3.sl.rep n4.1 ((I.ext x).sl.rep x3 hv2)) hv'
  exact ⟨p, _, rfl, .inl (by rw [hid_out nM]; exact upd_same), this, by rw [this.length]; have := dput_len xs b a; have := kb.1; omega⟩
/-- l[i] = e -/
theorem paired_setV {F : V → α → Prop} {v : V} {a : α} (h : F v a) : ∀ {vs : List V} {xs : List α} (j : Nat), Paired F vs xs → Paired F (vs.set j v) (xs.set j a) := fun j t => paired_set h j t
theorem bj_setL {i : Nat} {ti : TE} {xs : List α} {c : PT α} {ci : PT Int} {m : List α → PT (Ctl β L N)} (hi : i ∈ own) (h0 : sls[i]? = some (slL rx xs)) (hk' : EV E sls ti rInt ci) (h : EV E sls te rx c) (n : ∀ ys, BJ E (sls.set i (slL rx ys)) own u (m ys) r fN oN fL oL) :
    BJ E sls own (tSeq (tAsg te (gSub (tVar i) ti rSetL)) u) (fun k => c fun a => ci fun j => ∃ n, ixN xs.length j = some n ∧ m (xs.set n a) k) r fN oN fL oL := fun O0 H0 G σ H I k hk D q1 q2 q3 q4 => by
  obtain ⟨p, vs, e1, nM, hp, hv, hl⟩ := I.atL hi h0
  refine h _ σ H I.sl _ hk _ fun a v H2 ka x hv2 => ⟨_, e1, hk' _ σ H2 (I.ext x).sl _ ka _ fun b y H3 ⟨j, ej, kb⟩ x3 hy => ?_⟩
  have I3 := (I.ext x).ext x3
  have hp3 := x3.keep (x.keep hp nM) nM
  have hv' := pmap hv fun _ _ z => (I.ext x).sl.rep x3 (I.sl.rep x z)
  exact ⟨p, vs, b, j, rfl, hy, hp3, by rw [hv.length]; exact ej, n _ O0 H0 G σ _ (I3.putL hi e1 nM (paired_setV ((I.ext x).sl.rep x3 hv2) j hv') (by rw [List.length_set, ← hv.length]; exact hl)) k kb D q1 q2 q3 q4⟩
/-- l.extend(a new list) -/
theorem bj_ext {i : Nat} {xs : List α} {c : PT (List α)} {m : List α → PT (Ctl β L N)} (hi : i ∈ own) (h0 : sls[i]? = some (slL rx xs)) (h : EL E sls te rx c) (n : ∀ ys, BJ E (sls.set i (slL rx ys)) own u (m ys) r fN oN fL oL) :
    BJ E sls own (tSeq (tDrop (tBM K "list" rExtend (tVar i) (tCons te tNil))) u) (fun k => c fun a => (xs ++ a).length ≤ big ∧ m (xs ++ a) k) r fN oN fL oL := fun O0 H0 G σ H I k hk D q1 q2 q3 q4 => by
  obtain ⟨p, vs, e, nM, hp, hv, hl⟩ := I.atL hi h0
  refine ⟨_, e, .inl ⟨rfl, vs, .inl (.inl hp)⟩, h _ σ H I.sl _ hk _ fun a P ws H2 ka x nP hP hr hl2 => ?_⟩
  have I2 := I.ext x
  have hp2 := x.keep hp nM
  have hv' := pmap hv fun _ _ z => I.sl.rep x z
  have hr' := pmap hr fun _ _ z => rx.mono (ew_hid_le fun a h => .inl h) z
  refine ⟨p, P, vs, ws, rfl, rfl, hp2, hP, le_line (by rw [hv.length, hr.length, ← List.length_append]; exact ka.1), n _ O0 H0 G σ _ (I2.putL hi e nM (paired_app hv' hr') ka.1) k ka.2 D q1 q2 q3 q4⟩
/-- x op= e on an int -/
theorem bj_aug {i : Nat} {a : Int} {g : Int → Int → Int} {c : PT Int} {m : Int → PT (Ctl β L N)} (h0 : sls[i]? = some (slV rInt a)) (h : EV E sls te rInt c) (n : ∀ b, BJ E (sls.set i (slV rInt b)) (rmv own i) u (m b) r fN oN fL oL) :
    BJ E sls own (tSeq (tAug i te (ipI g)) u) (fun k => c fun b => m (g a b) k) r fN oN fL oL := fun O0 H0 G σ H I k hk D q1 q2 q3 q4 => by
  obtain ⟨v, e, hv⟩ := I.sl.val h0
  exact ⟨v, e, h _ σ H I.sl _ hk _ fun b y H2 kb x hy => ⟨a, b, hv, hy, n _ O0 H0 G _ H2 ((I.ext x).set (r := rInt) rfl) k kb D q1 q2 q3 q4⟩⟩
/-- if -/
theorem bj_if {tt : TT} {t1 t2 : TS} {c : PT Bool} {m1 m2 : PT (Ctl β L M)} {m3 : M → PT (Ctl β L N)} {fM : M → List (Sl K)} {oM : List Nat} (h : ET E sls tt c) (h1 : BJ E sls own t1 m1 r fM oM fL oL) (h2 : BJ E sls own t2 m2 r fM oM fL oL) (n : ∀ s, BJ E (fM s) oM u (m3 s) r fN oN fL oL) :
    BJ E sls own (tSeq (tIfS tt t1 t2) u) (fun k => c fun b => if b = true then m1 (seqK m3 k) else m2 (seqK m3 k)) r fN oN fL oL := fun O0 H0 G σ H I k hk D q1 q2 q3 q4 =>
  h _ σ H I.sl _ hk _ fun b H2 kb x => by
    cases b with
    | true =>
      rw [if_pos rfl] at kb ⊢
      exact h1 O0 H0 G σ H2 (I.ext x) _ kb { D with nx := u D } (fun s σ' H' ks I' => n s O0 H0 G σ' H' I' k ks D q1 q2 q3 q4) q2 q3 q4
    | false =>
      rw [if_neg Bool.false_ne_true] at kb ⊢
      exact h2 O0 H0 G σ H2 (I.ext x) _ kb { D with nx := u D } (fun s σ' H' ks I' => n s O0 H0 G σ' H' I' k ks D q1 q2 q3 q4) q2 q3 q4
/-- if, one way of which never comes behind: what follows stands in the other way -/
theorem bj_ifD {tt : TT} {t1 t2 : TS} {c : PT Bool} {m1 m2 : PT (Ctl β L N)} (h : ET E sls tt c) (h1 : BJ E sls own (tSeq t1 u) m1 r fN oN fL oL) (h2 : BJ E sls own (tSeq t2 u) m2 r fN oN fL oL) :
    BJ E sls own (tSeq (tIfS tt t1 t2) u) (fun k => c fun b => if b = true then m1 k else m2 k) r fN oN fL oL := fun O0 H0 G σ H I k hk D q1 q2 q3 q4 =>
  h _ σ H I.sl _ hk _ fun b H2 kb x => by
    cases b with
    | true =>
      rw [if_pos rfl] at kb ⊢
      exact h1 O0 H0 G σ H2 (I.ext x) _ kb D q1 q2 q3 q4
    | false =>
      rw [if_neg Bool.false_ne_true] at kb ⊢
      exact h2 O0 H0 G σ H2 (I.ext x) _ kb D q1 q2 q3 q4
/-- while -/
theorem bj_while {tt : TT} {tb : TS} {t : S → PT Bool} {body : S → PT (Ctl β S S)} {m : S → PT (Ctl β L N)} {fS : S → List (Sl K)} {oS : List Nat} {s0 : S} (w : Wks oS 0 sls (fS s0)) (ho : ∀ j ∈ oS, j ∈ own) (ht : ∀ s, ET E (fS s) tt (t s)) (hb : ∀ s, BJ E (fS s) oS tb (body s) r fS oS fS oS) (n : ∀ s, BJ E (fS s) oS u (m s) r fN oN fL oL) :
    BJ E sls own (tSeq (tWhile tt tb) u) (fun k => whileT s0 t body (seqK m k)) r fN oN fL oL := fun O0 H0 G σ H I k ⟨n0, hk⟩ D q1 q2 q3 q4 => by
  refine ⟨fun n σ H => ∃ s, SI E O0 H0 G (fS s) oS σ H ∧ whileN n s t body (seqK m k), ⟨n0, s0, I.wk w ho, hk⟩, ?_⟩
  rintro n1 σ1 H1 ⟨s, I1, hk1⟩
  cases n1 with
  | zero => exact hk1.elim
  | succ n1 =>
    refine ht s _ σ1 H1 I1.sl _ hk1 _ fun b H2 kb x => ?_
    cases b with
    | false =>
      rw [if_neg Bool.false_ne_true] at kb ⊢
      exact n s O0 H0 G σ1 H2 (I1.ext x) k kb D q1 q2 q3 q4
    | true =>
      rw [if_pos rfl] at kb ⊢
      refine ⟨fun σ' H' => ∃ s, SI E O0 H0 G (fS s) oS σ' H' ∧ whileN n1 s t body (seqK m k), fun σ' H' hN => ⟨n1, Nat.lt_succ_self _, hN⟩, ?_⟩
      refine hb s O0 H0 G σ1 H2 (I1.ext x) _ kb _ (fun s' σ' H' ks I' => ⟨s', I', ks⟩) (fun b v H' kb' a1 a2 a3 => q2 b v H' kb' a1 a2 a3) (fun s' σ' H' ks I' => n s' O0 H0 G σ' H' I' k ks D q1 q2 q3 q4) (fun s' σ' H' ks I' => ⟨s', I', ks⟩)
/-- for -/
theorem bj_for {wi : TI} {g : TG} {tb : TS} {js : List Nat} {rx : R K α} {cx : PT (List α)} {body : α → S → PT (Ctl β S S)} {m : S → PT (Ctl β L N)} {fS : S → List (Sl K)} {h : S → α → List (Sl K)} {oS : List Nat} {s0 : S} (hi : IV E sls wi rx cx)
    (w : Wks oS 0 sls (fS s0)) (ho : ∀ j ∈ oS, j ∈ own) (hg : ∀ s, GT E (fS s) g rx js (h s)) (hd : ∀ j ∈ oS, j ∉ js) (hb : ∀ s a, BJ E (h s a) oS tb (body a s) r fS oS fS oS) (n : ∀ s, BJ E (fS s) oS u (m s) r fN oN fL oL) :
    BJ E sls own (tSeq (tFor wi g tb) u) (fun k => cx fun xs => forC xs s0 body (seqK m k)) r fN oN fL oL := fun O0 H0 G σ H I k hk D q1 q2 q3 q4 =>
  hi _ σ H I.sl _ hk _ fun xs J H2 ka x2 W => by
    have I2 := (I.ext x2)
    have I2' := (I2.wk w ho)
    have le : Ef (hid H2 (OwnOf O0 own σ)) (hid H2 (OwnOf O0 oS σ)) := ef_hid_le (own_le fun j hj => ⟨ho j hj, rfl⟩)
    refine ⟨fun i m' σ3 H3 => m' = xs.length - i ∧ i ≤ xs.length ∧ ∃ s, SI E O0 H0 (hid H2 (OwnOf O0 oS σ)) (fS s) oS σ3 H3 ∧ forC (xs.drop i) s body (seqK m k), ⟨xs.length, by simp, Nat.zero_le _, s0, I2'.fresh, by simpa using ka⟩, ?_⟩
    rintro i m' σ3 H3 ⟨rfl, hi', s, I3, kc⟩
    have b3 : Ef (hid H2 (OwnOf O0 own σ)) H3 := (le.trans I3.g).trans ef_un
    by_cases hlt : i < xs.length
    · refine .inr ⟨W.go i H3 hlt b3, fun σ' H' => xs.length - (i + 1) < xs.length - i ∧ ∃ s, SI E O0 H0 (hid H2 (OwnOf O0 oS σ)) (fS s) oS σ' H' ∧ forC (xs.drop (i + 1)) s body (seqK m k), fun σ' H' ⟨h1, h2⟩ => ⟨xs.length - (i + 1), h1, rfl, hlt, h2⟩, fun v H4 y => ?_⟩
      obtain ⟨ex, a, ea, hv⟩ := W.yld (OwnOf O0 oS σ3) i H3 v H4 hlt b3 I3.sl.od (le.trans I3.g).ew y
      rw [drop_at ea, forC] at kc
      have I4 := I3.ext (.of_ex ex I3.sl.inv)
      refine hg s _ σ3 H4 a v I4.sl hv _ fun σ5 S5 hs h1 h2 => ?_
      refine hb s a O0 H0 _ σ5 H4 (I4.tgt S5 hs h2 hd) _ kc _ (fun s' σ' H' ks I' => ⟨by omega, s', I', ks⟩) (fun b v H' kb' a1 a2 a3 => q2 b v H' kb' a1 a2 a3) (fun s' σ' H' ks I' => n s' O0 H0 G σ' H' (I'.ghost (I2'.g)) k ks D q1 q2 q3 q4) (fun s' σ' H' ks I' => ⟨by omega, s', I', ks⟩)
    · have e : i = xs.length := by omega
      subst e
      rw [List.drop_length, forC] at kc
      exact .inl ⟨W.stop H3 b3, n s O0 H0 G σ3 H3 (I3.ghost I2'.g) k kc D q1 q2 q3 q4⟩
end
end Nz

/-! Nz6: several targets, calls with a tape, defs as a whole. -/
namespace Nz
open PySem L2
variable {K : PySem.W.Frag} {E : Eff}
section
variable {α β γ κ S : Type} {te ta tb tc : TE} {sls : List (Sl K)}
/-! ### values that may be new things of one's own -/
def Hold (E : Eff) (b : Bool) (sl : Sl K) (v : V) (H H2 : Hp) (O : Addr → Prop) : Prop :=
  (b = true ∧ ∃ p u, v = .ref p ∧ H p = none ∧ H2 p = some u ∧ Pl u ∧ sl.p (hid H2 (wD O p)) (hid H2 E.M) (some v)) ∨ (b = false ∧ sl.hp = false ∧ sl.p (hid H2 O) (hid H2 E.M) (some v))
def US (E : Eff) (sls : List (Sl K)) (b : Bool) (te : TE) (f : α → Sl K) (c : PT α) : Prop := ∀ O σ H, SL O E sls σ H → ∀ k : α → Prop, c k → ∀ Q : VK, (∀ a v H2, k a → XX E H H2 → Hold E b (f a) v H H2 O → Q v H2) → te σ H Q
theorem us_v {r : R K α} {c : PT α} (h : EV E sls te r c) : US E sls false te (slV r) c := fun O σ H S k hk Q q => h _ σ H S k hk Q fun a v H2 ka x hv => q a v H2 ka x (.inr ⟨rfl, rfl, v, rfl, hv⟩)
theorem us_l {r : R K α} {c : PT (List α)} (h : EL E sls te r c) : US E sls true te (slL r) c := fun O σ H S k hk Q q => h _ σ H S k hk Q fun a p vs H2 ka x np hp hr hl => q a _ H2 ka x (.inl ⟨rfl, p, _, rfl, np, hp, True.intro, p, vs, rfl, .inl (by rw [hid_out fun z => S.nOn np (S.mo p z)]; exact hp), hr, hl⟩)
theorem us_d {e : Ky κ} {r : R K α} {c : PT (List (κ × α))} (h : ED E sls te e r c) : US E sls true te (slDk e r) c := fun O σ H S k hk Q q => h _ σ H S k hk Q fun a p vs H2 ka x np hp hr hl => q a _ H2 ka x (.inl ⟨rfl, p, _, rfl, np, hp, True.intro, p, vs, rfl, .inl (by rw [hid_out fun z => S.nOn np (S.mo p z)]; exact hp), hr, hl⟩)
theorem us_dt {e : Kt κ} {r : R K α} {c : PT (List (κ × α))} (h : EDt E sls te e r c) : US E sls true te (slDt e r) c := fun O σ H S k hk Q q => h _ σ H S k hk Q fun a p vs H2 ka x np hp hr hl => q a _ H2 ka x (.inl ⟨rfl, p, _, rfl, np, hp, True.intro, p, vs, rfl, .inl (by rw [hid_out fun z => S.nOn np (S.mo p z)]; exact hp), hr, hl⟩)
def ownW (b : Bool) (i : Nat) (own : List Nat) : List Nat := if b then i :: rmv own i else rmv own i
section
variable {O0 : Addr → Prop} {H0 G : Hp} {own : List Nat} {σ : L2.St} {H H2 : Hp} {b : Bool} {sl : Sl K} {v : V} {i : Nat} {O : Addr → Prop}
theorem SI.hold (I : SI E O0 H0 G sls own σ H) (x : XX E H H2) (h : Hold E b sl v H H2 O) (le : ∀ a, OwnOf O0 own σ a → O a) (hi : i < sls.length) : SI E O0 H0 G (sls.set i sl) (ownW b i own) (σ.set i (some v)) H2 := by
  rcases h with ⟨rfl, p, u, rfl, np, hp, pu, hs⟩ | ⟨rfl, hh, hs⟩
  · exact I.made x np hp pu (sl.mono (ew_hid_le fun a z => z.elim (fun z => .inl (le a z)) .inr) (Ef.refl _) hs) hi
  · exact (I.ext x).setS hh (sl.mono (ew_hid_le le) (Ef.refl _) hs)
/-- what a held value hides besides -/
def hO (b : Bool) (v : V) (O : Addr → Prop) : Addr → Prop := fun a => O a ∨ (b = true ∧ v = .ref a)
theorem hold_SL (S : SL O E sls σ H) (x : XX E H H2) (h : Hold E b sl v H H2 O) : SL (hO b v O) E sls σ H2 := by
  rcases h with ⟨rfl, p, u, rfl, np, hp, pu, hs⟩ | ⟨rfl, hh, hs⟩
  · have e : hO true (.ref p) O = wD O p := funext fun a => propext ⟨fun z => z.elim .inl fun z => .inr (by have := V.ref.inj z.2; exact this.symm), fun z => z.elim .inl fun z => .inr ⟨rfl, by rw [z]⟩⟩
    rw [e]
    exact S.withD np x ⟨u, hp, pu.nt⟩
  · have e : hO false v O = O := funext fun a => propext ⟨fun z => z.elim id (fun z => (nomatch z.1)), .inl⟩
    rw [e]
    exact S.ext x
theorem hold_le {own : List Nat} (le : ∀ a, OwnOf O0 own σ a → O a) (hi : i < σ.length) (h : Hold E b sl v H H2 O) : ∀ a, OwnOf O0 (ownW b i own) (σ.set i (some v)) a → hO b v O a := fun a ha => by
  rcases ha with ha | ⟨j, hj, e⟩
  · exact .inl (le a (.inl ha))
  · by_cases c : j = i
    · subst c
      rw [List.getElem?_set_self hi] at e
      cases e
      cases b with
      | true => exact .inr ⟨rfl, rfl⟩
      | false => exact ((mem_rmv.mp hj).2 rfl).elim
    · rw [at_ne c] at e
      refine .inl (le a (.inr ⟨j, ?_, e⟩))
      cases b with
      | true =>
        rcases List.mem_cons.mp hj with z | z
        · exact (c z).elim
        · exact (mem_rmv.mp z).1
      | false => exact (mem_rmv.mp hj).1
end
variable {L N M : Type} {own own' : List Nat} {r : R K β} {fN : N → List (Sl K)} {oN : List Nat} {fL : L → List (Sl K)} {oL : List Nat} {u : TS}
theorem core2 {O0 : Addr → Prop} {H0 G : Hp} {σ : L2.St} {H : Hp} {b1 b2 : Bool} {f : α → Sl K} {g : β → Sl K} {c : PT α} {d : PT β} {i j : Nat} (I : SI E O0 H0 G sls own σ H) (h1 : US E sls b1 ta f c) (h2 : US E sls b2 tb g d) (hi : i < sls.length) (hj : j < sls.length)
    {k : α → β → Prop} (hk : c fun a => d fun b => k a b) {Q : List V → Hp → Prop} (q : ∀ a b v w H3, k a b → SI E O0 H0 G ((sls.set i (f a)).set j (g b)) (ownW b2 j (ownW b1 i own)) ((σ.set i (some v)).set j (some w)) H3 → XX E H H3 → Q [v, w] H3) : (tCons ta (tCons tb tNil)) σ H Q :=
  h1 _ σ H I.sl _ hk _ fun a v H2 ka x1 o1 => h2 _ σ H2 (hold_SL I.sl x1 o1) _ ka _ fun b w H3 kb x2 o2 =>
    q a b v w H3 kb ((I.hold x1 o1 (fun _ z => z) hi).hold x2 o2 (hold_le (fun _ z => z) (by rw [I.sl.sl.length]; exact hi) o1) (by rw [List.length_set]; exact hj)) (x1.trans x2)
theorem core3 {O0 : Addr → Prop} {H0 G : Hp} {σ : L2.St} {H : Hp} {b1 b2 b3 : Bool} {f : α → Sl K} {g : β → Sl K} {h : γ → Sl K} {c : PT α} {d : PT β} {e : PT γ} {i j l : Nat} (I : SI E O0 H0 G sls own σ H) (h1 : US E sls b1 ta f c) (h2 : US E sls b2 tb g d) (h3 : US E sls b3 tc h e) (hi : i < sls.length) (hj : j < sls.length) (hl : l < sls.length)
    {k : α → β → γ → Prop} (hk : c fun a => d fun b => e fun z => k a b z) {Q : List V → Hp → Prop} (q : ∀ a b z v w y H3, k a b z → SI E O0 H0 G (((sls.set i (f a)).set j (g b)).set l (h z)) (ownW b3 l (ownW b2 j (ownW b1 i own))) (((σ.set i (some v)).set j (some w)).set l (some y)) H3 → XX E H H3 → Q [v, w, y] H3) : (tCons ta (tCons tb (tCons tc tNil))) σ H Q :=
  h1 _ σ H I.sl _ hk _ fun a v H2 ka x1 o1 => h2 _ σ H2 (hold_SL I.sl x1 o1) _ ka _ fun b w H3 kb x2 o2 => h3 _ σ H3 (hold_SL (hold_SL I.sl x1 o1) x2 o2) _ kb _ fun z y H4 kz x3 o3 => by
    have li : i < σ.length := by rw [I.sl.sl.length]; exact hi
    have lj : j < (σ.set i (some v)).length := by rw [List.length_set, I.sl.sl.length]; exact hj
    have e1 := hold_le (own := own) (O0 := O0) (fun _ z => z) li o1
    exact q a b z v w y H4 kz (((I.hold x1 o1 (fun _ z => z) hi).hold x2 o2 e1 (by rw [List.length_set]; exact hj)).hold x3 o3 (hold_le e1 lj o2) (by rw [List.length_set, List.length_set]; exact hl)) ((x1.trans x2).trans x3)
theorem bj_par {rb : R K S} {fN : N → List (Sl K)} {b1 b2 : Bool} {f : α → Sl K} {g : β → Sl K} {c : PT α} {d : PT β} {i j : Nat} {m : α → β → PT (Ctl S L N)} (h1 : US E sls b1 ta f c) (h2 : US E sls b2 tb g d) (hi : i < sls.length) (hj : j < sls.length)
    (n : ∀ a b, BJ E ((sls.set i (f a)).set j (g b)) (ownW b2 j (ownW b1 i own)) u (m a b) rb fN oN fL oL) : BJ E sls own (tSeq (tPar i j (tCons ta (tCons tb tNil))) u) (fun k => c fun a => d fun b => m a b k) rb fN oN fL oL := fun O0 H0 G σ H I k hk D q1 q2 q3 q4 => by
  unfold tSeq tPar
  exact core2 I h1 h2 hi hj (k := fun a b => m a b k) hk fun a b v w H3 kb I3 _ => ⟨v, w, rfl, n a b O0 H0 G _ H3 I3 k kb D q1 q2 q3 q4⟩
theorem bj_par3 {rb : R K S} {fN : N → List (Sl K)} {b1 b2 b3 : Bool} {f : α → Sl K} {g : β → Sl K} {h : γ → Sl K} {c : PT α} {d : PT β} {e : PT γ} {i j l : Nat} {m : α → β → γ → PT (Ctl S L N)} (h1 : US E sls b1 ta f c) (h2 : US E sls b2 tb g d) (h3 : US E sls b3 tc h e) (hi : i < sls.length) (hj : j < sls.length) (hl : l < sls.length)
    (n : ∀ a b z, BJ E (((sls.set i (f a)).set j (g b)).set l (h z)) (ownW b3 l (ownW b2 j (ownW b1 i own))) u (m a b z) rb fN oN fL oL) : BJ E sls own (tSeq (tPar3 i j l (tCons ta (tCons tb (tCons tc tNil)))) u) (fun k => c fun a => d fun b => e fun z => m a b z k) rb fN oN fL oL := fun O0 H0 G σ H I k hk D q1 q2 q3 q4 => by
  unfold tSeq tPar3
  exact core3 I h1 h2 h3 hi hj hl (k := fun a b z => m a b z k) hk fun a b z v w y H3 kb I3 _ => ⟨v, w, y, rfl, n a b z O0 H0 G _ H3 I3 k kb D q1 q2 q3 q4⟩
theorem new_ext {O0 : Addr → Prop} {H0 G : Hp} {σ : L2.St} {H : Hp} {p : Addr} {w : HO} (I : SI E O0 H0 G sls own σ H) (np : H p = none) : SI E O0 H0 G sls own σ (upd H p w) := I.ext (I.sl.new np).1
/-- a, b = e1, e2 by the tuple -/
theorem bj_tup2 {rb : R K S} {fN : N → List (Sl K)} {b1 b2 : Bool} {f : α → Sl K} {g : β → Sl K} {c : PT α} {d : PT β} {i j : Nat} {m : α → β → PT (Ctl S L N)} (h1 : US E sls b1 ta f c) (h2 : US E sls b2 tb g d) (hi : i < sls.length) (hj : j < sls.length)
    (n : ∀ a b, BJ E ((sls.set i (f a)).set j (g b)) (ownW b2 j (ownW b1 i own)) u (m a b) rb fN oN fL oL) : BJ E sls own (tSeq (tAsg (tTup (tCons ta (tCons tb tNil))) (gTup K 2 (gCons (gName i) (gCons (gName j) gNil)))) u) (fun k => c fun a => d fun b => m a b k) rb fN oN fL oL := fun O0 H0 G σ H I k hk D q1 q2 q3 q4 => by
  unfold tSeq tAsg tTup
  exact core2 I h1 h2 hi hj (k := fun a b => m a b k) hk fun a b v w H3 kb I3 _ => ⟨by show 2 ≤ sizeLine; decide, fun P nP => ⟨P, [v, w], rfl, .inl (.inl upd_same), rfl, v, [w], rfl, w, [], rfl, rfl, n a b O0 H0 G _ _ (new_ext I3 nP) k kb D q1 q2 q3 q4⟩⟩
theorem bj_tup3 {rb : R K S} {fN : N → List (Sl K)} {b1 b2 b3 : Bool} {f : α → Sl K} {g : β → Sl K} {h : γ → Sl K} {c : PT α} {d : PT β} {e : PT γ} {i j l : Nat} {m : α → β → γ → PT (Ctl S L N)} (h1 : US E sls b1 ta f c) (h2 : US E sls b2 tb g d) (h3 : US E sls b3 tc h e) (hi : i < sls.length) (hj : j < sls.length) (hl : l < sls.length)
    (n : ∀ a b z, BJ E (((sls.set i (f a)).set j (g b)).set l (h z)) (ownW b3 l (ownW b2 j (ownW b1 i own))) u (m a b z) rb fN oN fL oL) : BJ E sls own (tSeq (tAsg (tTup (tCons ta (tCons tb (tCons tc tNil)))) (gTup K 3 (gCons (gName i) (gCons (gName j) (gCons (gName l) gNil))))) u) (fun k => c fun a => d fun b => e fun z => m a b z k) rb fN oN fL oL := fun O0 H0 G σ H I k hk D q1 q2 q3 q4 => by
  unfold tSeq tAsg tTup
  exact core3 I h1 h2 h3 hi hj hl (k := fun a b z => m a b z k) hk fun a b z v w y H3 kb I3 _ => ⟨by show 3 ≤ sizeLine; decide, fun P nP => ⟨P, [v, w, y], rfl, .inl (.inl upd_same), rfl, v, [w, y], rfl, w, [y], rfl, y, [], rfl, rfl, n a b z O0 H0 G _ _ (new_ext I3 nP) k kb D q1 q2 q3 q4⟩⟩

/-! ### a tape -/
def tapeKvs (c : Addr) (at_ left seed salt : Int) : List (Key × V) := [(.inr "cells", .ref c), (.inr "at", .int at_), (.inr "left", .int left), (.inr "seed", .int seed), (.inr "salt", .int salt)]
def TapeI (pt c : Addr) (H : Hp) : Prop := ∃ (cells : List Int) (at_ left seed salt : Int), H pt = some (.dK (tapeKvs c at_ left seed salt)) ∧ H c = some (.lst (cells.map V.int)) ∧ (∀ x ∈ cells, 0 ≤ x) ∧ cells.length ≤ 63 ∧ 0 ≤ at_ ∧ at_ ≤ cells.length ∧ 0 ≤ left ∧ 0 ≤ salt
def effT (pt c : Addr) : Eff := ⟨fun a => a = pt ∨ a = c, TapeI pt c, fun h _ ⟨cells, a, b, s, t, h1, h2, q⟩ => ⟨cells, a, b, s, t, by rw [h pt (.inl rfl)]; exact h1, by rw [h c (.inr rfl)]; exact h2, q⟩, fun ⟨_, _, _, _, _, h1, h2, _⟩ a ha => by
  rcases ha with rfl | rfl
  · exact ⟨_, h1, fun _ z => nomatch z⟩
  · exact ⟨_, h2, fun _ z => nomatch z⟩⟩
/-- a def that draws: its first argument is the tape -/
def spT (f : RF K α) (r : R K β) (m : α → PT β) : Sp := fun vs H Q _ => ∃ (pt c : Addr) (ws : List V) (O : Addr → Prop) (a : α) (k : β → Prop), vs = .ref pt :: ws ∧ (∀ x, O x → ∃ u, H x = some u ∧ NT u) ∧ (∀ x, (effT pt c).M x → O x) ∧ TapeI pt c H ∧ f.rp (hid H O) ws a ∧ m a k ∧
  ∀ b v H2, k b → XX (effT pt c) H H2 → r.rp (hid H2 O) v b → Q v H2
theorem ev_callT {pt c : Addr} {f : RF K α} {s : R K β} {m : α → PT β} {t : TA} {X0 : XK} {ca : PT α} {i : Nat} (h0 : sls[i]? = some (slAt pt)) (h : EA (effT pt c) sls t f ca) : EV (effT pt c) sls (tCall (spT f s m) [] X0 (tCons (tVar i) t)) s (fun k => ca fun a => m a k) := fun O σ H S k hk Q q => by
  obtain ⟨o, e, eo⟩ := S.at h0
  rw [show o = some (V.ref pt) from eo] at e
  exact ⟨_, e, h _ σ H S _ hk _ fun a vs H2 ka x hv => ⟨pt, c, vs, O, a, k, by rw [List.append_nil], (S.ext x).od, S.mo, x.2, hv, ka, fun b v H3 kb x3 hr => q b v H3 kb (x.trans x3) hr⟩⟩

/-! ### a def as a whole -/
theorem own_nil (O : Addr → Prop) (σ : L2.St) : OwnOf O [] σ = O := funext fun a => propext ⟨fun z => z.elim id fun ⟨_, h, _⟩ => by simp at h, .inl⟩
/-- the parameters' slots -/
structure Prm (f : RF K α) (g : α → List (Sl K)) : Prop where
  sl : ∀ {F F' : Hp} {vs : List V} {a : α}, f.rp F vs a → Paired (fun o (sl : Sl K) => sl.p F F' o) (vs.map some) (g a)
  hp : ∀ (a : α) (j : Nat) (sl : Sl K), (g a)[j]? = some sl → sl.hp = false
theorem prm_1 {r : R K α} : Prm (f1 r) (fun a => [slV r a]) := ⟨fun ⟨v, e, h⟩ => by subst e; exact .cons ⟨v, rfl, h⟩ .nil, fun a j sl h => by cases j with | zero => simp at h; subst h; rfl | succ j => simp at h⟩
theorem prm_c {r : R K α} {f : RF K β} {g : β → List (Sl K)} (p : Prm f g) : Prm (fc r f) (fun a => slV r a.1 :: g a.2) := ⟨fun ⟨v, ws, e, h, h2⟩ => by subst e; exact .cons ⟨v, rfl, h⟩ (p.sl h2), fun a j sl h => by cases j with | zero => simp at h; subst h; rfl | succ j => exact p.hp a.2 j sl (by simpa using h)⟩
theorem paired_rep {F F' : Hp} : ∀ n : Nat, Paired (fun o (sl : Sl K) => sl.p F F' o) (List.replicate n none) (List.replicate n slAny)
  | 0 => .nil
  | n + 1 => .cons True.intro (paired_rep n)
theorem pair_app {A B : Type} {F : A → B → Prop} : ∀ {vs ws : List A} {xs ys : List B}, Paired F vs xs → Paired F ws ys → Paired F (vs ++ ws) (xs ++ ys)
  | _, _, _, _, .nil, h => h
  | _, _, _, _, .cons a t, h => .cons a (pair_app t h)
theorem rep_hp (a : List (Sl K)) (n : Nat) (h : ∀ (j : Nat) (sl : Sl K), a[j]? = some sl → sl.hp = false) : ∀ (j : Nat) (sl : Sl K), (a ++ List.replicate n slAny)[j]? = some sl → sl.hp = false := fun j sl e => by
  by_cases c : j < a.length
  · rw [List.getElem?_append_left c] at e
    exact h j sl e
  · rw [List.getElem?_append_right (by omega)] at e
    have := List.mem_of_getElem? e
    rw [List.eq_of_mem_replicate this]
    rfl
abbrev noL : Empty → List (Sl K) := fun e => nomatch e
/-- what a def hands back by how its block comes to an end -/
def outF (k : β → Prop) : Ctl β Empty Unit → Prop
  | .rt b => k b
  | .nx _ => False
  | .bk l => nomatch l
  | .ct l => nomatch l
def outU (k : Unit → Prop) : Ctl Unit Empty Unit → Prop
  | .rt b => k b
  | .nx _ => k ()
  | .bk l => nomatch l
  | .ct l => nomatch l
theorem fn_start {f : RF K α} {g : α → List (Sl K)} (p : Prm f g) {N : List Str} {H : Hp} {O : Addr → Prop} {vs : List V} {a : α} (hO : ∀ x, O x → ∃ u, H x = some u ∧ NT u) (mo : ∀ x, E.M x → O x) (hI : E.I H) (ha : f.rp (hid H O) vs a) {n : Nat} (hn : N.length - f.n = n) :
    SI E O H (hid H O) (g a ++ List.replicate n slAny) [] (L2.start N vs) H := by
  refine ⟨?_, Ex.refl _, by rw [own_nil]; exact Ef.refl _, fun i h => (by simp at h), fun i h => (by simp at h), mo, fun j sl h hp => ?_⟩
  · rw [own_nil]
    refine ⟨?_, hO, mo, hI⟩
    unfold L2.start
    rw [f.len ha, hn]
    exact pair_app (p.sl ha) (paired_rep n)
  · rw [rep_hp _ n (p.hp a) j sl h] at hp
    cases hp
theorem fnP {f : RF K α} {r : R K β} {m : α → PT β} {g : α → List (Sl K)} (p : Prm f g) {N : List Str} {n : Nat} (hn : N.length - f.n = n) {t : TS} {mb : α → PT (Ctl β Empty Unit)} (hb : ∀ a, BJ eff0 (g a ++ List.replicate n slAny) [] t (mb a) r (fun _ => (g a ++ List.replicate n slAny).map fun _ => slAny) [] noL [])
    (hm : ∀ a k, m a k → mb a (outF k)) {vs : List V} {H : Hp} {Q : VK} {X0 : XK} (h : spP f r m vs H Q X0) : t { nx := fun _ H' => Q .non H', rt := Q } (L2.start N vs) H := by
  obtain ⟨O, a, k, hO, ha, hk, q⟩ := h
  refine hb a O H (hid H O) _ H (fn_start (E := eff0) p hO (fun _ z => False.elim z) True.intro ha hn) _ (hm a k hk) _ (fun _ _ _ z => z.elim) (fun b v H' kb e1 _ e3 => ?_) (fun l => nomatch l) (fun l => nomatch l)
  rw [show eff0.M = fun _ => False from rfl, hid_no, hid_no] at e1
  exact q b v H' kb e1 e3
theorem fnU {f : RF K α} {m : α → PT Unit} {g : α → List (Sl K)} (p : Prm f g) {N : List Str} {n : Nat} (hn : N.length - f.n = n) {t : TS} {mb : α → PT (Ctl Unit Empty Unit)} (hb : ∀ a, BJ eff0 (g a ++ List.replicate n slAny) [] t (mb a) rNon (fun _ => (g a ++ List.replicate n slAny).map fun _ => slAny) [] noL [])
    (hm : ∀ a k, m a k → mb a (outU k)) {vs : List V} {H : Hp} {Q : VK} {X0 : XK} (h : spP f rNon m vs H Q X0) : t { nx := fun _ H' => Q .non H', rt := Q } (L2.start N vs) H := by
  obtain ⟨O, a, k, hO, ha, hk, q⟩ := h
  have fin : ∀ {H' : Hp}, Ex (hid H eff0.M) (hid H' eff0.M) → k () → Q .non H' := fun {H'} e1 kb => by
    rw [show eff0.M = fun _ => False from rfl, hid_no, hid_no] at e1
    exact q () .non H' kb e1 rfl
  refine hb a O H (hid H O) _ H (fn_start (E := eff0) p hO (fun _ z => False.elim z) True.intro ha hn) _ (hm a k hk) _ (fun _ σ' H' kb I' => fin I'.h0 kb) (fun b v H' kb e1 _ e3 => ?_) (fun l => nomatch l) (fun l => nomatch l)
  rw [show v = .non from e3]
  exact fin e1 kb
/-- a def that draws: slot 0 is the tape -/
theorem fnT {f : RF K α} {r : R K β} {m : α → PT β} {g : α → List (Sl K)} (p : Prm f g) {N : List Str} {n : Nat} (hn : N.length - (f.n + 1) = n) {t : TS} {mb : α → PT (Ctl β Empty Unit)} (hb : ∀ pt c a, BJ (effT pt c) (slAt pt :: (g a ++ List.replicate n slAny)) [] t (mb a) r (fun _ => slAny :: (g a ++ List.replicate n slAny).map fun _ => slAny) [] noL [])
    (hm : ∀ a k, m a k → mb a (outF k)) {vs : List V} {H : Hp} {Q : VK} {X0 : XK} (h : spT f r m vs H Q X0) : t { nx := fun _ H' => Q .non H', rt := Q } (L2.start N vs) H := by
  obtain ⟨pt, c, ws, O, a, k, e, hO, mo, hI, ha, hk, q⟩ := h
  subst e
  refine hb pt c a O H (hid H O) _ H ?_ _ (hm a k hk) _ (fun _ _ _ z => z.elim) (fun b v H' kb e1 e2 e3 => q b v H' kb ⟨e1, e2⟩ e3) (fun l => nomatch l) (fun l => nomatch l)
  refine ⟨?_, Ex.refl _, by rw [own_nil]; exact Ef.refl _, fun i h => (by simp at h), fun i h => (by simp at h), mo, fun j sl h hp => ?_⟩
  · rw [own_nil]
    refine ⟨?_, hO, mo, hI⟩
    unfold L2.start
    rw [List.length_cons, f.len ha, hn]
    exact .cons rfl (pair_app (p.sl ha) (paired_rep n))
  · cases j with
    | zero => simp at h; subst h; cases hp
    | succ j =>
      rw [rep_hp _ n (p.hp a) j sl (by simpa using h)] at hp
      cases hp
end
end Nz
namespace Nz
open PySem L2
variable {K : PySem.W.Frag} {E : Eff}
theorem spP_len {α β : Type} {f : RF K α} {r : R K β} {m : α → PT β} {vs : List V} {H : Hp} {Q : VK} {X0 : XK} (h : spP f r m vs H Q X0) : vs.length = f.n := let ⟨_, _, _, _, ha, _⟩ := h; f.len ha
theorem spT_len {α β : Type} {f : RF K α} {r : R K β} {m : α → PT β} {vs : List V} {H : Hp} {Q : VK} {X0 : XK} (h : spT f r m vs H Q X0) : vs.length = f.n + 1 := by
  obtain ⟨_, _, ws, _, _, _, e, _, _, _, ha, _⟩ := h
  rw [e, List.length_cons, f.len ha]
theorem rl_l {α : Type} {sls : List (Sl K)} {te : TE} {r : R K α} {c : PT (List α)} (h : EL E sls te r c) : ERl E sls te r c := rl_ev (ev_l h)
theorem rd_d {α κ : Type} {sls : List (Sl K)} {te : TE} {e : Ky κ} {r : R K α} {c : PT (List (κ × α))} (h : ED E sls te e r c) : ERd E sls te e r c := rd_ev (ev_d h)
end Nz

/-! Nz7: further rules: enumerate of a tuple, update, joins of lists, .. -/
namespace Nz
open PySem L2 PyProof.Rows
/-! ### enumerate(a tuple) -/
theorem enum_endT {prog : Program} {w : World} {A : Around} {E : Value → Shared → Prop} {s : Shared} {e it l : Addr} {i : Nat} {items : Array Value} {old : Value} {Q : Option Value → Shared → Prop} (hh : A.handled = none)
    (he : IsEnum s.heap e it i old) (hit : s.heap.IsTupleIter it l i) (hl : s.heap.IsTuple l items) (hx : items[i]? = none)
    (hQ : ∀ h', Heap.ExtBut it s.heap h' → Q none { s with heap := h' }) : wpAny (model prog w) A (pyNext (.ref e)) Q E s := by
  have hT : s.TypeIs (.ref e) "enumerate" := ⟨_, he, rfl⟩
  unfold pyNext
  refine wpAny_bind (wpAny_attempt (wpAny_callSpecial?_slot (name := Str.ofString "__next__") hT F.slot_enumerate_next
    (wpAny_call_entry F.slot_enumerate_next hT F.entry_enumerate_next ?_ (F.args_enumerate_next_1 _))))
  show wpAny _ _ (field (.ref e) 2 >>= _) _ _ _
  refine wpAny_bind (wpAny_field he rfl (x := .ref it) rfl ?_)
  refine wpAny_bind (wpAny_nextOf_tuple_end hh hit hl hx fun h' x he' hx' => ?_)
  obtain ⟨o, ho, hc⟩ := hx'
  refine wpAny_bind (wpAny_isInstance (T := "StopIteration") (b := true) ⟨o, ho, hc⟩ isSubtype_stop ?_)
  exact wpAny_pure (hQ _ he')
def IteT (K : PySem.W.Frag) (a : Addr) : It :=
  ⟨fun i H => ∃ (xs : List V) (x : V), SqT K H a xs ∧ xs[i]? = some x, fun i H v H' => ∃ T x, v = .ref T ∧ H T = none ∧ H' = upd H T (.tup [.int (i : Nat), x]) ∧ ∀ xs, SqT K H a xs → xs[i]? = some x, fun i H => ∃ xs : List V, SqT K H a xs ∧ xs.length ≤ i⟩
theorem turn_enumT {P : Program} {w : World} {K : PySem.W.Frag} {elts : List Expr} {kk : Nat} {tpos : Pos} (a e it : Addr) :
    Turn P w K (.Tuple elts kk tpos) (IteT K a) [e, it] e (fun i h => (∃ old, IsEnum h e it ((i : Nat) : Int) old) ∧ h.IsTupleIter it a i ∧ e ≠ it) where
  mem := by simp
  obj := fun i h st b hb => by
    obtain ⟨⟨old, he⟩, ⟨o, ho, hc, hd⟩, _⟩ := st
    have e' : b = e ∨ b = it := by simpa using hb
    rcases e' with z | z
    · rw [z]; exact ⟨_, he, fun v q => nomatch q⟩
    · rw [z]; exact ⟨o, ho, fun v q => by rw [hd] at q; cases q⟩
  keep := fun i h h' st k => let ⟨⟨old, he⟩, hi, hne⟩ := st; ⟨⟨old, k e (by simp) _ he⟩, hi.at fun o q => k it (by simp) o q, hne⟩
  item := by
    intro X hP hw hK hc i pins s σ H E I hf st hg
    subst hP hw hK
    obtain ⟨⟨old, he⟩, hit, hne⟩ := st
    obtain ⟨xs, x, hq, hx⟩ := hg
    obtain ⟨its, rv, p, hz⟩ := I.tuple hq
    obtain ⟨u, hu, ru⟩ := rv.get hx
    have hp : s.heap.IsTuple a its.toArray := p
    have hea : e ≠ a := fun z => by
      subst z
      obtain ⟨o, ho, hc', _⟩ := hp
      rw [show s.heap.get? e = some _ from he] at ho
      cases ho
      have hc2 : Value.type "enumerate" = Value.type "tuple" := hc'
      simp at hc2
    have hia : a ≠ it := fun z => by
      subst z
      obtain ⟨o, ho, hc', _⟩ := hp
      obtain ⟨o', ho', hc'', _⟩ := hit
      rw [ho] at ho'
      cases ho'
      rw [hc'] at hc''
      have hc2 : Value.type "tuple" = Value.type "tuple_iterator" := hc''
      simp at hc2
    have hel : e < s.heap.objs.size := Heap.lt_size he
    have hil : it < s.heap.objs.size := by obtain ⟨_, q, _⟩ := hit; exact Heap.lt_size q
    have hlt : i < its.toArray.size := by simpa using (List.getElem?_eq_some_iff.mp hu).1
    refine wpAny_pyNext_enum_itemC (Draws.tuple (A := X.A.in1) (I.ok.hd hc) it a hia its.toArray) he ⟨hit, hp⟩ hlt hne (by simp [hne, hea]) fun y h' tk hP ho hs' hT hsz hk => ?_
    have ey : y = u := by
      have : its.toArray[i]? = some u := by simpa using hu
      rw [this] at hP; cases hP; rfl
    subst ey
    refine ⟨_, rfl, wpAny_letOwnedTupleGo_enum (s := { s with heap := h', toks := tk + 1 }) ho fun h'' he' sb => ?_⟩
    have hT2 : h''.get? s.heap.objs.size = some { cls := .type "tuple", data := .seq #[.int i tk, y] } := (sb.2 _ (Nat.ne_of_gt hel)).trans hT
    have new : ObjOk X.prog X.w (upd H s.heap.objs.size (.tup [.int (i : Nat), x])) h'' s.heap.objs.size (.tup [.int (i : Nat), x]) :=
      ⟨by show 2 ≤ sizeLine; decide, [.int i tk, y], .cons ⟨_, rfl⟩ (.cons ru .nil), ⟨_, hT2, rfl, _, rfl⟩⟩
    have I1 : Inv X pins σ (upd H s.heap.objs.size (.tup [.int (i : Nat), x])) { s with heap := h'', toks := tk + 1 } :=
      I.turnedNew (ch := [e, it]) (fun b ob hb q => (sb.2 b (fun z => hb (by simp [z]))).trans (hk b ob (fun z => hb (by simp [z])) (fun z => hb (by simp [z])) q)) hf (Nat.le_refl _) new
    refine ⟨.ref s.heap.objs.size, _, I1, rfl, ⟨_, x, rfl, I.hok.fresh (Nat.le_refl _), rfl, fun ys hy => by rw [I.tuple_inj hy hq]; exact hx⟩, ⟨⟨y, ?_⟩, hs'.1.at fun o q => (sb.2 it (Ne.symm hne)).trans q, hne⟩, fun b hb => ?_⟩
    · have e1 : ((i + 1 : Nat) : Int) = (i : Int) + 1 := by omega
      rw [e1]; exact he'
    · have hb' : b < s.heap.objs.size := by
        have e' : b = e ∨ b = it := by simpa using hb
        rcases e' with z | z
        · rw [z]; exact hel
        · rw [z]; exact hil
      rw [upd_ne (Nat.ne_of_lt hb')]
      exact (hf b hb).1
  done := by
    intro X hP hw hK hc i pins s σ H E I hf st hg
    subst hP hw hK
    obtain ⟨⟨old, he⟩, hit, hne⟩ := st
    obtain ⟨xs, hq, hx⟩ := hg
    obtain ⟨its, rv, p, hz⟩ := I.tuple hq
    obtain ⟨f0, f1, f2, f3, f4, f5⟩ := hf it (by simp)
    have hp : s.heap.IsTuple a its.toArray := p
    have hl := rv.length
    exact enum_endT (I.ok.hd hc) he hit hp (by simp; omega) fun h' eb => ⟨rfl, I.turned (t' := s.toks) (fun b o hb q => eb b o hb q) f0 f1 f3 f4 f5⟩
  self := fun A i s Q E st h => let ⟨⟨_, he⟩, _⟩ := st; wpAny_pyIter_enum he h
set_option maxHeartbeats 1000000 in
theorem meets_enum1 {v : Value} {o : Obj} {H : Heap → Prop} (B : Begins v o H) :
    Meets (Builtin.«enumerate.__new__» ⟨[.type "enumerate", v], []⟩) (fun _ R s => H s.heap ∧
      R (.ok (.ret (.ref (s.heap.push o).objs.size))) { s with heap := (s.heap.push o).push { cls := .type "enumerate", data := .fields #[.none, .bool false, .ref s.heap.objs.size, rawInt 0, .none, .none] } }) :=
  .of_wp fun prog w A R s h => by
    obtain ⟨hp, g, d, tk, os⟩ := s; obtain ⟨h1, h⟩ := h
    have hsub := sub_enumerate
    have q1 : ∀ {A' : Around} {E : Value → Shared → Prop} {Q : Value → Shared → Prop}, Q (.ref hp.objs.size) ⟨hp.push o, g, d, tk, os⟩ → wpAny (model prog w) A' (pyIter v) Q E ⟨hp, g, d, tk, os⟩ :=
      fun q => B.iter prog w _ _ ⟨hp, g, d, tk, os⟩ _ h1 q
    wp_walk using q1
    refine wpAny_stack_any fun st => wpAny_pure ?_
    split
    · rename_i c _ _ _ _ _
      cases (c == Value.type "enumerate")
      · wp_walk using q1
        exact ⟨_, rfl, h⟩
      · wp_walk using q1
        exact ⟨_, rfl, h⟩
    · wp_walk using q1
      exact ⟨_, rfl, h⟩
theorem call_enumT {prog : Program} {w : World} {A : Around} {E : Value → Shared → Prop} {s : Shared} {l : Addr} {items : Array Value} {Q : Value → Shared → Prop} (hL : s.heap.IsTuple l items)
    (h : ∀ h', IsEnum h' (s.heap.objs.size + 1) s.heap.objs.size 0 .none → h'.IsTupleIter s.heap.objs.size l 0 → h'.objs.size = s.heap.objs.size + 2 →
      (∀ b o, s.heap.get? b = some o → h'.get? b = some o) → Q (.ref (s.heap.objs.size + 1)) { s with heap := h' }) :
    wpAny (model prog w) A (call (.type "enumerate") [.ref l]) Q E s := by
  refine callType_new F.called_enumerate (by decide) (F.typeCall_enumerate_1 _) (F.newCall_enumerate_1 _) (fun obj => F.args_object_init_2 obj _) F.entry_enumerate_new
    (meets_enum1 (begins_tuple l items)) ⟨hL, ?_⟩
  have hz : (s.heap.push { cls := .type "tuple_iterator", data := .fields #[.ref l, .int 0 0] }).objs.size = s.heap.objs.size + 1 := Heap.size_push ..
  show _ ∧ _
  rw [hz]
  have he : IsEnum ((s.heap.push { cls := .type "tuple_iterator", data := .fields #[.ref l, .int 0 0] }).push
      { cls := .type "enumerate", data := .fields #[.none, .bool false, .ref s.heap.objs.size, rawInt 0, .none, .none] }) (s.heap.objs.size + 1) s.heap.objs.size 0 .none := by
    have := Heap.get?_push_size (s.heap.push { cls := .type "tuple_iterator", data := .fields #[.ref l, .int 0 0] })
      (o := { cls := .type "enumerate", data := .fields #[.none, .bool false, .ref s.heap.objs.size, rawInt 0, .none, .none] }) rfl
    rw [hz] at this; exact this
  refine ⟨⟨_, he, rfl⟩, h _ he ⟨_, Heap.get?_push_of_some _ (Heap.get?_push_size _ rfl), rfl, rfl⟩ (by rw [Heap.size_push, hz]) fun b o x => Heap.get?_push_of_some _ (Heap.get?_push_of_some _ x)⟩
def iEnumT (K : PySem.W.Frag) (ta : TA) : TI := fun σ H R => ta σ H fun vs H1 => ∃ a xs, vs = [.ref a] ∧ SqT K H1 a xs ∧ R (IteT K a) H1
theorem pi_enumT {X : Cx} {e : Expr} {ta : TA} {p pos tpos : Pos} {elts : List Expr} {kk : Nat} (hg : Gl X "enumerate") (hm : X.mg "enumerate" = none) (ha : PA X [e] ta) (hs : starEach [e] X.env = [(false, eval e X.env)] := by rfl) :
    PI X (.Tuple elts kk tpos) (.Call (.Name "enumerate" p) [e] [] pos) (iEnumT X.K ta) := by
  refine ⟨fun pins s σ H R I h => ?_⟩
  refine Call_ (ld_blt I hg hm boot_enumerate (PyProof.Rows.callWith_type1 (thn (ha.run pos pins s σ H _ I h) fun us s1 ⟨vs, H1, I1, r1, q1⟩ => ?_) hs rfl))
  obtain ⟨a, xs, ex, hq, q⟩ := q1
  subst ex
  cases r1 with
  | cons r rr =>
    cases rr
    cases r
    obtain ⟨its, rv, p', hz⟩ := I1.tuple hq
    refine call_enumT (show s1.heap.IsTuple a its.toArray from p') fun h' he hit hsz hk => wpAny_pyIter_enum he ?_
    have I2 : Inv X pins σ H1 { s1 with heap := h' } := I1.kept (t' := s1.toks) hk
    refine ⟨s1.heap.objs.size + 1, [s1.heap.objs.size + 1, s1.heap.objs.size], _, _, H1, rfl, I2, turn_enumT a (s1.heap.objs.size + 1) s1.heap.objs.size, ⟨⟨.none, he⟩, hit, Nat.succ_ne_self _⟩, fun b hb => ?_, q⟩
    have e' : b = s1.heap.objs.size + 1 ∨ b = s1.heap.objs.size := by simpa using hb
    have hle : s1.heap.objs.size ≤ b := by
      rcases e' with z | z
      · rw [z]; exact Nat.le_add_right _ _
      · rw [z]; exact Nat.le_refl _
    exact I1.fpOk hle (I1.hok.fresh hle)
section
variable {K : PySem.W.Frag} {O : Addr → Prop} {E : Eff} {sls : List (Sl K)}
variable {α β γ κ : Type} {te ta tb tc : TE} {r : R K α} {s : R K β} {c : PT α} {d : PT β}
theorem iw_enumT {F B : Hp} {p : Addr} {vs : List V} {xs : List α} (hs : TpX K B p vs) (hp : Paired (r.rp F) vs xs) (hl : vs.length ≤ big) : IW F B (rPr (fc rInt (f1 r))) (enumZ xs) (IteT K p) := by
  have e := hp.length
  refine iw_pair (p := p) (xs := []) (ys := xs) (by rw [enumZ_len]; omega) (fun i H3 hi w => ?_) (fun H3 w => ⟨vs, (hs.mono w.ew).sq, by rw [enumZ_len]; omega⟩) (fun i H3 v H4 hi w y => ?_)
  · rw [enumZ_len] at hi
    exact ⟨vs, vs[i]'(by omega), (hs.mono w.ew).sq, by simp [show i < vs.length by omega]⟩
  · rw [enumZ_len] at hi
    obtain ⟨T, x, h1, h2, h3, h4⟩ := y
    obtain ⟨v, e1, hv⟩ := paired_get' hp (i := i) (a := xs[i]) (by simp [hi])
    have := h4 vs (hs.mono w.ew).sq
    rw [e1] at this
    cases this
    exact ⟨T, _, _, h1, h2, h3, ((i : Int), xs[i]), enumZ_get xs i _ (by simp [hi]), rfl, hv⟩
theorem iv_enumT {c : PT (List α)} (h : EV E sls te (rTup r) c) : IV E sls (iEnumT K (tCons te tNil)) (rPr (fc rInt (f1 r))) (fun k => c fun xs => k (enumZ xs)) := fun O σ H S k hk Rr q =>
  h _ σ H S _ hk _ fun xs v H2 ka x ⟨p, vs, e, hs, hp, hl⟩ => ⟨p, vs, by rw [e], hs.of_hid.sq, q _ _ H2 ka x (iw_enumT hs hp hl)⟩
end

/-! ### d.update(e) -/
section
variable {X : Cx} {pins : List (Addr × Obj)} {σ : L2.St} {H : Hp} {s : Shared} {A : Around} {E : Value → Shared → Prop}
theorem d_upd {a b : Addr} {kvs more : List (Key × V)} {Q : Value → Shared → Prop} (I : Inv X pins σ H s) (e : H a = some (.dK kvs)) (e2 : Rd H b (.dK more)) (hne : a ≠ b) (hl : kvs.length + more.length ≤ sizeLine)
    (h : ∀ s', Inv X pins σ (upd H a (.dK (mergeK kvs more))) s' → Q .none s') :
    wpAny (model X.prog X.w) A (call (.builtin "dict.update") [.ref a, .ref b]) Q E s := by
  obtain ⟨z, hd, vs, rel, dd⟩ := dk_of I.hok e
  obtain ⟨z2, hd2, vs2, rel2, dd2⟩ := dk_rd I.hok e2
  refine call_meetsIn PySem.F.slot_dict_update dd.typeIs PySem.F.entry_dict_update (PySem.F.args_dict_update_2 _ _) (PySem.meets_dict_update (mixKind X.prog X.w) a b hne hd2) ⟨vs, vs2, dd, dd2, by rw [← rel.length, ← rel2.length]; exact hl, fun h' dd' _ hs => ?_⟩
  have he : ∃ q, h'.get? a = some q := let ⟨q, _, _, hq, _⟩ := dd'; ⟨q, hq⟩
  exact h _ (d_write (t' := s.toks) I (by rw [e]; exact True.intro) hs he (dk_new (Nat.le_trans (length_mergeK _ _) hl) hd (rel2.merge rel) dd'))
end
def tDUpd (td te : TE) : TE := fun σ H Q => td σ H fun x H1 => ∃ a, x = .ref a ∧ IsD H1 a ∧ te σ H1 fun y H2 => ∃ (b : Addr) (kvs more : List (Key × V)), y = .ref b ∧ H2 a = some (.dK kvs) ∧ Rd H2 b (.dK more) ∧ a ≠ b ∧ kvs.length + more.length ≤ sizeLine ∧ Q .non (upd H2 a (.dK (mergeK kvs more)))
theorem pe_dupd {X : Cx} {o e : Expr} {td ty : TE} {apos cpos : Pos} (ho : PE X o td) (he : PE X e ty) (m : M1 X o "update" apos e cpos) : PE X (.Call (.Attribute o "update" apos) [e] [] cpos) (tDUpd td ty) := by
  refine ⟨fun pins s σ H Q I h => ?_⟩
  refine wpAny_Call_method m.base m.few m.line PySem.F.plainAttrs_dict PySem.F.slot_dict_update PySem.F.type_dict_update (thn (ho.run pins s σ H _ I h) fun u s1 ⟨x, H1, I1, rx, a, ex, d, q1⟩ => ?_)
  subst ex
  obtain rfl : u = Value.ref a := rx
  obtain ⟨t1, t2, _⟩ := isD_at I1 d
  refine ⟨t1, t2, ?_⟩
  rw [m.trees]
  refine Calls.callWith_builtin rfl (Calls.evalArgs_plain (Calls.spliced_cons (thn (he.run pins s1 σ H1 _ I1 q1) fun iv s2 ⟨y, H2, I2, ry, b, kvs, more, ey, ea, eb, hne, hl, q2⟩ => Calls.spliced_nil ?_)))
  subst ey
  obtain rfl : iv = Value.ref b := ry
  exact d_upd I2 ea eb hne hl fun s4 I4 => ⟨.non, _, I4, rfl, q2⟩
section
variable {K : PySem.W.Frag} {E : Eff} {α β κ L N : Type} {te : TE} {rx : R K α} {sls : List (Sl K)} {own : List Nat} {r : R K β} {fN : N → List (Sl K)} {oN : List Nat} {fL : L → List (Sl K)} {oL : List Nat} {u : TS}
theorem paired_dputsK [DecidableEq κ] {e : Ky κ} {H : Hp} : ∀ {ws : List (Key × V)} {d : List (κ × α)}, Paired (DkRel e.enc rx H) ws d → ∀ {vs : List (Key × V)} {xs : List (κ × α)}, Paired (DkRel e.enc rx H) vs xs → Paired (DkRel e.enc rx H) (mergeK vs ws) (dputs xs d)
  | _, _, .nil, _, _, h => h
  | w :: ws, p :: d, .cons hw t, vs, xs, h => by
    show Paired _ (mergeK (putK vs w.1 w.2) ws) (dputs (dput xs p.1 p.2) d)
    have := paired_dputK (e := e) (a := p.1) hw.2 h
    rw [← hw.1] at this
    exact paired_dputsK t this
theorem dputs_len [DecidableEq κ] : ∀ (d xs : List (κ × α)), (dputs xs d).length ≤ xs.length + d.length
  | [], xs => by simp [dputs]
  | p :: d, xs => by
    have h1 := dputs_len d (dput xs p.1 p.2)
    have h2 := dput_len xs p.1 p.2
    show (dputs (dput xs p.1 p.2) d).length ≤ _
    rw [List.length_cons]
    omega
theorem bj_upd [DecidableEq κ] {i : Nat} {e : Ky κ} {xs : List (κ × α)} {c : PT (List (κ × α))} {m : List (κ × α) → PT (Ctl β L N)} (hi : i ∈ own) (h0 : sls[i]? = some (slDk e rx xs)) (h : EV E sls te (rDk e rx) c) (n : ∀ ys, BJ E (sls.set i (slDk e rx ys)) own u (m ys) r fN oN fL oL) :
    BJ E sls own (tSeq (tDrop (tDUpd (tVar i) te)) u) (fun k => c fun a => xs.length + a.length ≤ big ∧ m (dputs xs a) k) r fN oN fL oL := fun O0 H0 G σ H I k hk D q1 q2 q3 q4 => by
  obtain ⟨p, vs, e1, nM, hp, hv, hl⟩ := I.atD hi h0
  refine ⟨_, e1, p, rfl, .inl ⟨vs, .inl hp⟩, h _ σ H I.sl _ hk _ fun a v H2 ka x ⟨b, ws, ev, hr, hw, hl2⟩ => ?_⟩
  subst ev
  obtain ⟨nO, hr⟩ := rd_hid.mp hr
  have I2 := I.ext x
  have hp2 := x.keep hp nM
  have hv' : Paired (DkRel e.enc rx (hid H2 (OwnOf O0 own σ))) vs xs := pmap hv fun _ _ z => ⟨z.1, I.sl.rep x z.2⟩
  refine ⟨b, vs, ws, rfl, hp2, hr, fun z => nO (z ▸ .inr ⟨i, hi, e1⟩), le_line (by rw [hv.length, hw.length]; exact ka.1), n _ O0 H0 G σ _ (I2.mut hi e1 (u := .dK _) True.intro ?_) k ka.2 D q1 q2 q3 q4⟩
  have := paired_dputsK hw hv'
  exact ⟨p, _, rfl, .inl (by rw [hid_out nM]; exact upd_same), this, by rw [this.length]; exact Nat.le_trans (dputs_len _ _) ka.1⟩
end
end Nz

/-! Nz8: sets of ints that are sorted, lists of ranges, of dicts. -/
namespace Nz
open PySem L2 PySem.Spec PyProof.Rows
section
variable {P : Program} {w : World} {A : Around} {E : Value → Shared → Prop} {s : Shared}
set_option maxRecDepth 100000 in
set_option maxHeartbeats 3200000 in
theorem call_set_lstI {l : Addr} {items : Array Value} (ns : List Int) {Q : Value → Shared → Prop} (hh : A.handled = none) (hl : s.heap.IsList l items) (hit : IntsAre items.toList ns) (hb : ns.length + 1 < scanBound)
    (h : ∀ (h' : Heap) (tk c : Nat), SetR w h' s.heap.objs.size (fun j => decide (j ∈ ns)) c → c ≤ ns.length → (∀ b o, s.heap.get? b = some o → h'.get? b = some o) → Q (.ref s.heap.objs.size) { s with heap := h', toks := tk }) :
    wpAny (model P w) A (call (.type "set") [.ref l]) Q E s := by
  have hisz : items.size = ns.length := by
    have q := IntsAre.length hit
    rw [Array.length_toList] at q
    exact q
  obtain ⟨c, tl, hmro⟩ := F.called_set.mro
  have hmade := F.called_set.made
  have hsub := F.called_set.sub
  refine wpAny_call (codeAny_of_tree ?_)
  show wpAny _ _ (callAny (.type "set") _) _ _ _
  refine wpAny_pure ⟨Code.quiet_builtin _ (by decide +kernel), codeAny_builtin F.entry_type_call ?_⟩
  rw [Around.under_plain (weight_type_call_type "set" [.ref l] []) rfl]
  have h1 := F.called_set.notType
  have h2 := F.called_set.canCreate
  have hct := F.typeCall_set_1 (.ref l)
  repeat (any_goals (first | assumption | wp_step))

  refine codeAny_mono (code_set_led1 (.ref l) (E := E) (Q₁ := fun obj s₁ => obj = .ref s.heap.objs.size ∧ s₁ = { s with heap := s.heap.push { cls := .type "set", dict := none, data := .set #[] 0 (.fresh 0 0 (!w.params.followText "set-order")) } }) ⟨rfl, rfl⟩) fun r s₁ hr => ?_
  cases r with
  | error e => exact hr
  | ok fl =>
    cases fl with
    | ret obj =>
      obtain ⟨rfl, rfl⟩ := hr
      have hS : (s.heap.push { cls := .type "set", dict := none, data := .set #[] 0 (.fresh 0 0 (!w.params.followText "set-order")) }).get? s.heap.objs.size = some { cls := .type "set", dict := none, data := .set #[] 0 (.fresh 0 0 (!w.params.followText "set-order")) } := Heap.get?_push_size _ rfl
      have hT : Shared.TypeIs { s with heap := s.heap.push { cls := .type "set", dict := none, data := .set #[] 0 (.fresh 0 0 (!w.params.followText "set-order")) } } (.ref s.heap.objs.size) "set" := ⟨_, hS, rfl⟩
      have hli := F.called_set.init.lookup
      have hbi := F.called_set.init.bind (.ref s.heap.objs.size)
      repeat (any_goals (first | assumption | wp_step))

      refine codeAny_mono (codeAny_call_builtin (R := wants (fun r s₂ => r = .none ∧ ∃ h' tk c, s₂ = { s with heap := h', toks := tk } ∧ SetR w h' s.heap.objs.size (fun j => decide (j ∈ ns)) c ∧ c ≤ ns.length ∧
          (∀ b o, s.heap.get? b = some o → h'.get? b = some o)) E) F.called_set.init.plain F.entry_set_init (check_set_init_1 hT ?_)) fun r₂ s₂ hr₂ => ?_
      · obtain ⟨ol, hol, hcl, nl, hdl⟩ := hl
        obtain ⟨ocls, odict, odata, oslots⟩ := ol
        simp only at hcl hdl
        subst hcl; subst hdl
        have hol' : (s.heap.push { cls := .type "set", dict := none, data := .set #[] 0 (.fresh 0 0 (!w.params.followText "set-order")) }).get? l = some { cls := .type "list", dict := odict, data := .seq items nl, slots := oslots } := Heap.get?_push_of_some _ hol
        have hsls := F.sub_list_set
        have hslf := F.sub_list_frozenset
        have hne : (Value.type "list" == Value.type "dict") = false := by decide
        have hl1 : (s.heap.push { cls := .type "set", dict := none, data := .set #[] 0 (.fresh 0 0 (!w.params.followText "set-order")) }).IsList l items := ⟨_, hol', rfl, nl, rfl⟩
        unfold Builtin.«set.__init__» noKeywords Builtin.Frozenset.updateFrom
        generalize hPI : pyIter = PI
        wp_walk
        subst hPI

        refine wpAny_pyIter_list hl1 ?_
        refine wpAny_bind (wpAny_runValue ?_)
        have hlS : l < s.heap.objs.size := Heap.lt_size hol
        have hh3 : A.in1.in1.in1.handled = none := by simp [hh]
        have hz1 : (s.heap.push { cls := .type "set", dict := none, data := .set #[] 0 (.fresh 0 0 (!w.params.followText "set-order")) }).objs.size = s.heap.objs.size + 1 := Heap.size_push ..
        have hneI : l ≠ (s.heap.push { cls := .type "set", dict := none, data := .set #[] 0 (.fresh 0 0 (!w.params.followText "set-order")) }).objs.size := by
          rw [Heap.size_push]; exact Nat.ne_of_lt (Nat.lt_succ_of_lt hlS)
        have hSf : s.heap.objs.size ∉ [(s.heap.push { cls := .type "set", dict := none, data := .set #[] 0 (.fresh 0 0 (!w.params.followText "set-order")) }).objs.size, l] := by
          rw [Heap.size_push]; simp only [List.mem_cons, List.mem_singleton, List.not_mem_nil, or_false, not_or]
          exact ⟨Nat.ne_of_lt (Nat.lt_succ_self _), Nat.ne_of_gt hlS⟩
        have hval : ∀ (i : Nat) (v : Value), items[i]? = some v → ∃ k t, ns[i]? = some k ∧ v = .int k t := fun i v hv => by
          have hi : i < ns.length := by rw [← hisz]; exact (Array.getElem?_eq_some_iff.mp hv).1
          obtain ⟨t, e⟩ := PyProof.Rows.IntsAre.int_at hit i v (by rw [Array.getElem?_toList]; exact hv)
          refine ⟨ns[i], t, List.getElem?_eq_getElem hi, ?_⟩
          rw [e, List.getD_eq_getElem?_getD, List.getElem?_eq_getElem hi] <;> rfl
        refine set_update_ints ((Walks.list hh3 _ l hneI items).toS) s.heap.objs.size
          hSf ns hisz hb hval (items.size - 0) 0 _ (by omega) (Nat.zero_le _)
          ⟨⟨_, Heap.get?_push_size _ rfl, rfl, rfl⟩, (hl1.push _)⟩ ?hS0 ?hR
        case hS0 =>
          have hget : ((s.heap.push { cls := .type "set", dict := none, data := .set #[] 0 (.fresh 0 0 (!w.params.followText "set-order")) }).push { cls := .type "list_iterator", data := .fields #[.ref l, .int 0 0] }).get? s.heap.objs.size
              = some { cls := .type "set", dict := none, data := .set #[] 0 (.fresh 0 0 (!w.params.followText "set-order")) } := Heap.get?_push_of_some _ hS
          exact ⟨0, Nat.le_refl 0, setR_new_at hget⟩
        case hR =>
          intro s' c' hm hc' hS'
          obtain ⟨h', g2, d', tk', os'⟩ := s'
          have eg : g2 = s.gens := hm.gens
          have ed : d' = s.drawn := hm.drawn
          have eo : os' = s.os := hm.os
          subst eg; subst ed; subst eo
          show wpAny _ _ _ _ _ _
          refine wpAny_pure ?_
          show wpAny _ _ (ret Value.none) _ _ _
          rw [hisz] at hc'
          refine wpAny_pure ⟨rfl, h', tk', c', rfl, hS', hc', fun b o e => ?_⟩
          have hb0 : b < s.heap.objs.size := Heap.lt_size e
          have hb1 : b ≠ s.heap.objs.size := Nat.ne_of_lt hb0
          have hb2 : b ≠ (s.heap.push { cls := .type "set", dict := none, data := .set #[] 0 (.fresh 0 0 (!w.params.followText "set-order")) }).objs.size := by
            rw [Heap.size_push]; exact Nat.ne_of_lt (Nat.lt_succ_of_lt hb0)
          exact hm.heap b o (by simp only [List.mem_cons, List.mem_singleton, List.not_mem_nil, or_false, not_or]; exact ⟨hb1, hb2⟩) (Heap.get?_push_of_some _ (Heap.get?_push_of_some _ e))

      · cases r₂ with
        | error e => exact hr₂
        | ok fl₂ =>
          cases fl₂ with
          | ret r =>
            obtain ⟨rfl, h', tk, c', rfl, hS', hc', hk'⟩ := hr₂
            repeat (any_goals (first | assumption | wp_step))
            exact h _ _ _ hS' hc' hk'
          | _ => exact hr₂.elim
    | _ => exact hr.elim

end
end Nz

/-! Nz9: further rules. -/
namespace Nz
open PySem L2 PySem.Spec PyProof.Rows
/-- set(xs) of a list of ints -/
def rSetL (K : PySem.W.Frag) (w : World) : List V → Hp → VK → Prop := fun xs H Q => ∃ (p : Addr) (ns : List Int), xs = [.ref p] ∧ SqL K H p (ns.map V.int) ∧ ns.length < 64 ∧ ∀ q c, c ≤ ns.length → H q = none → Q (.ref q) (upd H q (SetO w q (fun j => decide (j ∈ ns)) c))
theorem cr_setL {X : Cx} (hc : X.calm = true) : CallR X (.type "set") (rSetL X.K X.w) := by
  intro pins s σ H xs us Q I r h
  obtain ⟨p, ns, e, hq, hl, q⟩ := h
  subst e
  obtain ⟨u, eu, rx⟩ := vals1 r
  subst eu
  obtain rfl : u = Value.ref p := rx
  obtain ⟨its, rv, pt, hz⟩ := I.list hq
  have hi : IntsAre its.toArray.toList ns := by simpa using Vals.ints rv
  refine call_set_lstI ns (I.ok.hd hc) pt.isList hi (by unfold scanBound; omega) fun h' tk c R1 hcn k => ?_
  exact ⟨.ref _, _, I.laid (t' := tk) k (Nat.le_refl _) (setO_new R1), rfl, q _ c hcn (I.hok.fresh (Nat.le_refl _))⟩
section
variable {K : PySem.W.Frag} {O : Addr → Prop} {E : Eff} {sls : List (Sl K)}
variable {α β γ κ : Type} {te ta tb tc : TE} {r : R K α} {s : R K β} {c : PT α} {d : PT β}
def tSortSet (K : PySem.W.Frag) (w : World) (te : TE) : TE := tCB (rSortedSet w) (tCons (tCB (rSetL K w) (tCons te tNil)) tNil)
theorem el_sortSet {w : World} {c : PT (List Int)} (h : ERl E sls te rInt c) : EL E sls (tSortSet K w te) rInt (fun k => c fun xs => xs.length < 64 ∧ k (sortU xs)) := fun O σ H S k hk Q q =>
  h _ σ H S _ hk _ fun xs p vs H2 ka x hs hp hl => ⟨p, xs, rfl, by rw [← ints_of hp]; exact lun hs, ka.1, fun p2 c2 hc2 np2 => by
    have S2 := S.ext x
    have n2 := S2.new (u := SetO w p2 (fun j => decide (j ∈ xs)) c2) np2
    refine ⟨p2, _, c2, rfl, upd_same, Nat.lt_of_le_of_lt hc2 ka.1, fun ns P pw mem hlen nP => ?_⟩
    have e : ns = sortU xs := lt_unique pw (pw_sortU xs) fun z => by rw [mem z, mem_sortU, decide_eq_true_eq]
    subst e
    exact q_ints S (x.trans n2.1) ka.2 (by rw [hlen]; show c2 ≤ 100000; have := ka.1; omega) q nP⟩
/-- list(range(n)), list(range(a, b)) -/
theorem rgV_eq (a b : Int) : rgV a b = (rg2 a b).map V.int := by
  unfold rgV rg2
  rw [List.map_map]
  rfl
theorem rg_rg2 (n : Int) : rg2 0 n = rg n := by
  unfold rg2 rg
  simp
theorem el_listRg1 {c : PT Int} (h : EV E sls te rInt c) : EL E sls (tLstRg (tRg1 te)) rInt (fun k => c fun n => (-100000 ≤ n ∧ n ≤ 100000) ∧ k (rg n)) := fun O σ H S k hk Q q =>
  h _ σ H S _ hk _ fun n v H2 ka x hv => ⟨n, hv, ⟨by omega, by omega, by omega, by omega, by omega⟩, fun P nP => by
    rw [rgV_eq, rg_rg2]
    exact q_ints S x ka.2 (by unfold rg; simp; omega) q nP⟩
theorem el_listRg2 {c d : PT Int} (h : EV E sls te rInt c) (h2 : EV E sls ta rInt d) : EL E sls (tLstRg (tRg2 te ta)) rInt (fun k => c fun a => d fun b => (-100000 ≤ a ∧ a ≤ 100000 ∧ -100000 ≤ b ∧ b ≤ 100000 ∧ b - a ≤ 100000) ∧ k (rg2 a b)) := fun O σ H S k hk Q q =>
  h _ σ H S _ hk _ fun a v H1 ka x1 hv => h2 _ σ H1 (S.ext x1) _ ka _ fun b w H2 kb x2 hw => ⟨a, b, hv, hw, ⟨by omega, by omega, by omega, by omega, by omega⟩, fun P nP => by
    rw [rgV_eq]
    exact q_ints S (x1.trans x2) kb.2 (by unfold rg2; simp; omega) q nP⟩
end
/-- list + list by what is read -/
theorem op_catR {X : Cx} : OpR X (binaryOp .Add) rCatL := by
  intro pins s σ H x y v u Q I rx ry h
  obtain ⟨l, b, xs, zs, rfl, rfl, hH, hB, hz, q⟩ := h
  cases rx
  cases ry
  obtain ⟨z, its, n, r, e⟩ := hH.ok I.hok
  obtain ⟨z2, its2, n2, r2, e2⟩ := hB.ok I.hok
  have l1 := r.length
  have l2 := r2.length
  refine PySem.P.add_list e e2 ?_ (by rw [List.size_toArray, List.size_toArray]; omega)
  have ea : its.toArray ++ its2.toArray = (its ++ its2).toArray := by simp
  rw [ea]
  exact ⟨.ref _, _, I.lnew (t' := s.toks) (r.append r2) (by rw [List.length_append]; omega), rfl, q _ I.fresh⟩
/-- list(d) by what is read -/
def rListDR : List V → Hp → VK → Prop := fun xs H Q => ∃ p kvs, xs = [.ref p] ∧ Rd H p (.dK kvs) ∧ ∀ q, H q = none → Q (.ref q) (upd H q (.lst (kvs.map fun kv => kV kv.1)))
theorem cr_listDR {X : Cx} (hc : X.calm = true) : CallR X (.type "list") rListDR := by
  intro pins s σ H xs us Q I r h
  obtain ⟨p, kvs, e, hk, q⟩ := h
  subst e
  obtain ⟨u, eu, rx⟩ := vals1 r
  subst eu
  obtain rfl : u = Value.ref p := rx
  obtain ⟨z, lo, vs, rk, hd⟩ := hk.ok I.hok
  obtain ⟨ep, hat⟩ := hd.dictAt
  have hl : kvs.length = vs.length := Paired.length rk
  refine PySem.W.kdl_call (PySem.W.kdl_dict (knd := mixKind X.prog X.w) (kvs := vs) (ep := ep) lo) (I.ok.hd hc) hat (by rw [← hl]; exact z) fun h' tk acc' c' hkeep hS hacc => ?_
  have h0 : acc'.size = vs.length := hacc.1
  have hv : Vals (kvs.map fun kv => kV kv.1) acc'.toList := by
    have hl2 : (kvs.map fun kv => kV kv.1).length = acc'.toList.length := by
      have h3 : acc'.toList.length = acc'.size := by simp
      rw [List.length_map, h3, h0]
      exact hl
    refine vals_of_at hl2 fun j x w h1 h2 => ?_
    obtain ⟨k, y, hky, hi⟩ := hacc.2 j w (by rw [← Array.getElem?_toList]; exact h2)
    obtain ⟨x', hx1, _⟩ := KV.at' rk hky
    rw [List.getElem?_map, hx1] at h1
    cases h1
    exact keyIs_rel hi
  refine ⟨.ref s.heap.objs.size, _, I.laid (o := .lst (kvs.map fun kv => kV kv.1)) hkeep (Nat.le_refl _) ⟨by rw [List.length_map]; exact z, acc'.toList, c', hv, by rw [Array.toArray_toList]; exact hS⟩, rfl, q _ (I.hok.fresh (Nat.le_refl _))⟩
section
variable {K : PySem.W.Frag} {O : Addr → Prop} {E : Eff} {sls : List (Sl K)}
variable {α β γ κ : Type} {te ta tb tc : TE} {r : R K α} {s : R K β} {c : PT α} {d : PT β}
theorem el_listDR {c : PT (List (Int × α))} (h : ERd E sls te kyI r c) : EL E sls (tCB rListDR (tCons te tNil)) rInt (fun k => c fun d => k (d.map (·.1))) := fun O σ H S k hk Q q =>
  h _ σ H S _ hk _ fun d p vs H2 ka x hs hp hl => ⟨p, vs, rfl, (rd_hid.mp hs).2, fun P nP => by
    have e : (vs.map fun kv => kV kv.1) = (d.map (·.1)).map V.int := by
      have := congrArg (List.map kV) (keys_of hp)
      rw [List.map_map, List.map_map] at this
      exact this
    rw [e]
    exact q_ints S x ka (by rw [List.length_map, ← hp.length]; exact hl) q nP⟩
/-- xs * n of a new list -/
theorem paired_rep' {F : V → α → Prop} {vs : List V} {xs : List α} (h : Paired F vs xs) : ∀ n : Nat, Paired F (List.replicate n vs).flatten (List.replicate n xs).flatten
  | 0 => .nil
  | n + 1 => by
    rw [List.replicate_succ, List.replicate_succ, List.flatten_cons, List.flatten_cons]
    exact paired_app h (paired_rep' h n)
theorem el_rep {c : PT (List α)} {d : PT Int} (h1 : EL E sls ta r c) (h2 : EV E sls tb rInt d) : EL E sls (tOp rRep ta tb) r (fun k => c fun a => d fun n => (-100000 ≤ n ∧ n ≤ 100000 ∧ a.length * n.toNat ≤ big) ∧ k (List.replicate n.toNat a).flatten) := fun O σ H S k hk Q q =>
  h1 _ σ H S _ hk _ fun a p1 vs1 H1 ka x1 np hs1 hp1 hl1 => h2 _ σ H1 (S.ext x1) _ ka _ fun n w H2 kb x2 hw => by
    have nO : ¬ O p1 := S.nOn np
    have nM : ¬ E.M p1 := fun z => nO (S.mo _ z)
    have S2 := (S.ext x1).ext x2
    have hp1' : Paired (r.rp (hid H2 O)) vs1 a := pmap hp1 fun _ _ z => (S.ext x1).rep x2 (r.mono (ew_hid_le fun a h => .inl h) z)
    refine ⟨p1, n, vs1, rfl, hw, x2.keep hs1 nM, by omega, by omega, le_line (by rw [hp1.length]; exact kb.1.2.2), fun P nP => ?_⟩
    have n3 := S2.new (u := .lst (List.replicate n.toNat vs1).flatten) nP
    refine q _ P _ _ kb.2 ((x1.trans x2).trans n3.1) ((x1.trans x2).back nP) upd_same (by rw [hid_new nP]; exact paired_rep' hp1' _) ?_
    rw [(paired_rep' hp1' n.toNat).length]
    have : (List.replicate n.toNat a).flatten.length = n.toNat * a.length := by simp [List.length_flatten, List.map_replicate, List.sum_replicate_nat]
    rw [this, Nat.mul_comm]
    exact kb.1.2.2
end
end Nz

/-! Nz10: loops over dicts that stand; rules with K told. -/
namespace Nz
open PySem L2 PySem.Spec PyProof.Rows
variable {K : PySem.W.Frag} {E : Eff}
section
variable {α β γ κ S : Type} {te ta tb tc : TE}
variable {L N M : Type} {sls : List (Sl K)} {own own' : List Nat} {r : R K β} {fN : N → List (Sl K)} {oN : List Nat} {fL : L → List (Sl K)} {oL : List Nat} {u : TS} {rx : R K α}
/-- the loop from an iterator on -/
theorem for_core {g : TG} {tb : TS} {js : List Nat} {rx : R K α} {xs : List α} {body : α → S → PT (Ctl β S S)} {k : Ctl β L S → Prop} {fS : S → List (Sl K)} {h : S → α → List (Sl K)} {oS : List Nat} {s0 : S} {O0 : Addr → Prop} {H0 G : Hp} {σ : L2.St} {H2 : Hp} {J : It}
    (I2 : SI E O0 H0 G sls own σ H2) (W : IW (hid H2 (OwnOf O0 own σ)) (hid H2 (OwnOf O0 own σ)) rx xs J)
    (w : Wks oS 0 sls (fS s0)) (ho : ∀ j ∈ oS, j ∈ own) (hg : ∀ s, GT E (fS s) g rx js (h s)) (hd : ∀ j ∈ oS, j ∉ js) (hb : ∀ s a, BJ E (h s a) oS tb (body a s) r fS oS fS oS) (ka : forC xs s0 body k) {D : Ends}
    (q1 : ∀ s σ' H', k (.nx s) → SI E O0 H0 (hid H2 (OwnOf O0 oS σ)) (fS s) oS σ' H' → D.nx σ' H')
    (q2 : ∀ b v H', k (.rt b) → Ex (hid H0 E.M) (hid H' E.M) → E.I H' → r.rp (hid H' O0) v b → D.rt v H') :
    ∃ Wv : Nat → Nat → L2.St → Hp → Prop, (∃ m, Wv 0 m σ H2) ∧ ∀ i m σ H, Wv i m σ H →
      (J.stop i H ∧ D.nx σ H) ∨ (J.go i H ∧ ∃ N : L2.St → Hp → Prop, (∀ σ' H', N σ' H' → ∃ m', m' < m ∧ Wv (i + 1) m' σ' H') ∧ ∀ x H', J.yld i H x H' → g x σ H' fun σ2 H2 => tb { D with nx := N, ct := N, bk := D.nx } σ2 H2) := by
  have I2' := (I2.wk w ho)
  have le : Ef (hid H2 (OwnOf O0 own σ)) (hid H2 (OwnOf O0 oS σ)) := ef_hid_le (own_le fun j hj => ⟨ho j hj, rfl⟩)
  refine ⟨fun i m' σ3 H3 => m' = xs.length - i ∧ i ≤ xs.length ∧ ∃ s, SI E O0 H0 (hid H2 (OwnOf O0 oS σ)) (fS s) oS σ3 H3 ∧ forC (xs.drop i) s body k, ⟨xs.length, by simp, Nat.zero_le _, s0, I2'.fresh, by simpa using ka⟩, ?_⟩
  rintro i m' σ3 H3 ⟨rfl, hi', s, I3, kc⟩
  have b3 : Ef (hid H2 (OwnOf O0 own σ)) H3 := (le.trans I3.g).trans ef_un
  by_cases hlt : i < xs.length
  · refine .inr ⟨W.go i H3 hlt b3, fun σ' H' => xs.length - (i + 1) < xs.length - i ∧ ∃ s, SI E O0 H0 (hid H2 (OwnOf O0 oS σ)) (fS s) oS σ' H' ∧ forC (xs.drop (i + 1)) s body k, fun σ' H' ⟨h1, h2⟩ => ⟨xs.length - (i + 1), h1, rfl, hlt, h2⟩, fun v H4 y => ?_⟩
    obtain ⟨ex, a, ea, hv⟩ := W.yld (OwnOf O0 oS σ3) i H3 v H4 hlt b3 I3.sl.od (le.trans I3.g).ew y
    rw [drop_at ea, forC] at kc
    have I4 := I3.ext (.of_ex ex I3.sl.inv)
    refine hg s _ σ3 H4 a v I4.sl hv _ fun σ5 S5 hs h1 h2 => ?_
    exact hb s a O0 H0 _ σ5 H4 (I4.tgt S5 hs h2 hd) _ kc _ (fun s' σ' H' ks I' => ⟨by omega, s', I', ks⟩) (fun b v H' kb' a1 a2 a3 => q2 b v H' kb' a1 a2 a3) (fun s' σ' H' ks I' => q1 s' σ' H' ks I') (fun s' σ' H' ks I' => ⟨by omega, s', I', ks⟩)
  · have e : i = xs.length := by omega
    subst e
    rw [List.drop_length, forC] at kc
    exact .inl ⟨W.stop H3 b3, q1 s σ3 H3 kc I3⟩
/-- a dict that a name holds by value, walked while it is locked -/
structure KW (wi : TI) (j : Nat) (sl : Sl K) (rx : R K α) (xs : List α) : Prop where
  hp : sl.hp = false
  run : ∀ {O M : Addr → Prop} {H : Hp} {o : Option V}, sl.p (hid H O) (hid H M) o → ∃ p u, o = some (.ref p) ∧ Rd (hid H O) p u ∧ Pl u ∧
    ∀ {σ : L2.St} {H1 : Hp} {od : Obj}, σ[j]? = some (some (.ref p)) → H1 p = some (.frz od u) → ¬ O p → Ew (hid H O) (hid H1 O) → ∀ Rr : It → Hp → Prop, (∀ J, IW (hid H1 O) (hid H1 O) rx xs J → Rr J H1) → wi σ H1 Rr
theorem kw_keys {e : Ky κ} {rk : R K κ} (Kw : KyW rk e) {j : Nat} {d : List (κ × α)} : KW (K := K) (iKeys (tVar j)) j (slV (rDk e rx) d) rk (d.map (·.1)) := ⟨rfl, fun ⟨v, eo, p, kvs, ev, hr, hp, hl⟩ => ⟨p, .dK kvs, by rw [eo, ev], hr, True.intro, fun {σ H1 od} es hf nO w Rr q =>
  ⟨_, es, p, od, rfl, .inl ⟨kvs, hf, q _ (iw_keys Kw (B := hid H1 _) (by rw [hid_out nO]; exact hf) (pmap hp fun _ _ z => ⟨z.1, rx.mono w z.2⟩) hl)⟩⟩⟩⟩
theorem kw_items {e : Ky κ} {rk : R K κ} (Kw : KyW rk e) {j : Nat} {d : List (κ × α)} : KW (K := K) (iItems (tVar j)) j (slV (rDk e rx) d) (rPr (fc rk (f1 rx))) d := ⟨rfl, fun ⟨v, eo, p, kvs, ev, hr, hp, hl⟩ => ⟨p, .dK kvs, by rw [eo, ev], hr, True.intro, fun {σ H1 od} es hf nO w Rr q =>
  ⟨_, es, p, od, kvs, rfl, hf, q _ (iw_items Kw (B := hid H1 _) (by rw [hid_out nO]; exact hf) (pmap hp fun _ _ z => ⟨z.1, rx.mono w z.2⟩) hl)⟩⟩⟩
theorem kw_keysT {e : Kt κ} {rk : R K κ} (Kw : KtW rk e) {j : Nat} {d : List (κ × α)} : KW (K := K) (iKeys (tVar j)) j (slV (rDt e rx) d) rk (d.map (·.1)) := ⟨rfl, fun ⟨v, eo, p, kvs, ev, hr, hp, hl⟩ => ⟨p, .dT kvs, by rw [eo, ev], hr, True.intro, fun {σ H1 od} es hf nO w Rr q =>
  ⟨_, es, p, od, rfl, .inr ⟨kvs, hf, q _ (iw_keysT Kw (B := hid H1 _) (by rw [hid_out nO]; exact hf) (pmap hp fun _ _ z => ⟨z.1, rx.mono w z.2⟩) hl)⟩⟩⟩⟩
theorem SI.lock {O0 : Addr → Prop} {H0 G : Hp} {σ : L2.St} {H : Hp} {p : Addr} {v : HO} (I : SI E O0 H0 G sls own σ H) (nO : ¬ OwnOf O0 own σ p) (hp : H p = some v) (pv : Pl v) (od : Obj) :
    SI E O0 (upd H0 p (.frz od v)) (hid (upd H p (.frz od v)) (OwnOf O0 own σ)) sls own σ (upd H p (.frz od v)) := by
  have nM : ¬ E.M p := fun z => nO (I.sl.mo p z)
  have ef := Ef.lock od hp pv.mut
  refine ⟨⟨pmap I.sl.sl fun o sl h => sl.mono (ef.ew.hid _) (ef.hid _) h, fun a h => ?_, I.sl.mo, E.mono (fun a ha => upd_ne fun e => nM (by subst e; exact ha)) (ext_upd (pv.nx hp)) I.sl.inv⟩, fun a w e => ?_, Ef.refl _, fun i hi => ?_, I.ap, I.mo, I.hk⟩
  · obtain ⟨w, hw, nt⟩ := I.sl.od a h
    have c : a ≠ p := fun c => nO (by subst c; exact h)
    exact ⟨w, by rw [upd_ne c]; exact hw, nt⟩
  · obtain ⟨na, e⟩ := of_hid e
    rw [hid_out na]
    by_cases c : a = p
    · subst c
      rw [upd_same] at e ⊢
      exact e
    · rw [upd_ne c] at e ⊢
      exact (of_hid (I.h0 a w (by rw [hid_out na]; exact e))).2
  · obtain ⟨q, w, a, b, c, d, e, f, g⟩ := I.ow i hi
    have nq : q ≠ p := fun z => nO (by subst z; exact .inr ⟨i, hi, a⟩)
    exact ⟨q, w, a, hid_in (.inr ⟨i, hi, a⟩), by rw [upd_ne nq]; exact c, d, e, by rw [upd_ne nq]; exact f, g⟩
/-- unlocked again -/
theorem SI.unlock {O0 : Addr → Prop} {H0 G : Hp} {oS : List Nat} {σ σ' : L2.St} {H H' : Hp} {p : Addr} {v : HO} {od : Obj} {sls' : List (Sl K)} (I : SI E O0 H0 G sls own σ H) (nO : ¬ OwnOf O0 own σ p) (hp : H p = some v) (pv : Pl v) (ho : ∀ j ∈ oS, j ∈ own)
    (I' : SI E O0 (upd H0 p (.frz od v)) (hid (upd H p (.frz od v)) (OwnOf O0 oS σ)) sls' oS σ' H') : H' p = some (.frz od v) ∧ SI E O0 H0 G sls' oS σ' (upd H' p v) := by
  have nM : ¬ E.M p := fun z => nO (I.sl.mo p z)
  have h2 : H' p = some (.frz od v) := by
    have := I'.h0 p (.frz od v) (by rw [hid_out nM]; exact upd_same)
    exact (of_hid this).2
  have nO' : ¬ OwnOf O0 oS σ' p := fun z => by
    rcases z with z | ⟨j, hj, e⟩
    · exact nO (.inl z)
    · obtain ⟨q, w, a, b, c, d, e1, f, g⟩ := I'.ow j hj
      rw [e] at a
      cases a
      rw [upd_same] at c
      cases c
  have le : ∀ a, OwnOf O0 oS σ a → OwnOf O0 own σ a := own_le fun j hj => ⟨ho j hj, rfl⟩
  have ew : Ew H' (upd H' p v) := Ew.unlock h2
  have hM : E.I (upd H' p v) := E.mono (fun a ha => upd_ne fun e => nM (by subst e; exact ha)) (ext_upd (frz_nx h2)) I'.sl.inv
  have S' : Paired (fun o (sl : Sl K) => sl.p (hid (upd H' p v) (OwnOf O0 oS σ')) (hid (upd H' p v) E.M) o) σ' sls' := by
    have base : ∀ (j : Nat) (o : Option V) (s : Sl K), σ'[j]? = some o → sls'[j]? = some s → s.p (hid H' (OwnOf O0 oS σ')) (hid H' E.M) o → s.p (hid (upd H' p v) (OwnOf O0 oS σ')) (hid (upd H' p v) E.M) o := fun j o s e1 e2 z => by
      have z1 := s.mono (ew.hid _) (Ef.refl _) z
      cases q : s.hp with
      | false => exact s.no q z1
      | true =>
        refine s.yes (fun a ea => ?_) z1
        have ne : a ≠ p := fun c => by
          subst c
          exact nO' (.inr ⟨j, I'.hk j s e2 q, by rw [e1, ea]⟩)
        by_cases m : E.M a
        · rw [hid_in m, hid_in m]
        · rw [hid_out m, hid_out m, upd_ne ne]
    have all : ∀ (τ : L2.St) (ts : List (Sl K)), (∀ (j : Nat) (o : Option V) (s : Sl K), τ[j]? = some o → ts[j]? = some s → s.p (hid H' (OwnOf O0 oS σ')) (hid H' E.M) o → s.p (hid (upd H' p v) (OwnOf O0 oS σ')) (hid (upd H' p v) E.M) o) →
        Paired (fun o (sl : Sl K) => sl.p (hid H' (OwnOf O0 oS σ')) (hid H' E.M) o) τ ts → Paired (fun o (sl : Sl K) => sl.p (hid (upd H' p v) (OwnOf O0 oS σ')) (hid (upd H' p v) E.M) o) τ ts := by
      intro τ ts f h
      induction h with
      | nil => exact .nil
      | cons h t ih => exact .cons (f 0 _ _ rfl rfl h) (ih fun j o s a b => f (j + 1) o s (by simpa using a) (by simpa using b))
    exact all σ' sls' base I'.sl.sl
  refine ⟨h2, ⟨S', fun a h => ?_, I'.sl.mo, hM⟩, fun a w e => ?_, I.g.trans ?_, fun i hi => ?_, I'.ap, I'.mo, I'.hk⟩
  · obtain ⟨w, hw, nt⟩ := I'.sl.od a h
    have c : a ≠ p := fun c => nO' (by subst c; exact h)
    exact ⟨w, by rw [upd_ne c]; exact hw, nt⟩
  · have h0 := (of_hid (I.h0 a w e)).2
    obtain ⟨na, e⟩ := of_hid e
    rw [hid_out na]
    by_cases c : a = p
    · subst c
      rw [hp] at h0
      rw [upd_same]
      exact h0
    · rw [upd_ne c]
      exact (of_hid (I'.h0 a w (by rw [hid_out na, upd_ne c]; exact e))).2
  · -- from hid H own
    have e1 : Ef (hid H (OwnOf O0 own σ)) (hid H (OwnOf O0 oS σ)) := ef_hid_le le
    have g' := I'.g
    have at' : ∀ a, a ≠ p → hid (upd H p (.frz od v)) (OwnOf O0 oS σ) a = hid H (OwnOf O0 oS σ) a := fun a c => by
      by_cases q : OwnOf O0 oS σ a
      · rw [hid_in q, hid_in q]
      · rw [hid_out q, hid_out q, upd_ne c]
    have at2 : ∀ a, a ≠ p → hid (upd H' p v) (OwnOf O0 oS σ') a = hid H' (OwnOf O0 oS σ') a := fun a c => by
      by_cases q : OwnOf O0 oS σ' a
      · rw [hid_in q, hid_in q]
      · rw [hid_out q, hid_out q, upd_ne c]
    have nOS : ¬ OwnOf O0 oS σ p := fun z => nO (le p z)
    have pp : hid H (OwnOf O0 oS σ) p = some v := by rw [hid_out nOS]; exact hp
    have pp2 : hid (upd H' p v) (OwnOf O0 oS σ') p = some v := by rw [hid_out nO']; exact upd_same
    refine e1.trans ⟨⟨fun a w pw q => ?_, fun a xs q => ?_⟩, fun a o w q => ?_, fun a w q => ?_⟩
    · by_cases c : a = p
      · subst c
        rcases q with q | ⟨o, q⟩
        · rw [pp] at q; cases q
          exact .inl pp2
        · rw [pp] at q; cases q
          exact pv.elim
      · have := g'.ew.rd a w pw (rd_eq (at' a c) q)
        exact rd_eq (at2 a c) this
    · by_cases c : a = p
      · subst c
        rw [pp] at q; cases q
        exact pv.elim
      · rw [at2 a c]
        exact g'.ew.tp a xs (by rw [at' a c]; exact q)
    · by_cases c : a = p
      · subst c
        rw [pp] at q; cases q
        exact pv.elim
      · rw [at2 a c]
        exact g'.fz a o w (by rw [at' a c]; exact q)
    · by_cases c : a = p
      · subst c
        exact ⟨_, pp2⟩
      · obtain ⟨w', h'⟩ := g'.ex a w (by rw [at' a c]; exact q)
        exact ⟨w', by rw [at2 a c]; exact h'⟩
  · obtain ⟨q, w, a, b, c, d, e, f, g⟩ := I'.ow i hi
    have nq : q ≠ p := fun z => nO' (by subst z; exact .inr ⟨i, hi, a⟩)
    refine ⟨q, w, a, ?_, by rw [upd_ne nq] at c; exact c, d, e, by rw [upd_ne nq]; exact f, g⟩
    cases z : G q with
    | none => rfl
    | some y =>
      obtain ⟨y1, h1⟩ := I.g.ex q y z
      obtain ⟨y2, h2'⟩ := (ef_hid_le (H := H) le).ex q y1 h1
      rw [hid_out (fun k => nO' (by
        have : (hid (upd H p (.frz od v)) (OwnOf O0 oS σ)) q = none := b
        rw [hid_in k] at h2'
        cases h2'))] at h2'
      have n : ¬ OwnOf O0 oS σ q := fun k => by
        have e3 := (ef_hid_le (H := H) le).ex q y1 h1
        obtain ⟨y3, h3⟩ := e3
        rw [hid_in k] at h3
        cases h3
      rw [hid_out n, upd_ne nq, h2'] at b
      cases b
theorem bj_forK {wi : TI} {g : TG} {tb : TS} {js : List Nat} {rx : R K α} {xs : List α} {sl : Sl K} {j : Nat} {body : α → S → PT (Ctl β S S)} {m : S → PT (Ctl β L N)} {fS : S → List (Sl K)} {h : S → α → List (Sl K)} {oS : List Nat} {s0 : S} (h0 : sls[j]? = some sl) (kw : KW wi j sl rx xs)
    (w : Wks oS 0 sls (fS s0)) (ho : ∀ j ∈ oS, j ∈ own) (hg : ∀ s, GT E (fS s) g rx js (h s)) (hd : ∀ j ∈ oS, j ∉ js) (hb : ∀ s a, BJ E (h s a) oS tb (body a s) r fS oS fS oS) (n : ∀ s, BJ E (fS s) oS u (m s) r fN oN fL oL) :
    BJ E sls own (tSeq (sLk (tFor wi g tb)) u) (fun k => forC xs s0 body (seqK m k)) r fN oN fL oL := fun O0 H0 G σ H I k hk D q1 q2 q3 q4 => by
  obtain ⟨o, eo, q⟩ := I.sl.at h0
  obtain ⟨p, v, e1, hr, pv, run⟩ := kw.run q
  subst e1
  obtain ⟨nO, hr⟩ := rd_hid.mp hr
  have nM : ¬ E.M p := fun z => nO (I.sl.mo p z)
  rcases hr with hp | ⟨od, hp⟩
  · refine .inl ⟨p, v, hp, pv.mut, fun od => ?_⟩
    have I1 := I.lock nO hp pv od
    refine run (σ := σ) (H1 := upd H p (.frz od v)) (od := od) eo upd_same nO ((Ew.lock od hp pv.mut).hid _) _ fun J W => ?_
    refine for_core I1 W w ho hg hd hb hk (fun s σ' H' ks I' => ?_) (fun b v' H' kb a1 a2 a3 => ?_)
    · obtain ⟨z1, z2⟩ := I.unlock nO hp pv ho I'
      exact ⟨z1, n s O0 H0 G σ' _ z2 k ks D q1 q2 q3 q4⟩
    · have z1 : H' p = some (.frz od v) := (of_hid (a1 p (.frz od v) (by rw [hid_out nM]; exact upd_same))).2
      refine ⟨z1, q2 b v' _ kb (fun a w e => ?_) (E.mono (fun a ha => upd_ne fun e => nM (by subst e; exact ha)) (ext_upd (frz_nx z1)) a2) (r.mono ((Ew.unlock z1).hid _) a3)⟩
      have h0' := (of_hid (I.h0 a w e)).2
      obtain ⟨na, e⟩ := of_hid e
      rw [hid_out na]
      by_cases c : a = p
      · subst c
        rw [hp] at h0'
        rw [upd_same]
        exact h0'
      · rw [upd_ne c]
        exact (of_hid (a1 a w (by rw [hid_out na, upd_ne c]; exact e))).2
  · refine .inr ?_
    refine run (σ := σ) (H1 := H) (od := od) eo hp nO (Ew.refl _) _ fun J W => ?_
    exact for_core I W w ho hg hd hb hk (fun s σ' H' ks I' => n s O0 H0 G σ' H' (I'.ghost (I.wk w ho).g) k ks D q1 q2 q3 q4) (fun b v' H' kb a1 a2 a3 => q2 b v' H' kb a1 a2 a3)
end
end Nz

/-! Nz11: programs of tests and blocks; rules with K told. -/
namespace Nz
open PySem L2 PySem.Spec PyProof.Rows
namespace Pg
variable {α β L M N S : Type}
def andG (c d : Pg Bool) : Pg Bool := ⟨fun k => c.wp fun a => if a = true then d.wp k else k false, fun h q => c.mono (fun a h' => by
  cases a with
  | true => rw [if_pos rfl] at h' ⊢; exact d.mono h h'
  | false => rw [if_neg Bool.false_ne_true] at h' ⊢; exact h _ h') q⟩
def orG (c d : Pg Bool) : Pg Bool := ⟨fun k => c.wp fun a => if a = true then k true else d.wp k, fun h q => c.mono (fun a h' => by
  cases a with
  | true => rw [if_pos rfl] at h' ⊢; exact h _ h'
  | false => rw [if_neg Bool.false_ne_true] at h' ⊢; exact d.mono h h') q⟩
def ifG (c : Pg Bool) (a b : Pg α) : Pg α := ⟨fun k => c.wp fun x => if x = true then a.wp k else b.wp k, fun h q => c.mono (fun x h' => by
  cases x with
  | true => rw [if_pos rfl] at h' ⊢; exact a.mono h h'
  | false => rw [if_neg Bool.false_ne_true] at h' ⊢; exact b.mono h h') q⟩
theorem seqK_mono {f : M → PT (Ctl β L N)} (mf : ∀ s (k k' : Ctl β L N → Prop), (∀ a, k a → k' a) → f s k → f s k') {k k' : Ctl β L N → Prop} (h : ∀ a, k a → k' a) : ∀ c, seqK f k c → seqK f k' c
  | .nx s, q => mf s k k' h q
  | .rt _, q => h _ q
  | .bk _, q => h _ q
  | .ct _, q => h _ q
def seqG (m : M → Pg (Ctl β L N)) (c : Ctl β L M) : Pg (Ctl β L N) := ⟨fun k => seqK (fun s => (m s).wp) k c, fun h q => seqK_mono (fun s _ _ h' => (m s).mono h') h c q⟩
def iteG (c : Pg Bool) (a b : Pg (Ctl β L M)) (m : M → Pg (Ctl β L N)) : Pg (Ctl β L N) := ⟨fun k => c.wp fun x => if x = true then a.wp (seqK (fun s => (m s).wp) k) else b.wp (seqK (fun s => (m s).wp) k), fun h q => c.mono (fun x h' => by
  cases x with
  | true => rw [if_pos rfl] at h' ⊢; exact a.mono (seqK_mono (fun s _ _ h2 => (m s).mono h2) h) h'
  | false => rw [if_neg Bool.false_ne_true] at h' ⊢; exact b.mono (seqK_mono (fun s _ _ h2 => (m s).mono h2) h) h') q⟩
def outG (m : Pg (Ctl β Empty Unit)) : Pg β := ⟨fun k => m.wp (outF k), fun h q => m.mono (fun c hc => by
  cases c with
  | rt b => exact h _ hc
  | nx _ => exact hc
  | bk l => exact nomatch l
  | ct l => exact nomatch l) q⟩
def outGU (m : Pg (Ctl Unit Empty Unit)) : Pg Unit := ⟨fun k => m.wp (outU k), fun h q => m.mono (fun c hc => by
  cases c with
  | rt b => exact h _ hc
  | nx _ => exact h _ hc
  | bk l => exact nomatch l
  | ct l => exact nomatch l) q⟩
theorem ext' {c d : Pg α} (h : ∀ k, c.wp k = d.wp k) : c = d := by
  obtain ⟨cw, cm⟩ := c
  obtain ⟨dw, dm⟩ := d
  have : cw = dw := funext h
  subst this
  rfl
@[simp] theorem pure_bnd (a : α) (f : α → Pg β) : (pure a : Pg α) >>= f = f a := rfl
@[simp] theorem andG_pure (a b : Bool) : andG (pure a) (pure b) = pure (a && b) := ext' fun k => by
  show (if a = true then k b else k false) = k (a && b)
  cases a <;> simp
@[simp] theorem orG_pure (a b : Bool) : orG (pure a) (pure b) = pure (a || b) := ext' fun k => by
  show (if a = true then k true else k b) = k (a || b)
  cases a <;> simp
@[simp] theorem ifG_pure (a : Bool) (x y : Pg α) : ifG (pure a) x y = if a = true then x else y := ext' fun k => by
  show (if a = true then x.wp k else y.wp k) = _
  cases a <;> simp
@[simp] theorem bnd_pure (c : Pg α) : (c >>= fun a => pure a) = c := rfl
theorem comp_pure (t : α → Bool) (f : α → β) (xs : List α) : comp xs (fun x => pure (t x)) (fun x => pure (f x)) = pure ((xs.filter t).map f) := ext' fun k => by
  show compT xs (fun x k => k (t x)) (fun x k => k (f x)) k = k ((xs.filter t).map f)
  induction xs generalizing k with
  | nil => rfl
  | cons x xs ih =>
    rw [compT_cons]
    cases h : t x with
    | true =>
      dsimp only
      rw [if_pos rfl, List.filter_cons, if_pos h, List.map_cons]
      exact ih fun ys => k (f x :: ys)
    | false =>
      dsimp only
      rw [if_neg Bool.false_ne_true, List.filter_cons, if_neg (by rw [h]; exact Bool.false_ne_true)]
      exact ih k
end Pg
section
variable {X : Cx} {a b e : Expr} {ta tb te : TE} {pos : Pos}
theorem op_inK (K : PySem.W.Frag) (h : X.K = K := by rfl) : OpR X (compareOp .In) (rIn K false) := h ▸ op_in_seq
theorem op_niK (K : PySem.W.Frag) (h : X.K = K := by rfl) : OpR X (compareOp .NotIn) (rIn K true) := h ▸ op_notIn_seq
theorem op_eqK (K : PySem.W.Frag) (hu : X.A.units + 64 < cLine) (h : X.K = K := by rfl) : OpR X (compareOp .Eq) (rEqD K) := h ▸ op_eqD hu
theorem op_neK (K : PySem.W.Frag) (hu : X.A.units + 64 < cLine) (h : X.K = K := by rfl) : OpR X (compareOp .NotEq) (rNeD K) := h ▸ op_neD hu
theorem ix_lK (K : PySem.W.Frag) (h : X.K = K := by rfl) : IxR X (rIxL K) := h ▸ ix_list
theorem ix_tK (K : PySem.W.Frag) (h : X.K = K := by rfl) : IxR X (rIxT K) := h ▸ ix_tup
theorem sl_tK (K : PySem.W.Frag) (h : X.K = K := by rfl) : L2.SlR X (rSlA K) := h ▸ sl_tupA
theorem sl_lK (K : PySem.W.Frag) (h : X.K = K := by rfl) : L2.SlR X (rSlL K) := h ▸ sl_list
theorem op_catK (K : PySem.W.Frag) (h : X.K = K := by rfl) : OpR X (binaryOp .Add) (rCatA K) := h ▸ op_catA
theorem cr_allK (K : PySem.W.Frag) (h : X.K = K := by rfl) (hc : X.calm = true := by rfl) : CallR X (.builtin "all") (rAll K) := h ▸ cr_all hc
theorem cr_anyK (K : PySem.W.Frag) (h : X.K = K := by rfl) (hc : X.calm = true := by rfl) : CallR X (.builtin "any") (rAny K) := h ▸ cr_any hc
theorem cr_sumK (K : PySem.W.Frag) (h : X.K = K := by rfl) (hc : X.calm = true := by rfl) : CallR X (.builtin "sum") (rSum K) := h ▸ cr_sum hc
theorem cr_maxK (K : PySem.W.Frag) (h : X.K = K := by rfl) (hc : X.calm = true := by rfl) : CallR X (.builtin "max") (rMax K) := h ▸ cr_max hc
theorem cr_minK (K : PySem.W.Frag) (h : X.K = K := by rfl) (hc : X.calm = true := by rfl) : CallR X (.builtin "min") (rMin K) := h ▸ cr_min hc
theorem cr_sortedK (K : PySem.W.Frag) (h : X.K = K := by rfl) : CallR X (.builtin "sorted") (rSortedI K) := h ▸ cr_sortedI
theorem cr_lenK (K : PySem.W.Frag) (h : X.K = K := by rfl) : CallR X (.builtin "len") (rLenS K) := h ▸ call_len_seq
theorem cr_listK (K : PySem.W.Frag) (h : X.K = K := by rfl) : CallR X (.type "list") (rListS K) := h ▸ call_list_of
theorem cr_tupK (K : PySem.W.Frag) (h : X.K = K := by rfl) : CallR X (.type "tuple") (rTupS K) := h ▸ call_tuple_of
theorem cr_setK (K : PySem.W.Frag) (w : World) (h : X.K = K := by rfl) (h2 : X.w = w := by rfl) (hc : X.calm = true := by rfl) : CallR X (.type "set") (rSetL K w) := h2 ▸ h ▸ cr_setL hc
theorem cr_sortSetK (w : World) (h2 : X.w = w := by rfl) (hc : X.calm = true := by rfl) : CallR X (.builtin "sorted") (rSortedSet w) := h2 ▸ cr_sortedSet hc
variable {tg l : Expr} {tl : TE}
theorem pi_lK (K : PySem.W.Frag) (hl : PE X l tl) (h : X.K = K := by rfl) : PI X tg l (iList K tl) := h ▸ pi_list hl
theorem pi_tK (K : PySem.W.Frag) (hl : PE X l tl) (h : X.K = K := by rfl) : PI X tg l (iTup K tl) := h ▸ pi_tup hl
variable {p tpos : Pos} {elts : List Expr} {kk : Nat} {t : TA} {e2 : Expr}
theorem pi_eLK (K : PySem.W.Frag) (hg : Gl X "enumerate") (hm : X.mg "enumerate" = none) (ha : PA X [e] t) (h : X.K = K := by rfl) (hs : starEach [e] X.env = [(false, eval e X.env)] := by rfl) : PI X (.Tuple elts kk tpos) (.Call (.Name "enumerate" p) [e] [] pos) (iEnum K t) := h ▸ pi_enum hg hm ha hs
theorem pi_eTK (K : PySem.W.Frag) (hg : Gl X "enumerate") (hm : X.mg "enumerate" = none) (ha : PA X [e] t) (h : X.K = K := by rfl) (hs : starEach [e] X.env = [(false, eval e X.env)] := by rfl) : PI X (.Tuple elts kk tpos) (.Call (.Name "enumerate" p) [e] [] pos) (iEnumT K t) := h ▸ pi_enumT hg hm ha hs
theorem pi_zK (K : PySem.W.Frag) (hg : Gl X "zip") (hm : X.mg "zip" = none) (ha : PA X [e, e2] t) (h : X.K = K := by rfl) (hs : starEach [e, e2] X.env = (false, eval e X.env) :: starEach [e2] X.env := by rfl) (hpl : (backTo pos (starEach [e2] X.env)).any (·.1) = false := by rfl) :
    PI X (.Tuple elts kk tpos) (.Call (.Name "zip" p) [e, e2] [] pos) (RZ.iZipA K t) := h ▸ RZ.pi_zipA hg hm ha hs hpl
theorem ps_lkA {i : Nat} {st : Stmt} {te : TE} (h : PS X st (tAsg te (gName i))) : PS X st (tAsg (tLk te) (gName i)) := ⟨(ps_lk h).run⟩
end
end Nz

/-! Nz12: glue of blocks, displays, defs by name. -/
namespace Nz
open PySem L2 PySem.Spec PyProof.Rows
section
variable {X : Cx} {a e : Expr} {ta te : TE}
theorem pt_truK (K : PySem.W.Frag) (ha : PE X a ta) (h : X.K = K := by rfl) (he : ∀ whole, isTrue a X.env whole = (do let v ← whole; standAt a.pos; holding [v] (truthy v)) := by intro _; rfl) :
    L2.PT X a (fun σ H Q => ta σ H fun x H' => ∃ k, TruV K x H' k ∧ Q k H') := h ▸ pt_truth ha he
theorem cr_sortedDI (hc : X.calm = true := by rfl) : CallR X (.builtin "sorted") rSortedDI := call_sortedDI hc
end
section
variable {K : PySem.W.Frag} {E : Eff} {α β κ L M N : Type} {tk te : TE} {sls : List (Sl K)} {own : List Nat} {r : R K β} {fN : N → List (Sl K)} {oN : List Nat} {fL : L → List (Sl K)} {oL : List Nat} {t u v : TS} {m : PT (Ctl β L N)} {rx : R K α}
theorem bj_seq (h : BJ E sls own (tSeq t (tSeq u v)) m r fN oN fL oL) : BJ E sls own (tSeq (tSeq t u) v) m r fN oN fL oL := h
theorem bj_seq0 (h : BJ E sls own v m r fN oN fL oL) : BJ E sls own (tSeq tNext v) m r fN oN fL oL := h
theorem bj_dead : BJ E sls own v (fun _ => False) r fN oN fL oL := fun O0 H0 G σ H I k hk D q1 q2 q3 q4 => hk.elim
/-- {k: v} -/
theorem ed_disp1 [DecidableEq κ] {e : Ky κ} {rk : R K κ} (Kr : KyR rk e) {ck : PT κ} {c : PT α} (hk : EV E sls tk rk ck) (h : EV E sls te rx c) : ED E sls (tDisp [(tk, te)]) e rx (fun k => ck fun a => c fun b => k [(a, b)]) := fun O σ H S k hk' Q q p np => by
  have nO : ¬ O p := S.nOn np
  have nM : ¬ E.M p := fun z => nO (S.mo _ z)
  have n0 := S.new (u := .dK []) np
  have S0 := S.withD np n0.1 ⟨_, upd_same, fun _ z => by cases z⟩
  have hp0 : upd H p (.dK []) p = some (.dK []) := upd_same
  refine hk _ σ _ S0 _ hk' _ fun a y H1 ka x1 hy => h _ σ H1 (S0.ext x1) _ ka _ fun b v H2 kb x2 hv => ?_
  have x02 := (n0.1.trans x1).trans x2
  refine ⟨x2.keep (x1.keep hp0 nM) nM, [(e.enc a, v)], by
    have : y = kV (e.enc a) := Kr.is hy
    rw [this]
    rfl, by simp, ?_⟩
  refine q [(a, b)] p [(e.enc a, v)] _ kb (x02.put np nM (fun φ z => by rw [x2.keep (x1.keep hp0 nM) nM] at z; cases z)) np upd_same (.cons ⟨rfl, ?_⟩ .nil) (by show 1 ≤ 100000; omega)
  rw [hid_put]
  exact hv
end
theorem pg_tupK (K : PySem.W.Frag) (n : Nat) {X : Cx} {es : List Expr} {kk : Nat} {pos : Pos} {t : TGs} (hc : X.calm = true) (h : PGs X es t) (hK : X.K = K := by rfl) (hn : (assignEach es X.env).length = n := by rfl) (hs : (assignEach es X.env).findIdx? (·.1) = none := by rfl) : PG X (.Tuple es kk pos) (gTup K n t) := by
  subst hK hn
  exact pg_tup hc h rfl hs
theorem pe_gc {X : Cx} {x : Str} {pos : Pos} {v : V} (hg : Gl X x) (h : ∃ u, X.mg x = some u ∧ RelV v u) (hd : (x == ("__debug__" : Str)) = false := by decide) : PE X (.Name x pos) (tC v) := by
  obtain ⟨u, hm, r⟩ := h
  exact pe_glob hg hm r hd
/-- a def of the module, by its name -/
structure DefK (K : PySem.W.Frag) (mg : Str → Option Value) (x : Str) (st : Stmt) (ps : List Str) : Prop where
  ex : ∃ f fd, L2.Fun K x x st f fd ∧ mg x = some (.ref f) ∧ Binds K fd ps []
/-- a def that may be called by its name -/
structure Cal (P : Program) (w : World) (K : PySem.W.Frag) (mg : Str → Option Value) (base : Heap) (k : Nat) (x : Str) (sp : Sp) (dvs : List V) : Prop where
  ex : ∃ (f : Addr) (fd : FuncData) (ps : List Str), FnOk P w K mg base CX0 k f fd ps sp ∧ mg x = some (.ref f) ∧ PySem.W.keepIn K (.ref f) = true ∧ Binds K fd ps [] ∧ dvs = []
theorem DefK.cal {P : Program} {w : World} {K : PySem.W.Frag} {mg : Str → Option Value} {base : Heap} {x : Str} {st : Stmt} {ps : List Str} {k : Nat} {sp : Sp} (D : DefK K mg x st ps) (h : ∀ f fd, L2.Fun K x x st f fd → FnOk P w K mg base CX0 k f fd ps sp) : Cal P w K mg base k x sp [] := by
  obtain ⟨f, fd, F, hm, b⟩ := D.ex
  exact ⟨f, fd, ps, h f fd F, hm, F.kp, b, rfl⟩
theorem pe_c {X : Cx} {k j : Nat} {x : Str} {sp : Sp} {p pos : Pos} {e : Expr} {es : List Expr} {t : TA} (c : Cal X.prog X.w X.K X.mg X.base k x sp []) (hr : Room j X.A) (hk : k ≤ j) (hg : Gl X x) (ha : PA X (e :: es) t)
    (hdb : (x == ("__debug__" : Str)) = false := by decide) (he : starEach (e :: es) X.env = (false, eval e X.env) :: starEach es X.env := by rfl) (hpl : (backTo pos (starEach es X.env)).any (·.1) = false := by rfl) :
    PE X (.Call (.Name x p) (e :: es) [] pos) (tCall sp [] E0 t) := by
  obtain ⟨f, fd, ps, F, hm, kp, b, _⟩ := c.ex
  exact pe_call F (hr.mono hk) hg hm kp b .nil pass0 ha hdb he hpl
end Nz

/-! Nz13: while True, left by break alone. -/
namespace Nz
open PySem L2 PySem.Spec PyProof.Rows
def whileB {β L S T : Type} : Nat → S → (S → PT (Ctl β T S)) → PT (Ctl β L T)
  | 0, _, _, _ => False
  | n + 1, s, f, k => f s fun c => match c with
    | .nx s' => whileB n s' f k
    | .ct _ => False
    | .bk b => k (.nx b)
    | .rt b => k (.rt b)
def whileBT {β L S T : Type} (s : S) (f : S → PT (Ctl β T S)) : PT (Ctl β L T) := fun k => ∃ n, whileB n s f k
theorem whileB_mono {β L S T : Type} {f : S → PT (Ctl β T S)} (mf : ∀ s (k k' : Ctl β T S → Prop), (∀ a, k a → k' a) → f s k → f s k') : ∀ (n : Nat) (s : S) (k k' : Ctl β L T → Prop), (∀ a, k a → k' a) → whileB n s f k → whileB n s f k'
  | 0, _, _, _, _, q => q
  | n + 1, s, k, k', h, q => mf s _ _ (fun c hc => by
    cases c with
    | nx s' => exact whileB_mono mf n s' k k' h hc
    | ct s' => exact hc
    | bk s' => exact h _ hc
    | rt b => exact h _ hc) q
def Pg.whileb {β L S T : Type} (s : S) (f : S → Pg (Ctl β T S)) : Pg (Ctl β L T) := ⟨whileBT s fun s => (f s).wp, fun h ⟨n, q⟩ => ⟨n, whileB_mono (fun s _ _ h' => (f s).mono h') n s _ _ h q⟩⟩
section
variable {K : PySem.W.Frag} {E : Eff} {β L N S T : Type} {sls : List (Sl K)} {own : List Nat} {r : R K β} {fN : N → List (Sl K)} {oN : List Nat} {fL : L → List (Sl K)} {oL : List Nat} {u : TS}
theorem bj_whileB {tt : TT} {tb : TS} {body : S → PT (Ctl β T S)} {m : T → PT (Ctl β L N)} {fS : S → List (Sl K)} {oS : List Nat} {fT : T → List (Sl K)} {oT : List Nat} {s0 : S} (w : Wks oS 0 sls (fS s0)) (ho : ∀ j ∈ oS, j ∈ own) (ht : ∀ s, ET E (fS s) tt (fun k => k true)) (hb : ∀ s, BJ E (fS s) oS tb (body s) r fS oS fT oT) (n : ∀ s, BJ E (fT s) oT u (m s) r fN oN fL oL) :
    BJ E sls own (tSeq (tWhile tt tb) u) (fun k => whileBT s0 body (seqK m k)) r fN oN fL oL := fun O0 H0 G σ H I k ⟨n0, hk⟩ D q1 q2 q3 q4 => by
  refine ⟨fun n σ H => ∃ s, SI E O0 H0 G (fS s) oS σ H ∧ whileB n s body (seqK m k), ⟨n0, s0, I.wk w ho, hk⟩, ?_⟩
  rintro n1 σ1 H1 ⟨s, I1, hk1⟩
  cases n1 with
  | zero => exact hk1.elim
  | succ n1 =>
    refine ht s _ σ1 H1 I1.sl (fun b => b = true ∧ whileB (n1 + 1) s body (seqK m k)) ⟨rfl, hk1⟩ _ fun b H2 kb x => ?_
    obtain ⟨rfl, kb⟩ := kb
    rw [if_pos rfl]
    refine ⟨fun σ' H' => ∃ s, SI E O0 H0 G (fS s) oS σ' H' ∧ whileB n1 s body (seqK m k), fun σ' H' hN => ⟨n1, Nat.lt_succ_self _, hN⟩, ?_⟩
    exact hb s O0 H0 G σ1 H2 (I1.ext x) _ kb _ (fun s' σ' H' ks I' => ⟨s', I', ks⟩) (fun b v H' kb' a1 a2 a3 => q2 b v H' kb' a1 a2 a3) (fun s' σ' H' ks I' => n s' O0 H0 G σ' H' I' k ks D q1 q2 q3 q4) (fun s' σ' H' ks I' => ks.elim)
end
end Nz

/-! Nz15: sorted(xs, key=lambda x: x[c]). -/
namespace Nz
open PySem L2 PySem.Spec PyProof.Rows LamX PySem.W
theorem lam_ix {prog : Program} {w : World} {A : Around} {E : Value → Shared → Prop} {s : Shared} {f c' t : Addr} {qual x : Str} {scope : Scope} {cl : List (Str × Addr)} {params : Arguments} {pm ctv v z : Value} {i : Int} {jj : Nat} {p1 p2 p3 : Pos} {its : List Value} {Q : Value → Shared → Prop}
    (hf : s.heap.get? f = some (PySem.W.kla_obj "<lambda>" qual params (.Subscript (.Name x p1) (.Constant (.int i) jj p2) p3) scope cl pm c' ctv)) (hcode : s.heap.CodeRec (.ref c') qual) (hroom : A.depth < recursionLimit) (hnl : s.heap.NoLimit)
    (hbind : bindArgs (PySem.W.kla_fn "<lambda>" qual params (.Subscript (.Name x p1) (.Constant (.int i) jj p2) p3) scope cl pm (.ref c') ctv) ⟨[v], []⟩ = pure [(x, v)])
    (hk : scope.kind = .function) (hco : scope.isCoroutine = false) (hgen : scope.isGenerator = false) (hcell : ∀ y ∈ scope.names, y.2 ≠ .cell) (hx : scope.names.lookup x = some .local) (hd : (x == ("__debug__" : Str)) = false)
    (ev : v = .ref t) (ht : IsTup s.heap t its.toArray) (hz : its.length ≤ 1000) (hi : its[i.toNat]? = some z) (h0 : 0 ≤ i)
    (h : ∀ h' tk, (∀ b o, s.heap.get? b = some o → h'.get? b = some o) → Q z { s with heap := h', toks := tk }) : wpAny (model prog w) A (call (.ref f) [v]) Q E s := by
  refine wpAny_call ?_
  refine PySem.W.kla_callFunE hroom hf rfl hco hgen rfl hcode ?_
  rw [hbind]
  have hl : ∀ y ∈ [(x, v)], scope.names.lookup y.1 = some .local := fun y hy => by
    simp at hy
    subst hy
    exact hx
  refine wpAny_pure (wpAny_newFunctionEnv hcell hl (fun h₁ hns hsb => ⟨hnl.fresh _ hsb, ?_⟩) hk)
  have kp : ∀ b o, s.heap.get? b = some o → h₁.get? b = some o := fun b o e => hsb.extBut b o (Nat.ne_of_lt (Heap.lt_size e)) (Heap.get?_push_of_some _ e)
  refine PySem.W.kla_codeExpr ?_
  refine Subscript_ (wpAny_Name (wpAny_loadName_local (env := newEnv scope s.heap.objs.size mainGlobals cl (qual ++ ".<locals>.") (some f) (.ref c') none builtinsNs) hk hx hns (v := v) (by simp [List.lookup]) ?_) hd)
  refine wpAny_Constant_int ?_
  subst ev
  have hlt : i.toNat < its.length := (List.getElem?_eq_some_iff.mp hi).1
  have ht1 : IsTup h₁ t its.toArray := ht.keeps kp
  have hsi : seqIndex? i its.toArray.size = some i.toNat := by
    unfold seqIndex?
    have : its.toArray.size = its.length := by simp
    rw [this]
    simp [h0, show ¬ i < 0 by omega, show i < (its.length : Int) by omega]
    try omega
  exact subscriptTail_builtinR (x := z) ht1.typeIs slot_tuple_getitem.lookup (getItem_tuple (items := its.toArray) (j := i.toNat) (Q := fun r s' => r = z ∧ wants Q E (.ok (.ret r)) s') ht1 (by omega) (by omega) hsi (by simpa using hi) ⟨rfl, h _ _ kp⟩)
section
variable {X : Cx} {pins : List (Addr × Obj)} {σ : L2.St} {H : Hp} {s : Shared}
theorem lam_make3 {T : List (Addr × Str)} {c P : Addr} {params : Arguments} {body : Expr} {scope : Scope} {pos : Pos} {E : Value → Shared → Prop} {Q : Value → Shared → Prop} (I : Inv X pins σ H s) (TB : TabB X.base X.mg c P) (hcode : X.env.code = .ref c)
    (hm : (P, X.env.qual ++ "<lambda>") ∈ T) (hu : ∀ p ∈ T, p.1 = P → p.2 = X.env.qual ++ "<lambda>") (hT : Tabs T H) (hdef : defaultsOf params X.env = ([], [])) (hfree : ∀ y ∈ scope.names, y.2 = .free → ∃ c, X.env.cells.lookup y.1 = some c)
    (h : ∀ (f c' : Addr) (pm ctv : Value) (H1 : Hp) (s' : Shared), Inv X pins σ H1 s' → ExtN H H1 → (∀ b o, b ≠ P → H b = some o → H1 b = some o) → Tabs T H1 →
      s'.heap.get? f = some (PySem.W.kla_obj "<lambda>" (X.env.qual ++ "<lambda>") params body scope (cloFrom X.env.cells scope.names []) pm c' ctv) → H1 f = none → f ∉ frs X.stack → H1 c' = some (CodeO c' (X.env.qual ++ "<lambda>")) → Q (.ref f) s') :
    wpAny (model X.prog X.w) X.A (eval (.Lambda params body scope pos) X.env) Q E s := by
  obtain ⟨ps, hP, ht, ha⟩ := hT _ hm
  refine PySem.W.kla_eval hdef ?_
  have bP : s.heap.BuiltinsAt X.mg P := TB.bm.keeps I.bk
  have hP' : s.heap.get? P = some { cls := .none, data := .fields ps } := I.hok P _ hP
  have nofr : ∀ f, s.heap.objs.size ≤ f → f ∉ frs X.stack := fun f hf z => by
    rcases List.mem_cons.mp (I.stkSub _ z) with e | e
    · have h1 := I.lt
      rw [← e] at h1
      exact Nat.lt_irrefl _ (Nat.lt_of_lt_of_le h1 hf)
    · exact I.nofs hf e
  cases hc : codeAmong pos ps.toList with
  | none =>
    refine PySem.W.kla_makeFunction (mg := X.mg) (c := c) (P := P) (ps := ps) (closure_ok hfree) I.ok.glob (I.mod.glob.keeps I.bk) hcode (TB.code.keeps I.bk) hP' ht hc TB.gP bP fun c' ctv h' tk hx hge hlt hrec htb => ?_
    obtain ⟨c2, oc, vs, t, e2, hoc, hd, hv⟩ := hrec
    cases e2
    have hsz : s.heap.objs.size ≤ h'.objs.size := Nat.le_trans hge (Nat.le_of_lt hlt)
    have nC : H c' = none := I.hok.fresh hge
    have I1 := inv_table (t' := tk) (more := #[rawInt pos.line, rawInt pos.col, .ref c']) (h' := h'.push (PySem.W.kla_obj "<lambda>" (X.env.qual ++ "<lambda>") params body scope (cloFrom X.env.cells scope.names []) ((X.mg "__name__").getD .none) c' ctv)) I hP
      (fun b o hb e => Heap.get?_push_of_some _ (hx b o hb e)) (Heap.get?_push_of_some _ htb) hge ⟨oc, vs, t, Heap.get?_push_of_some _ hoc, hd, hv⟩
    have hE : ExtN H (upd (upd H P (.tbl (ps ++ #[rawInt pos.line, rawInt pos.col, .ref c']))) c' (CodeO c' (X.env.qual ++ "<lambda>"))) := fun b o e n => by
      rw [upd_ne (ne_of_none e nC), upd_ne (fun z => n ps (Option.some.inj (e.symm.trans (by rw [z]; exact hP))))]
      exact e
    have eL : (ps ++ #[rawInt pos.line, rawInt pos.col, .ref c']).toList = ps.toList ++ [rawInt pos.line, rawInt pos.col, .ref c'] := by simp
    refine h h'.objs.size c' ((X.mg "__name__").getD .none) ctv _ _ I1 hE (fun b o hb e => by rw [upd_ne (ne_of_none e nC), upd_ne hb]; exact e) (fun p hp => ?_) (Heap.get?_push_size _ rfl) ?_ (nofr _ hsz) upd_same
    · by_cases hb : p.1 = P
      · rw [hu p hp hb, hb]
        refine ⟨_, by rw [upd_ne (ne_of_none hP nC), upd_same], by rw [eL]; exact PySem.TriplesOk_snoc _ _ _ _ ht, fun p' cv hcv => ?_⟩
        rw [eL] at hcv
        rcases among_app _ ht hcv with z | z
        · obtain ⟨c0, e1, e2⟩ := ha p' cv z
          exact ⟨c0, e1, hE _ _ e2 codeO_ne⟩
        · exact ⟨c', z, upd_same⟩
      · obtain ⟨ps', a1, a2, a3⟩ := hT p hp
        refine ⟨ps', by rw [upd_ne (ne_of_none a1 nC), upd_ne hb]; exact a1, a2, fun p' cv hcv => ?_⟩
        obtain ⟨c0, e1, e2⟩ := a3 p' cv hcv
        exact ⟨c0, e1, hE _ _ e2 codeO_ne⟩
    · have n1 : h'.objs.size ≠ c' := Nat.ne_of_gt hlt
      have n2 : h'.objs.size ≠ P := Nat.ne_of_gt (Nat.lt_of_lt_of_le (Heap.lt_size hP') hsz)
      rw [upd_ne n1, upd_ne n2]
      exact I.hok.fresh hsz
  | some cv =>
    obtain ⟨c', e, hco⟩ := ha pos cv hc
    subst e
    refine PySem.W.kla_makeFunctionHit (mg := X.mg) (c := c) (P := P) (ps := ps) (closure_ok hfree) I.ok.glob (I.mod.glob.keeps I.bk) hcode (TB.code.keeps I.bk) hP' ht hc bP fun ctv h' tk hx hsz => ?_
    have I1 : Inv X pins σ H { s with heap := h'.push (PySem.W.kla_obj "<lambda>" (X.env.qual ++ "<lambda>") params body scope (cloFrom X.env.cells scope.names []) ((X.mg "__name__").getD .none) c' ctv), toks := tk } := I.kept fun b o e => Heap.get?_push_of_some _ (hx b o e)
    exact h h'.objs.size c' ((X.mg "__name__").getD .none) ctv H _ I1 (ExtN.refl H) (fun b o _ e => e) hT (Heap.get?_push_size _ rfl) (I.hok.fresh hsz) (nofr _ hsz) hco
end

mutual
/-- data without lists and dicts -/
def ndL : PyData → Bool
  | .list _ => false
  | .dict _ => false
  | .tuple xs => ndLs xs
  | .none => true
  | .bool _ => true
  | .int _ => true
  | .str _ => true
def ndLs : List PyData → Bool
  | [] => true
  | d :: ds => ndL d && ndLs ds
end
mutual
theorem reads_ndL {h : Heap} : ∀ (d : PyData) (v : Value) (as : List Addr), Reads h v d as → ndL d = true → as = []
  | .none, _, _, r, _ => by cases r; rfl
  | .bool _, _, _, r, _ => by cases r; rfl
  | .int _, _, _, r, _ => by cases r; rfl
  | .str _, _, _, r, _ => by cases r; rfl
  | .list _, _, _, _, n => by simp [ndL] at n
  | .dict _, _, _, _, n => by simp [ndL] at n
  | .tuple ds, _, _, r, n => by
    cases r with
    | tuple _ _ _ h => exact readsAll_ndL ds _ _ h (by simpa [ndL] using n)
theorem readsAll_ndL {h : Heap} : ∀ (ds : List PyData) (vs : List Value) (as : List Addr), ReadsAll h vs ds as → ndLs ds = true → as = []
  | [], _, _, r, _ => by cases r; rfl
  | d :: ds, _, _, r, n => by
    cases r with
    | cons h1 h2 =>
      simp only [ndLs, Bool.and_eq_true] at n
      rw [reads_ndL d _ _ h1 n.1, readsAll_ndL ds _ _ h2 n.2]
      rfl
end
/-- an item whose i-th part is data d -/
def KeyAt (K : PySem.W.Frag) (H : Hp) (i : Int) (b : V × PyData) : Prop := ∃ t xs z, b.1 = .ref t ∧ SqT K H t xs ∧ xs.length ≤ 1000 ∧ xs[i.toNat]? = some z ∧ Dp K H z b.2
def sortLamR (K : PySem.W.Frag) (P : Addr) (q : Str) (i : Int) (Q : VK) (v : V) (H1 : Hp) : Prop := ∃ (l : Addr) (bs : List (V × PyData)), v = .ref l ∧ SqL K H1 l (bs.map (·.1)) ∧ (∀ b ∈ bs, KeyAt K H1 i b ∧ ndL b.2 = true ∧ b.2.depth ≤ 60) ∧ AllAlike (bs.map (·.2)) ∧ Sortable (bs.map (·.2)) ∧
  Tabs [(P, q)] H1 ∧ ∀ H2, (∀ b o, b ≠ P → H1 b = some o → H2 b = some o) → Tabs [(P, q)] H2 → ∀ p, H2 p = none → Q (.ref p) (upd H2 p (.lst ((bs.mergeSort (dataLe false (·.2))).map (·.1))))
def tSortLam (K : PySem.W.Frag) (P : Addr) (q : Str) (i : Int) (te : TE) : TE := fun σ H Q => te σ H (sortLamR K P q i Q)
/-- values that go with items -/
def KRel (K : PySem.W.Frag) (H : Hp) (i : Int) (u : Value) (b : V × PyData) : Prop := RelV b.1 u ∧ KeyAt K H i b
theorem each_of {K : PySem.W.Frag} {H : Hp} {i : Int} : ∀ {bs : List (V × PyData)} {us : List Value}, Vals (bs.map (·.1)) us → (∀ b ∈ bs, KeyAt K H i b) → EachIs (KRel K H i) us bs
  | [], _, r, _ => by cases r; exact .nil
  | b :: bs, _, r, h => by
    cases r with
    | cons h1 h2 => exact .cons ⟨h1, h b List.mem_cons_self⟩ (each_of h2 fun b hb => h b (List.mem_cons_of_mem _ hb))
theorem of_each {K : PySem.W.Frag} {H : Hp} {i : Int} : ∀ {us : List Value} {bs : List (V × PyData)}, EachIs (KRel K H i) us bs → Vals (bs.map (·.1)) us
  | _, _, .nil => .nil
  | _, _, .cons h t => .cons h.1 (of_each t)
/-- what stands but for a table -/
theorem rd_tab {P : Addr} {ps : Array Value} {H H2 : Hp} (hP : H P = some (.tbl ps)) (h : ∀ b o, b ≠ P → H b = some o → H2 b = some o) {a : Addr} {u : HO} (nu : ∀ ps, u ≠ .tbl ps) (r : Rd H a u) : Rd H2 a u := by
  rcases r with r | ⟨o, r⟩
  · exact .inl (h a _ (fun e => by rw [e, hP] at r; cases r; exact nu _ rfl) r)
  · exact .inr ⟨o, h a _ (fun e => by rw [e, hP] at r; cases r) r⟩
theorem sql_tab {K : PySem.W.Frag} {P : Addr} {ps : Array Value} {H H2 : Hp} (hP : H P = some (.tbl ps)) (h : ∀ b o, b ≠ P → H b = some o → H2 b = some o) {a : Addr} {xs : List V} (r : SqL K H a xs) : SqL K H2 a xs := r.elim (fun r => .inl (rd_tab hP h (fun _ z => by cases z) r)) .inr
theorem sqt_tab {K : PySem.W.Frag} {P : Addr} {ps : Array Value} {H H2 : Hp} (hP : H P = some (.tbl ps)) (h : ∀ b o, b ≠ P → H b = some o → H2 b = some o) {a : Addr} {xs : List V} (r : SqT K H a xs) : SqT K H2 a xs := r.elim (fun r => .inl (rd_tab hP h (fun _ z => by cases z) r)) .inr
mutual
theorem dp_tab {K : PySem.W.Frag} {P : Addr} {ps : Array Value} {H H2 : Hp} (hP : H P = some (.tbl ps)) (h' : ∀ b o, b ≠ P → H b = some o → H2 b = some o) : ∀ (d : PyData) (v : V), Dp K H v d → Dp K H2 v d
  | .none, _, h => by cases h; exact .non
  | .bool b, _, h => by cases h; exact .bl b
  | .int b, _, h => by cases h; exact .int b
  | .str b, _, h => by cases h; exact .str b
  | .list ds, _, h => by
    cases h with
    | lst hs ha => exact .lst (sql_tab hP h' hs) (dpAll_tab hP h' ds _ ha)
  | .tuple ds, _, h => by
    cases h with
    | tup hs ha => exact .tup (sqt_tab hP h' hs) (dpAll_tab hP h' ds _ ha)
  | .dict _, _, h => by cases h
theorem dpAll_tab {K : PySem.W.Frag} {P : Addr} {ps : Array Value} {H H2 : Hp} (hP : H P = some (.tbl ps)) (h' : ∀ b o, b ≠ P → H b = some o → H2 b = some o) : ∀ (ds : List PyData) (vs : List V), DpAll K H vs ds → DpAll K H2 vs ds
  | [], _, h => by cases h; exact .nil
  | d :: ds, _, h => by
    cases h with
    | cons h1 h2 => exact .cons (dp_tab hP h' d _ h1) (dpAll_tab hP h' ds _ h2)
end
/-- what a lambda x: x[i] must be seen to be -/
structure LamOk (sc scope : Scope) (params : Arguments) (y : Str) : Prop where
  kind : scope.kind = .function
  co : scope.isCoroutine = false
  gen : scope.isGenerator = false
  cell : ∀ z ∈ scope.names, z.2 ≠ .cell
  loc : scope.names.lookup y = some .local
  free : ∀ z ∈ scope.names, z.2 ≠ .free
  dbg : (y == ("__debug__" : Str)) = false
theorem pe_sortLam {X : Cx} {e : Expr} {te : TE} {P cc : Addr} {params : Arguments} {y : Str} {i : Int} {jj : Nat} {scope : Scope} {p pos lpos kpos p1 p2 p3 : Pos} (hc : X.calm = true) (hg : Gl X "sorted") (hm : X.mg "sorted" = none) (he : PE X e te) (TB : TabB X.base X.mg cc P) (hcode : X.env.code = .ref cc)
    (hdef : defaultsOf params X.env = ([], [])) (L : LamOk X.env.scope scope params y) (hr : Room 2 X.A) (hi : 0 ≤ i)
    (hb : ∀ (q : Str) (cl : List (Str × Addr)) (pm cv ctv v : Value), bindArgs (PySem.W.kla_fn "<lambda>" q params (.Subscript (.Name y p1) (.Constant (.int i) jj p2) p3) scope cl pm cv ctv) ⟨[v], []⟩ = pure [(y, v)])
    (na : starEach [e] X.env = (false, eval e X.env) :: starEach [] X.env := by rfl) (hs : backTo pos (starEach [e] X.env) = (false, eval e X.env) :: backTo pos (starEach [] X.env) := by rfl) (hpl : (backTo pos (starEach [e] X.env)).any (·.1) = false := by rfl)
    (hall : (backToKw pos (keywordEach [⟨some "key", .Lambda params (.Subscript (.Name y p1) (.Constant (.int i) jj p2) p3) scope lpos, kpos⟩] X.env)).all (·.1.isSome) = true := by rfl) (hnone : (backToKw pos (keywordEach [⟨some "key", .Lambda params (.Subscript (.Name y p1) (.Constant (.int i) jj p2) p3) scope lpos, kpos⟩] X.env)).any (·.1.isNone) = false := by rfl) (hks : (backToKw pos (keywordEach [⟨some "key", .Lambda params (.Subscript (.Name y p1) (.Constant (.int i) jj p2) p3) scope lpos, kpos⟩] X.env)).filterMap (·.1) = [Str.ofString "key"] := by rfl) :
    PE X (.Call (.Name "sorted" p) [e] [⟨some "key", .Lambda params (.Subscript (.Name y p1) (.Constant (.int i) jj p2) p3) scope lpos, kpos⟩] pos) (tSortLam X.K P (X.env.qual ++ "<lambda>") i te) := by
  refine ⟨fun pins s σ H Q I h => ?_⟩
  refine wpAny_Call_Name_kw (ld_blt I hg hm (by decide +kernel : bootBuiltins "sorted" = some (.builtin "sorted")) ?_ (by decide) (by decide))
  refine PyProof.Rows.callWith_kw (thn ((pa_cons he pa_nil na).run pos pins s σ H (fun vs H1 => match vs with | [v] => sortLamR X.K P (X.env.qual ++ "<lambda>") i Q v H1 | _ => False) I h) fun us s1 ⟨vs, H1, I1, r1, q1⟩ => ?_) hs hpl hall hnone
  match vs, r1, q1 with
  | [v], .cons rv .nil, q1 =>
    obtain ⟨l, bs, ev, hl, hbs, hal, hso, hT, q⟩ := q1
    subst ev
    cases rv
    rw [hks]
    show wpAny _ _ (evalAll ((do let v ← eval (.Lambda params (.Subscript (.Name y p1) (.Constant (.int i) jj p2) p3) scope lpos) X.env; standAt pos; pure v) :: (backToKw pos (keywordEach [] X.env)).map (·.2))) _ _ s1
    refine wpAny_evalAll_cons (wpAny_bind (lam_make3 (T := [(P, X.env.qual ++ "<lambda>")]) I1 TB hcode (by simp) (fun p hp _ => by simp at hp; rw [hp]) hT hdef (fun z hz e => absurd e (L.free z hz)) fun f c' pm ctv H2 s2 I2 hE hE2 hT2 hf hfn hff hco => wpAny_bind (wpAny_standAt (wpAny_pure ?_))))
    refine wpAny_evalAll_nil ?_
    show wpAny _ _ (call (.builtin "sorted") [.ref l] [(Str.ofString "key", .ref f)]) _ _ _
    obtain ⟨ps, hP, _, _⟩ := hT _ (List.mem_singleton.mpr rfl)
    have hP : H1 P = some (.tbl ps) := hP
    obtain ⟨its, rv, pl, hz⟩ := I2.list (sql_tab hP hE2 hl)
    have hka : ∀ b ∈ bs, KeyAt X.K H2 i b := fun b hb => by
      obtain ⟨⟨t, xs, z, e1, e2, e3, e4, e5⟩, _, _⟩ := hbs b hb
      exact ⟨t, xs, z, e1, sqt_tab hP hE2 e2, e3, e4, dp_tab hP hE2 _ _ e5⟩
    have hlen : bs.length = its.length := by
      have := rv.length
      rwa [List.length_map] at this
    refine sorted_key_data (β := V × PyData) (R := KRel X.K H2 i) (b := false) (vs := its) (bs := bs) (k := fun b => b.2) pl.isList (each_of rv hka) hal hso (by simpa using hz) (fun x hx => by have := (hbs x hx).2.2; have := hr.units; omega) (ksk_s1 _ _) (fun _ => ksk_l1 _ _) (fun _ => ksk_t1 _ _) (fun v x ⟨rvx, t, xs, z, e1, e2, e3, e4, e5⟩ hx h tk kp => ?_) (fun out c h' tk kp fresh hD hlo each => ?_)
    · obtain ⟨b1, b2⟩ := x
      have e1 : b1 = .ref t := e1
      subst e1
      obtain rfl : v = Value.ref t := rvx
      obtain ⟨its2, rv2, pt, _⟩ := I2.tuple e2
      obtain ⟨w', hw', rw'⟩ := rv2.get e4
      obtain ⟨⟨oc, cvs, ct, hoc, hdc, hvc⟩, _, _⟩ := I2.hok c' _ hco
      obtain ⟨as, rd⟩ := Dp.reads I2 _ _ _ e5 rw'
      have has := reads_ndL _ _ _ rd (hbs _ hx).2.1
      subst has
      refine lam_ix (t := t) (its := its2) (z := w') (kp f _ hf) ⟨c', oc, cvs, ct, rfl, kp _ _ hoc, hdc, hvc⟩ hr.depth (I2.mod.nolimit.keeps fun b o e => kp b o (I2.bk b o e)) (hb _ _ _ _ _ _) L.kind L.co L.gen L.cell L.loc L.dbg rfl (pt.keeps kp) (by rw [← rv2.length]; exact e3) hw' hi fun h'' tk'' kp2 => ?_
      exact ⟨h'', tk'', rfl, kp2, Reads.keeps (fun b o e => kp2 b o (kp b o e)) rd⟩
    · have hn : H2 (s2.heap.objs.size + 1) = none := I2.hok.fresh (Nat.le_succ _)
      have vs2 := of_each each
      refine ⟨.ref (s2.heap.objs.size + 1), _, I2.laid (o := .lst ((bs.mergeSort (dataLe false (·.2))).map (·.1))) (t' := tk) kp (Nat.le_succ _) ⟨?_, out, c, vs2, hD⟩, rfl, q H2 hE2 hT2 _ hn⟩
      rw [vs2.length, hlo]
      simpa using hz
end Nz

/-! Nz16: effects one within another; defs with an effect; sorted by a lambda; == of dicts that are equal. -/
namespace Nz
open PySem L2 PySem.Spec PyProof.Rows LamX PySem.W
variable {K : PySem.W.Frag} {E E' : Eff} {sls : List (Sl K)}
structure EffIn (E E' : Eff) : Prop where
  m : ∀ a, E.M a → E'.M a
  i : ∀ {H : Hp}, E'.I H → E.I H
  out : ∀ {H H2 : Hp}, E'.I H → XX E H H2 → E'.I H2
theorem EffIn.refl (E : Eff) : EffIn E E := ⟨fun _ h => h, fun h => h, fun _ x => x.2⟩
theorem EffIn.xx (S : EffIn E E') {H H2 : Hp} (i : E'.I H) (x : XX E H H2) : XX E' H H2 := ⟨by
  have := x.1.hid E'.M
  rwa [hid_hid H S.m, hid_hid H2 S.m] at this, S.out i x⟩
/-- a def with an effect -/
def spX {α β : Type} (E : Eff) (f : RF K α) (r : R K β) (m : α → PT β) : Sp := fun vs H Q _ => ∃ (O : Addr → Prop) (a : α) (k : β → Prop), (∀ x, O x → ∃ u, H x = some u ∧ NT u) ∧ (∀ x, E.M x → O x) ∧ E.I H ∧ f.rp (hid H O) vs a ∧ m a k ∧
  ∀ b v H2, k b → XX E H H2 → r.rp (hid H2 O) v b → Q v H2
def spTX {α β : Type} (EE : Addr → Addr → Eff) (f : RF K α) (r : R K β) (m : α → PT β) : Sp := fun vs H Q X0 => ∃ (pt c : Addr) (ws : List V), vs = .ref pt :: ws ∧ spX (EE pt c) f r m ws H Q X0
section
variable {α β : Type}
theorem spX_len {f : RF K α} {r : R K β} {m : α → PT β} {vs : List V} {H : Hp} {Q : VK} {X0 : XK} (h : spX E f r m vs H Q X0) : vs.length = f.n := let ⟨_, _, _, _, _, _, ha, _⟩ := h; f.len ha
theorem spTX_len {EE : Addr → Addr → Eff} {f : RF K α} {r : R K β} {m : α → PT β} {vs : List V} {H : Hp} {Q : VK} {X0 : XK} (h : spTX EE f r m vs H Q X0) : vs.length = f.n + 1 := by
  obtain ⟨_, _, ws, e, h⟩ := h
  rw [e, List.length_cons, spX_len h]
theorem ev_callX {f : RF K α} {s : R K β} {m : α → PT β} {t : TA} {X0 : XK} {ca : PT α} (S' : EffIn E E') (h : EA E' sls t f ca) : EV E' sls (tCall (spX E f s m) [] X0 t) s (fun k => ca fun a => m a k) := fun O σ H S k hk Q q =>
  h _ σ H S _ hk _ fun a vs H2 ka x hv => ⟨O, a, k, (S.ext x).od, fun y hy => S.mo y (S'.m y hy), S'.i x.2, by rw [List.append_nil]; exact hv, ka, fun b v H3 kb x3 hr => q b v H3 kb (x.trans (S'.xx x.2 x3)) hr⟩
theorem ev_callTX {EE : Addr → Addr → Eff} {pt c : Addr} {f : RF K α} {s : R K β} {m : α → PT β} {t : TA} {X0 : XK} {ca : PT α} {i : Nat} (S' : EffIn (EE pt c) E') (h0 : sls[i]? = some (slAt pt)) (h : EA E' sls t f ca) : EV E' sls (tCall (spTX EE f s m) [] X0 (tCons (tVar i) t)) s (fun k => ca fun a => m a k) := fun O σ H S k hk Q q => by
  obtain ⟨o, e, eo⟩ := S.at h0
  rw [show o = some (V.ref pt) from eo] at e
  exact ⟨_, e, h _ σ H S _ hk _ fun a vs H2 ka x hv => ⟨pt, c, vs, by rw [List.append_nil], O, a, k, (S.ext x).od, fun y hy => S.mo y (S'.m y hy), S'.i x.2, hv, ka, fun b v H3 kb x3 hr => q b v H3 kb (x.trans (S'.xx x.2 x3)) hr⟩⟩
/-- a def as a whole, with an effect -/
theorem fnX {f : RF K α} {r : R K β} {m : α → PT β} {g : α → List (Sl K)} (p : Prm f g) {N : List Str} {n : Nat} (hn : N.length - f.n = n) {t : TS} {mb : α → PT (Ctl β Empty Unit)} (hb : ∀ a, BJ E (g a ++ List.replicate n slAny) [] t (mb a) r (fun _ => (g a ++ List.replicate n slAny).map fun _ => slAny) [] noL [])
    (hm : ∀ a k, m a k → mb a (outF k)) {vs : List V} {H : Hp} {Q : VK} {X0 : XK} (h : spX E f r m vs H Q X0) : t { nx := fun _ H' => Q .non H', rt := Q } (L2.start N vs) H := by
  obtain ⟨O, a, k, hO, mo, hI, ha, hk, q⟩ := h
  exact hb a O H (hid H O) _ H (fn_start p hO mo hI ha hn) _ (hm a k hk) _ (fun _ _ _ z => z.elim) (fun b v H' kb e1 e2 e3 => q b v H' kb ⟨e1, e2⟩ e3) (fun l => nomatch l) (fun l => nomatch l)
theorem fnTX {EE : Addr → Addr → Eff} {f : RF K α} {r : R K β} {m : α → PT β} {g : α → List (Sl K)} (p : Prm f g) {N : List Str} {n : Nat} (hn : N.length - (f.n + 1) = n) {t : TS} {mb : α → PT (Ctl β Empty Unit)} (hb : ∀ pt c a, BJ (EE pt c) (slAt pt :: (g a ++ List.replicate n slAny)) [] t (mb a) r (fun _ => slAny :: (g a ++ List.replicate n slAny).map fun _ => slAny) [] noL [])
    (hm : ∀ a k, m a k → mb a (outF k)) {vs : List V} {H : Hp} {Q : VK} {X0 : XK} (h : spTX EE f r m vs H Q X0) : t { nx := fun _ H' => Q .non H', rt := Q } (L2.start N vs) H := by
  obtain ⟨pt, c, ws, e, O, a, k, hO, mo, hI, ha, hk, q⟩ := h
  subst e
  refine hb pt c a O H (hid H O) _ H ?_ _ (hm a k hk) _ (fun _ _ _ z => z.elim) (fun b v H' kb e1 e2 e3 => q b v H' kb ⟨e1, e2⟩ e3) (fun l => nomatch l) (fun l => nomatch l)
  refine ⟨?_, Ex.refl _, by rw [own_nil]; exact Ef.refl _, fun i h => (by simp at h), fun i h => (by simp at h), mo, fun j sl h hp => ?_⟩
  · rw [own_nil]
    refine ⟨?_, hO, mo, hI⟩
    unfold L2.start
    rw [List.length_cons, f.len ha, hn]
    exact .cons rfl (pair_app (p.sl ha) (paired_rep n))
  · cases j with
    | zero => simp at h; subst h; cases hp
    | succ j =>
      rw [rep_hp _ n (p.hp a) j sl (by simpa using h)] at hp
      cases hp
end
/-! ### a table of code objects -/
theorem tabs_one {P : Addr} {q : Str} {H : Hp} (h : Tabs [(P, q)] H) : ∃ ps : Array Value, H P = some (.tbl ps) := let ⟨ps, h, _⟩ := h _ (List.mem_singleton.mpr rfl); ⟨ps, h⟩
theorem tabs_mono {P : Addr} {q : Str} {H H2 : Hp} (h1 : H2 P = H P) (h2 : ∀ a φ, H a = some (.ext φ) → H2 a = some (.ext φ)) (h : Tabs [(P, q)] H) : Tabs [(P, q)] H2 := fun p hp => by
  obtain ⟨ps, a, b, c⟩ := h p hp
  have e : p = (P, q) := List.mem_singleton.mp hp
  subst e
  exact ⟨ps, h1.trans a, b, fun pos cv hc => let ⟨c0, e1, e2⟩ := c pos cv hc; ⟨c0, e1, h2 _ _ e2⟩⟩
def effL (P : Addr) (q : Str) : Eff := ⟨fun a => a = P, Tabs [(P, q)], fun h1 h2 h => tabs_mono (h1 P rfl) h2 h, fun h a e => by
  obtain ⟨ps, hp⟩ := tabs_one h
  subst e
  exact ⟨_, hp, fun _ z => nomatch z⟩⟩
/-- a tape and a table -/
def effQ (P : Addr) (q : Str) (pt c : Addr) : Eff := ⟨fun a => (a = pt ∨ a = c) ∨ a = P, fun H => TapeI pt c H ∧ Tabs [(P, q)] H, fun h1 h2 h => ⟨(effT pt c).mono (fun a ha => h1 a (.inl ha)) h2 h.1, tabs_mono (h1 P (.inr rfl)) h2 h.2⟩, fun h a e => e.elim (fun e => (effT pt c).there h.1 a e) fun e => (effL P q).there h.2 a e⟩
theorem tape_ne {P pt c : Addr} {q : Str} {H : Hp} (h : TapeI pt c H) (h2 : Tabs [(P, q)] H) : P ≠ pt ∧ P ≠ c := by
  obtain ⟨_, _, _, _, _, a, b, _⟩ := h
  obtain ⟨ps, hp⟩ := tabs_one h2
  constructor
  · intro e
    rw [e, a] at hp
    cases hp
  · intro e
    rw [e, b] at hp
    cases hp
theorem in_tape (P : Addr) (q : Str) (pt c : Addr) : EffIn (effT pt c) (effQ P q pt c) := ⟨fun a h => .inl h, fun h => h.1, fun {H H2} h x => ⟨x.2, by
  obtain ⟨n1, n2⟩ := tape_ne h.1 h.2
  obtain ⟨cells, _, _, _, _, a, b, _⟩ := h.1
  have nM : ¬ (effT pt c).M P := fun z => z.elim n1 n2
  obtain ⟨ps, hp⟩ := tabs_one h.2
  refine tabs_mono ?_ (fun d φ e => ?_) h.2
  · rw [hp, x.keep hp nM]
  · exact x.keep e fun z => by
      rcases z with z | z
      · rw [z, a] at e; cases e
      · rw [z, b] at e; cases e⟩⟩
theorem in_table (P : Addr) (q : Str) (pt c : Addr) : EffIn (effL P q) (effQ P q pt c) := ⟨fun a h => .inr h, fun h => h.2, fun {H H2} h x => ⟨by
  obtain ⟨n1, n2⟩ := tape_ne h.1 h.2
  obtain ⟨cells, at_, left, seed, salt, a, b, r⟩ := h.1
  exact ⟨cells, at_, left, seed, salt, x.keep a (fun z => n1 z.symm), x.keep b (fun z => n2 z.symm), r⟩, x.2⟩⟩
/-- an effect that knows the table -/
structure Knows (P : Addr) (q : Str) (E : Eff) : Prop where
  tab : ∀ {H : Hp}, E.I H → Tabs [(P, q)] H
  xx : ∀ {H H2 : Hp}, E.I H → (∀ b o, b ≠ P → H b = some o → H2 b = some o) → Tabs [(P, q)] H2 → XX E H H2
theorem knows_L (P : Addr) (q : Str) : Knows P q (effL P q) := ⟨fun h => h, fun {H H2} h k t => ⟨fun a o e => by
  obtain ⟨na, e⟩ := of_hid e
  rw [hid_out na]
  exact k a o na e, t⟩⟩
section
variable {α β : Type} {te ta tb : TE}
theorem zip_paired {F : V → α → Prop} : ∀ {vs : List V} {xs : List α}, Paired F vs xs → (∀ z ∈ vs.zip xs, F z.1 z.2) ∧ (vs.zip xs).map (·.1) = vs ∧ (vs.zip xs).map (·.2) = xs
  | _, _, .nil => ⟨fun z h => by simp at h, rfl, rfl⟩
  | _, _, .cons h t => by
    obtain ⟨a, b, c⟩ := zip_paired t
    refine ⟨fun z hz => ?_, by simp [b], by simp [c]⟩
    rw [List.zip_cons_cons] at hz
    rcases List.mem_cons.mp hz with e | hz
    · rw [e]; exact h
    · exact a z hz
theorem paired_zip {F : V → α → Prop} : ∀ (zs : List (V × α)), (∀ z ∈ zs, F z.1 z.2) → Paired F (zs.map (·.1)) (zs.map (·.2))
  | [], _ => .nil
  | z :: zs, h => .cons (h z List.mem_cons_self) (paired_zip zs fun y hy => h y (List.mem_cons_of_mem _ hy))
def keyLe (enc : β → PyData) (a b : α × β) : Bool := dataLe false enc a.2 b.2
theorem el_sortLam {P : Addr} {q : Str} (Kn : Knows P q E) {r1 : R K α} {r2 : R K β} (D : Da r2) {c : PT (List (α × β))} (h : ERl E sls te (rPr (fc r1 (f1 r2))) c) :
    EL E sls (tSortLam K P q 1 te) (rPr (fc r1 (f1 r2))) (fun k => c fun xs => (AllAlike (xs.map fun x => D.enc x.2) ∧ Sortable (xs.map fun x => D.enc x.2) ∧ ∀ x ∈ xs, ndL (D.enc x.2) = true ∧ (D.enc x.2).depth ≤ 60) ∧ k (xs.mergeSort (keyLe D.enc))) := fun O σ H S k hk Q qq =>
  h _ σ H S _ hk _ fun xs p vs H1 ka x hs hp hl => by
    obtain ⟨⟨ha, hso, hd⟩, kx⟩ := ka
    obtain ⟨z1, z2, z3⟩ := zip_paired hp
    have S1 := S.ext x
    refine ⟨p, (vs.zip xs).map fun z => (z.1, D.enc z.2.2), rfl, ?_, fun b hb => ?_, ?_, ?_, Kn.tab x.2, fun H2 k2 t2 l nl => ?_⟩
    · rw [List.map_map]
      show SqL K H1 p ((vs.zip xs).map (·.1))
      rw [z2]
      exact lun hs
    · obtain ⟨z, hz, e⟩ := List.mem_map.mp hb
      subst e
      obtain ⟨t, ws, ez, ht, v1, ws', ews, h1, v2, ews', h2⟩ := z1 z hz
      subst ews ews'
      have hx : z.2 ∈ xs := (List.of_mem_zip hz).2
      exact ⟨⟨t, [v1, v2], v2, ez, ht.of_hid.sq, by simp, rfl, dp_unhid _ _ (D.dp h2)⟩, (hd _ hx).1, (hd _ hx).2⟩
    · rw [List.map_map]
      have : ((vs.zip xs).map ((fun b : V × PyData => b.2) ∘ fun z => (z.1, D.enc z.2.2))) = xs.map fun x => D.enc x.2 := by
        rw [← z3, List.map_map, z3]; rfl
      rw [this]; exact ha
    · rw [List.map_map]
      have : ((vs.zip xs).map ((fun b : V × PyData => b.2) ∘ fun z => (z.1, D.enc z.2.2))) = xs.map fun x => D.enc x.2 := by
        rw [← z3, List.map_map, z3]; rfl
      rw [this]; exact hso
    · have x12 : XX E H1 H2 := Kn.xx x.2 k2 t2
      have S2 := S1.ext x12
      have e1 : (((vs.zip xs).map fun z => (z.1, D.enc z.2.2)).mergeSort (dataLe false (·.2))).map (·.1) = ((vs.zip xs).mergeSort (fun a b => keyLe D.enc a.2 b.2)).map (·.1) := by
        rw [← List.map_mergeSort (f := fun z : V × (α × β) => (z.1, D.enc z.2.2)) (r := fun a b => keyLe D.enc a.2 b.2) (fun a _ b _ => rfl), List.map_map]
        rfl
      have e2 : xs.mergeSort (keyLe D.enc) = ((vs.zip xs).mergeSort (fun a b => keyLe D.enc a.2 b.2)).map (·.2) := by
        rw [List.map_mergeSort (f := fun z : V × (α × β) => z.2) (r := fun a b => keyLe D.enc a.2 b.2) (s := keyLe D.enc) (fun a _ b _ => rfl), z3]
      rw [e1]
      rw [e2] at kx
      have n := S2.new (u := .lst (((vs.zip xs).mergeSort (fun a b => keyLe D.enc a.2 b.2)).map (·.1))) nl
      refine qq _ l _ _ kx ((x.trans x12).trans n.1) ((x.trans x12).back nl) upd_same ?_ ?_
      · rw [hid_new nl]
        exact paired_zip _ fun z hz => S1.rep x12 (z1 z ((List.mergeSort_perm _ _).mem_iff.mp hz))
      · rw [List.length_map, List.length_mergeSort, List.length_zip]
        exact Nat.le_trans (Nat.min_le_left _ _) hl
end
/-! ### dicts that are equal -/
def DatEq (K : PySem.W.Frag) (H : Hp) (x y : V) : Prop := ∃ d e, Dp K H x d ∧ Dp K H y e ∧ d.canLay0 = true ∧ e.canLay0 = true ∧ d.depth ≤ 60 ∧ PyData.eqv d e = true
def rEqDD (K : PySem.W.Frag) (ans : Bool) : R2 := fun x y H Q => ∃ (a b : Addr) (ks ls : List (Key × V)), x = .ref a ∧ y = .ref b ∧ Rd H a (.dK ks) ∧ Rd H b (.dK ls) ∧ ks.length = ls.length ∧ (∀ p ∈ ks, ∃ u, valV ls p.1 = some u ∧ DatEq K H p.2 u) ∧ Q (.bl ans) H
theorem dd_hits {X : Cx} {pins : List (Addr × Obj)} {σ : L2.St} {H : Hp} {s : Shared} (I : L2.Inv X pins σ H s) {A : Around} (hu : A.units + 62 < cLine) {ls : List (Key × V)} {vb : List (Key × Value)} (rb : KV ls vb) {ks : List (Key × V)} {va : List (Key × Value)} (ra : KV ks va) :
    (∀ p ∈ ks, ∃ u, valV ls p.1 = some u ∧ DatEq X.K H p.2 u) → PySem.W.KeqHits A s vb va true := by
  unfold KV at ra
  induction ra with
  | nil => intro _; exact .nil
  | @cons p q ps qs h t ih =>
    intro hp
    obtain ⟨h1, h2⟩ := h
    obtain ⟨u, e1, d, e, hd, he, ld, le, hdep, eq⟩ := hp p List.mem_cons_self
    have rr : RelO (some u) (valueAt vb p.1) := by rw [← e1]; exact rb.val p.1
    obtain ⟨y, hy, ry⟩ := rr.some_of
    obtain ⟨k, v⟩ := q
    have h1' : p.1 = k := h1
    rw [h1'] at hy
    obtain ⟨as, r1⟩ := Dp.reads I d _ _ hd h2
    obtain ⟨bs, r2⟩ := Dp.reads I e _ _ he ry
    have := SeqAt.eqAt_reads d e A s v y as bs r1 r2 ld le (by have := Nat.min_le_left d.depth e.depth; omega)
    rw [eq] at this
    show PySem.W.KeqHits A s vb ((k, v) :: qs) (true && true)
    exact .hit hy this (ih fun p' hm => hp p' (List.mem_cons_of_mem _ hm))
theorem op_eqDD {X : Cx} (hu : X.A.units + 64 < cLine) (K : PySem.W.Frag) (hK : X.K = K := by rfl) : OpR X (compareOp .Eq) (rEqDD K true) := by
  subst hK
  intro pins s σ H x y v u Q I rx ry h
  obtain ⟨a, b, ks, ls, rfl, rfl, ea, eb, hlen, hp, q⟩ := h
  obtain rfl : v = Value.ref a := rx
  obtain rfl : u = Value.ref b := ry
  obtain ⟨_, ya, va, ra, da⟩ := ea.ok I.hok
  obtain ⟨_, yb, vb, rb, db⟩ := eb.ok I.hok
  have hl : va.length = vb.length := by rw [← ra.length, ← rb.length]; exact hlen
  exact PySem.W.keq_eq (knd := mixKind X.prog X.w) (r := true) ya yb da db (by omega) (fun _ => dd_hits I (by show X.A.units + 1 + 62 < cLine; omega) rb ra hp) (fin_bl I q (by simp [hl]))
theorem op_neDD {X : Cx} (hu : X.A.units + 64 < cLine) (K : PySem.W.Frag) (hK : X.K = K := by rfl) : OpR X (compareOp .NotEq) (rEqDD K false) := by
  subst hK
  intro pins s σ H x y v u Q I rx ry h
  obtain ⟨a, b, ks, ls, rfl, rfl, ea, eb, hlen, hp, q⟩ := h
  obtain rfl : v = Value.ref a := rx
  obtain rfl : u = Value.ref b := ry
  obtain ⟨_, ya, va, ra, da⟩ := ea.ok I.hok
  obtain ⟨_, yb, vb, rb, db⟩ := eb.ok I.hok
  have hl : va.length = vb.length := by rw [← ra.length, ← rb.length]; exact hlen
  exact PySem.W.keq_ne (knd := mixKind X.prog X.w) (r := true) ya yb da db (by omega) (fun _ => dd_hits I (by show X.A.units + 1 + 62 < cLine; omega) rb ra hp) (fin_bl I q (by simp [hl]))
/-- the same pairs, in whatever order -/
def dEq {κ α : Type} [DecidableEq κ] (a b : List (κ × α)) : Prop := a.length = b.length ∧ ∀ p ∈ a, dget b p.1 = some p.2
section
variable {α κ : Type} {ta tb : TE} {r : R K α}
theorem paired_mem {A B : Type} {F : A → B → Prop} : ∀ {l₁ : List A} {l₂ : List B}, Paired F l₁ l₂ → ∀ a ∈ l₁, ∃ b ∈ l₂, F a b
  | _, _, .nil, a, h => by simp at h
  | _, _, .cons h t, a, ha => by
    rcases List.mem_cons.mp ha with e | ha
    · exact ⟨_, List.mem_cons_self, by rw [e]; exact h⟩
    · obtain ⟨b, hb, hf⟩ := paired_mem t a ha
      exact ⟨b, List.mem_cons_of_mem _ hb, hf⟩
theorem ev_DD [DecidableEq κ] {e : Ky κ} (D : Da r) {ans : Bool} {c d : PT (List (κ × α))} (h1 : ERd E sls ta e r c) (h2 : ERd E sls tb e r d) (hd : D.dep ≤ 60 := by exact of_decide_eq_true rfl) : EV E sls (tOp (rEqDD K ans) ta tb) rBl (fun k => c fun a => d fun b => dEq a b ∧ k ans) := fun O σ H S k hk Q q =>
  h1 _ σ H S _ hk _ fun a p vs H1 ka x1 hs1 hp1 hl1 => h2 _ σ H1 (S.ext x1) _ ka _ fun b p2 ws H2 kb x2 hs2 hp2 hl2 => by
    obtain ⟨⟨hlen, hall⟩, kb⟩ := kb
    have hp1' : Paired (DkRel e.enc r (hid H2 O)) vs a := pmap hp1 fun _ _ z => ⟨z.1, (S.ext x1).rep x2 z.2⟩
    refine ⟨p, p2, vs, ws, rfl, rfl, (rd_hid.mp (rdK x2.1.ew hs1)).2, (rd_hid.mp hs2).2, by rw [hp1.length, hp2.length]; exact hlen, fun kv hkv => ?_, q ans _ H2 kb (x1.trans x2) rfl⟩
    obtain ⟨ab, hab, e1, e2⟩ := paired_mem hp1' kv hkv
    have g := paired_dgetK (a := ab.1) hp2
    rw [hall ab hab] at g
    obtain ⟨u, hu, hr⟩ := g
    exact ⟨u, by rw [e1]; exact hu, D.enc ab.2, D.enc ab.2, dp_unhid _ _ (D.dp e2), dp_unhid _ _ (D.dp hr), D.lay _, D.lay _, Nat.le_trans (D.dle _) hd, (D.inj _ _).mpr rfl⟩
end
end Nz

/-! Nz17: a def with a lambda; an item taken out of a list and put behind another. -/
namespace Nz
open PySem L2 PySem.Spec PyProof.Rows LamX
/-- a def of the module whose code object is known -/
structure LDef (K : PySem.W.Frag) (mg : Str → Option Value) (x : Str) (st : Stmt) (ps : List Str) (cc : Addr) : Prop where
  ex : ∃ (f : Addr) (oc : Value) (od an : Option Addr) (kV doc pm ct : Value) (osl : Array (Option Value)), K.lookup f = some ⟨oc, od, .func (PySem.W.fnOf x x (defArgs st) (defBody st) (defScope st) .none kV doc pm an (.ref cc) ct), osl⟩ ∧ PySem.W.codeIn K (.ref cc) x = true ∧ mg x = some (.ref f) ∧ PySem.W.keepIn K (.ref f) = true ∧ Binds K (PySem.W.fnOf x x (defArgs st) (defBody st) (defScope st) .none kV doc pm an (.ref cc) ct) ps []
theorem LDef.cal {P : Program} {w : World} {K : PySem.W.Frag} {mg : Str → Option Value} {base : Heap} {x : Str} {st : Stmt} {N ps : List Str} {cc : Addr} {k : Nat} {sp : Sp} (D : LDef K mg x st ps cc) (S : FnScope N ps (defScope st)) (len : ∀ vs H Q E, sp vs H Q E → vs.length = ps.length)
    (hbody : ∀ (f : Addr) (A : Around) (outer : List Env) (s : Shared) (H : Hp) (vs : List V) (Q : VK) (E : XK), Room k (A.deeper (envOfC x (defScope st) s.heap.objs.size f (.ref cc))) → sp vs H Q E →
      ∃ t, PSs (cxOf CX0 P w K mg base N x (defScope st) f (.ref cc) A outer s H E).nox (defBody st) t ∧ t { nx := fun _ H' => Q .non H', rt := Q } (start N vs) H) : Cal P w K mg base (k + 1) x sp [] := by
  obtain ⟨f, oc, od, an, kV, doc, pm, ct, osl, lk, hcd, hm, kp, hb⟩ := D.ex
  refine ⟨f, _, ps, fn_of lk hcd S len fun A outer s H vs Q E hr hsp => ?_, hm, kp, hb, rfl⟩
  obtain ⟨t, h, q⟩ := hbody f A outer s H vs Q E hr hsp
  exact ⟨t, h.nox, q⟩
theorem pe_sortLamK {X : Cx} {e : Expr} {te : TE} {P cc : Addr} {params : Arguments} {y : Str} {i : Int} {jj : Nat} {scope : Scope} {p pos lpos kpos p1 p2 p3 : Pos} (K : PySem.W.Frag) (q : Str) (hc : X.calm = true) (hg : Gl X "sorted") (hm : X.mg "sorted" = none) (he : PE X e te) (TB : TabB X.base X.mg cc P) (hcode : X.env.code = .ref cc)
    (hdef : defaultsOf params X.env = ([], [])) (L : LamOk X.env.scope scope params y) (hr : Room 2 X.A) (hi : 0 ≤ i)
    (hb : ∀ (q : Str) (cl : List (Str × Addr)) (pm cv ctv v : Value), bindArgs (PySem.W.kla_fn "<lambda>" q params (.Subscript (.Name y p1) (.Constant (.int i) jj p2) p3) scope cl pm cv ctv) ⟨[v], []⟩ = pure [(y, v)])
    (hq : X.env.qual ++ "<lambda>" = q) (hK : X.K = K := by rfl)
    (na : starEach [e] X.env = (false, eval e X.env) :: starEach [] X.env := by rfl) (hs : backTo pos (starEach [e] X.env) = (false, eval e X.env) :: backTo pos (starEach [] X.env) := by rfl) (hpl : (backTo pos (starEach [e] X.env)).any (·.1) = false := by rfl)
    (hall : (backToKw pos (keywordEach [⟨some "key", .Lambda params (.Subscript (.Name y p1) (.Constant (.int i) jj p2) p3) scope lpos, kpos⟩] X.env)).all (·.1.isSome) = true := by rfl) (hnone : (backToKw pos (keywordEach [⟨some "key", .Lambda params (.Subscript (.Name y p1) (.Constant (.int i) jj p2) p3) scope lpos, kpos⟩] X.env)).any (·.1.isNone) = false := by rfl) (hks : (backToKw pos (keywordEach [⟨some "key", .Lambda params (.Subscript (.Name y p1) (.Constant (.int i) jj p2) p3) scope lpos, kpos⟩] X.env)).filterMap (·.1) = [Str.ofString "key"] := by rfl) :
    PE X (.Call (.Name "sorted" p) [e] [⟨some "key", .Lambda params (.Subscript (.Name y p1) (.Constant (.int i) jj p2) p3) scope lpos, kpos⟩] pos) (tSortLam K P q i te) := hK ▸ hq ▸ pe_sortLam hc hg hm he TB hcode hdef L hr hi hb na hs hpl hall hnone hks
section
variable {K : PySem.W.Frag} {E : Eff} {α β L N : Type} {te : TE} {rx : R K α} {sls : List (Sl K)} {own : List Nat} {r : R K β} {fN : N → List (Sl K)} {oN : List Nat} {fL : L → List (Sl K)} {oL : List Nat} {u : TS}
theorem paired_erase {F : V → α → Prop} : ∀ {vs : List V} {xs : List α} (i : Nat), Paired F vs xs → Paired F (vs.eraseIdx i) (xs.eraseIdx i)
  | _, _, _, .nil => .nil
  | _, _, 0, .cons _ t => t
  | _, _, i + 1, .cons h t => .cons h (paired_erase i t)
/-- names.append(left.pop(e)) -/
theorem bj_appPop {i j : Nat} {xs ys : List α} {c : PT Int} {m : List α → List α → PT (Ctl β L N)} (hi : i ∈ own) (hj : j ∈ own) (hij : i ≠ j) (h0 : sls[i]? = some (slL rx xs)) (h1 : sls[j]? = some (slL rx ys)) (h : EV E sls te rInt c) (n : ∀ xs ys, BJ E ((sls.set j (slL rx ys)).set i (slL rx xs)) own u (m xs ys) r fN oN fL oL) :
    BJ E sls own (tSeq (tDrop (tBM K "list" rAppend (tVar i) (tCons (tBM K "list" rPopAt (tVar j) (tCons te tNil)) tNil))) u) (fun k => c fun e => (0 ≤ e ∧ e ≤ 100000 ∧ xs.length < big) ∧ ∃ a, ys[e.toNat]? = some a ∧ m (xs ++ [a]) (ys.eraseIdx e.toNat) k) r fN oN fL oL := fun O0 H0 G σ H I k hk D q1 q2 q3 q4 => by
  obtain ⟨p, vs, e1, nM, hp, hv, hl⟩ := I.atL hi h0
  obtain ⟨p2, ws, e2, nM2, hp2, hw, hl2⟩ := I.atL hj h1
  have ne : p ≠ p2 := fun z => hij (I.ap i hi j hj (by rw [e1, e2, z]))
  refine ⟨_, e1, .inl ⟨rfl, vs, .inl (.inl hp)⟩, _, e2, .inl ⟨rfl, ws, .inl (.inl hp2)⟩, h _ σ H I.sl _ hk _ fun e v H2 ka x hv2 => ?_⟩
  obtain ⟨⟨b0, b1, b2⟩, a, ea, kb⟩ := ka
  have I2 := I.ext x
  have hpx := x.keep hp nM
  have hp2x := x.keep hp2 nM2
  have hv' := pmap hv fun _ _ z => I.sl.rep x z
  have hw' := pmap hw fun _ _ z => I.sl.rep x z
  obtain ⟨y, ey, hy⟩ := paired_get' hw' ea
  have lt := (List.getElem?_eq_some_iff.mp ey).1
  have hsi : seqIndex? e ws.length = some e.toNat := by
    unfold seqIndex?
    simp [b0, show ¬ e < 0 by omega, show e < (ws.length : Int) by omega]
  have I3 := I2.putL hj e2 nM2 (paired_erase e.toNat hw') (by
    have := hw'.length
    have h5 := (paired_erase e.toNat hw').length
    have h6 := List.length_eraseIdx_le ws e.toNat
    omega)
  have hp3 : upd H2 p2 (.lst (ws.eraseIdx e.toNat)) p = some (.lst vs) := by rw [upd_ne ne]; exact hpx
  have hh := own_hid (w := .lst (ws.eraseIdx e.toNat)) I2 hj e2
  refine ⟨p2, ws, e, e.toNat, y, rfl, by rw [show v = V.int e from hv2], hp2x, by omega, by omega, hsi, ?_⟩
  refine ⟨ey, p, vs, y, rfl, rfl, hp3, lt_line (by rw [hv.length]; exact b2), n _ _ O0 H0 G σ _ (I3.putL hi e1 nM ?_ (by rw [List.length_append]; exact b2)) k kb D q1 q2 q3 q4⟩
  rw [hh]
  exact paired_app hv' (.cons hy .nil)
end
end Nz

/-! Nz18: loops over items of two kinds. -/
namespace Nz
open PySem L2
variable {K : PySem.W.Frag} {E : Eff} {sls : List (Sl K)}
section
variable {α β γ L N : Type} {te : TE} {rx : R K α} {ry : R K β}
def rSum (rx : R K α) (ry : R K β) : R K (α ⊕ β) := ⟨fun H v z => match z with | .inl a => rx.rp H v a | .inr b => ry.rp H v b, fun {H H' v z} e h => by
  cases z with
  | inl a => exact rx.mono e h
  | inr b => exact ry.mono e h⟩
theorem ev_inl {c : PT α} (h : EV E sls te rx c) : EV E sls te (rSum rx ry) (fun k => c fun a => k (.inl a)) := fun O σ H S k hk Q q => h _ σ H S _ hk Q fun a v H2 ka x hv => q (.inl a) v H2 ka x hv
theorem ev_inr {c : PT β} (h : EV E sls te ry c) : EV E sls te (rSum rx ry) (fun k => c fun a => k (.inr a)) := fun O σ H S k hk Q q => h _ σ H S _ hk Q fun a v H2 ka x hv => q (.inr a) v H2 ka x hv
theorem gt_sum {g : TG} {js : List Nat} {h1 : α → List (Sl K)} {h2 : β → List (Sl K)} (a : GT E sls g rx js h1) (b : GT E sls g ry js h2) : GT E sls g (rSum rx ry) js (Sum.elim h1 h2) := fun O σ H z v S hv Q q => by
  cases z with
  | inl x => exact a _ σ H x v S hv Q q
  | inr x => exact b _ σ H x v S hv Q q
def elimT {T : Type} (m1 : α → PT T) (m2 : β → PT T) (z : α ⊕ β) : PT T := fun k => match z with | .inl a => m1 a k | .inr b => m2 b k
def Pg.elimG {T : Type} (m1 : α → Pg T) (m2 : β → Pg T) (z : α ⊕ β) : Pg T := ⟨elimT (fun a => (m1 a).wp) (fun b => (m2 b).wp) z, fun h q => by
  cases z with
  | inl a => exact (m1 a).mono h q
  | inr b => exact (m2 b).mono h q⟩
variable {own : List Nat} {r : R K γ} {fN : N → List (Sl K)} {oN : List Nat} {fL : L → List (Sl K)} {oL : List Nat} {t : TS}
theorem bj_sum {h1 : α → List (Sl K)} {h2 : β → List (Sl K)} {m1 : α → PT (Ctl γ L N)} {m2 : β → PT (Ctl γ L N)} (a : ∀ x, BJ E (h1 x) own t (m1 x) r fN oN fL oL) (b : ∀ x, BJ E (h2 x) own t (m2 x) r fN oN fL oL) (z : α ⊕ β) : BJ E (Sum.elim h1 h2 z) own t (elimT m1 m2 z) r fN oN fL oL := by
  cases z with
  | inl x => exact a x
  | inr x => exact b x
end
end Nz

/-! Nz19: a number drawn from the tape. -/
namespace Nz
open PySem L2
variable {K : PySem.W.Frag}
structure Tp (pt c : Addr) (cells : List Int) (a l s t : Int) (H : Hp) : Prop where
  d : H pt = some (.dK (tapeKvs c a l s t))
  cs : H c = some (.lst (cells.map V.int))
def effE (pt c : Addr) (cells : List Int) (a l s t : Int) : Eff := ⟨fun x => x = pt ∨ x = c, Tp pt c cells a l s t, fun h _ ⟨h1, h2⟩ => ⟨by rw [h pt (.inl rfl)]; exact h1, by rw [h c (.inr rfl)]; exact h2⟩, fun ⟨h1, h2⟩ x hx => by
  rcases hx with rfl | rfl
  · exact ⟨_, h1, fun _ z => nomatch z⟩
  · exact ⟨_, h2, fun _ z => nomatch z⟩⟩
section
variable {pt c : Addr} {cells : List Int} {a l s t : Int} {sls : List (Sl K)} {O : Addr → Prop} {σ : L2.St} {H : Hp}
theorem ev_tp {key : Str} {x : Int} (h0 : sls[0]? = some (slAt pt)) (h : ∀ c, valV (tapeKvs c a l s t) (.inr key) = some (.int x)) : EV (effE pt c cells a l s t) sls (tDGet (tVar 0) (tC (.str key))) rInt (fun k => k x) := fun O σ H S k hk Q q => by
  obtain ⟨o, e, eo⟩ := S.at h0
  rw [show o = some (V.ref pt) from eo] at e
  exact ⟨_, e, pt, _, rfl, .inl ⟨_, .inr key, .inl S.inv.d, rfl, (h c).symm⟩, q x _ H hk (XX.refl S) rfl⟩
theorem val_cells : valV (tapeKvs c a l s t) (.inr "cells") = some (.ref c) := rfl
theorem ev_tpLen (h0 : sls[0]? = some (slAt pt)) : EV (effE pt c cells a l s t) sls (tCB (rLenS K) (tCons (tDGet (tVar 0) (tC (.str "cells"))) tNil)) rInt (fun k => k (cells.length : Int)) := fun O σ H S k hk Q q => by
  obtain ⟨o, e, eo⟩ := S.at h0
  rw [show o = some (V.ref pt) from eo] at e
  refine ⟨_, e, pt, _, rfl, .inl ⟨_, .inr "cells", .inl S.inv.d, rfl, val_cells.symm⟩, c, cells.map V.int, rfl, .inl (.inl (.inl S.inv.cs)), q _ _ H hk (XX.refl S) ?_⟩
  show V.int _ = V.int _
  rw [List.length_map]
theorem ev_tpIx {te : TE} {d : PT Int} (h0 : sls[0]? = some (slAt pt)) (h : EV (effE pt c cells a l s t) sls te rInt d) : EV (effE pt c cells a l s t) sls (tOp (rIxL K) (tDGet (tVar 0) (tC (.str "cells"))) te) rInt (fun k => d fun i => ∃ x, atI cells i = some x ∧ k x) := fun O σ H S k hk Q q => by
  obtain ⟨o, e, eo⟩ := S.at h0
  rw [show o = some (V.ref pt) from eo] at e
  refine ⟨_, e, pt, _, rfl, .inl ⟨_, .inr "cells", .inl S.inv.d, rfl, val_cells.symm⟩, h _ σ H S _ hk _ fun i y H1 ⟨x, ex, kx⟩ x1 hy => ?_⟩
  obtain ⟨v, ev, hv⟩ := paired_atI (F := (rInt (K := K)).rp H1) (of_ints cells) ex
  exact ⟨c, cells.map V.int, i, v, rfl, hy, .inl (.inl x1.2.cs), ev, q x v H1 kx x1 hv⟩
theorem tp_put {a' l' s' t' : Int} (S : SL O (effE pt c cells a l s t) sls σ H) (ne : pt ≠ c) : SL O (effE pt c cells a' l' s' t') sls σ (upd H pt (.dK (tapeKvs c a' l' s' t'))) := by
  have op : O pt := S.mo pt (.inl rfl)
  have e1 : hid (upd H pt (.dK (tapeKvs c a' l' s' t'))) O = hid H O := funext fun x => by
    by_cases q : O x
    · rw [hid_in q, hid_in q]
    · rw [hid_out q, hid_out q, upd_ne fun z => q (by rw [z]; exact op)]
  have e2 : hid (upd H pt (.dK (tapeKvs c a' l' s' t'))) (effE pt c cells a' l' s' t').M = hid H (effE pt c cells a l s t).M := funext fun x => by
    by_cases q : (effE pt c cells a l s t).M x
    · rw [hid_in q, hid_in (show (effE pt c cells a' l' s' t').M x from q)]
    · rw [hid_out q, hid_out (show ¬ (effE pt c cells a' l' s' t').M x from q), upd_ne fun z => q (.inl z)]
  refine ⟨by rw [e1, e2]; exact S.sl, fun x hx => ?_, S.mo, ⟨upd_same, by rw [upd_ne (Ne.symm ne)]; exact S.inv.cs⟩⟩
  by_cases q : x = pt
  · subst q
    exact ⟨_, upd_same, fun _ z => nomatch z⟩
  · obtain ⟨u, hu, nt⟩ := S.od x hx
    exact ⟨u, by rw [upd_ne q]; exact hu, nt⟩
theorem tp_ex {u : HO} : Ex (hid H (effT pt c).M) (hid (upd H pt u) (effT pt c).M) := fun x w e => by
  obtain ⟨n, e⟩ := of_hid e
  rw [hid_out n, upd_ne fun z => n (.inl z)]
  exact e
/-- a field of the tape is written -/
theorem tp_store {te : TE} {key : Str} {d : PT Int} {k : Int → Prop} {D : Ends} {a' l' s' t' : Int → Int} (h0 : sls[0]? = some (slAt pt)) (S : SL O (effE pt c cells a l s t) sls σ H) (ne : pt ≠ c) (h : EV (effE pt c cells a l s t) sls te rInt d) (hk : d k)
    (hp : ∀ x, putK (tapeKvs c a l s t) (.inr key) (.int x) = tapeKvs c (a' x) (l' x) (s' x) (t' x))
    (n : ∀ x H1, k x → XX (effE pt c cells a l s t) H H1 → SL O (effE pt c cells (a' x) (l' x) (s' x) (t' x)) sls σ (upd H1 pt (.dK (tapeKvs c (a' x) (l' x) (s' x) (t' x)))) → D.nx σ (upd H1 pt (.dK (tapeKvs c (a' x) (l' x) (s' x) (t' x))))) : sDPut (tVar 0) (tC (.str key)) te D σ H :=
  h _ σ H S k hk _ fun x v H1 kx x1 hv => by
    obtain ⟨o, e, eo⟩ := S.at h0
    rw [show o = some (V.ref pt) from eo] at e
    refine ⟨_, e, pt, _, rfl, .inl ⟨_, .inr key, x1.2.d, rfl, by show 5 < sizeLine; decide, rfl⟩, ?_⟩
    rw [show v = V.int x from hv, hp x]
    exact n x H1 kx x1 (tp_put (S.ext x1) ne)
end
def tF (key : Str) : TE := tDGet (tVar 0) (tC (.str key))
def rIntC : List V → Hp → VK → Prop := fun xs H Q => (∃ i, xs = [.int i] ∧ Q (.int i) H) ∨ ∃ k, xs = [.bl k] ∧ Q (.int (if k then 1 else 0)) H
def tInt (te : TE) : TE := tCB rIntC (tCons te tNil)
abbrev oAdd (x y : TE) : TE := tOp (rI0 fun i j => .int (i + j)) x y
abbrev oMul (x y : TE) : TE := tOp (rI CMul fun i j => .int (i * j)) x y
abbrev oMod (x y : TE) : TE := tOp (rI (fun _ j => 0 < j) fun i j => .int (i % j)) x y
abbrev oDiv (x y : TE) : TE := tOp (rI CDiv fun i j => .int (i / j)) x y
/-- the def's text as it reads -/
def tTake2 : TS := tSeq (tIfS (tTest (tOp (rI0 fun i j => .bl (decide (j < i))) (tF "left") (tC (.int 0))))
    (tSeq (tAsg (oMod (tInt (tF "left")) (tVar 1)) (gName 2)) (tSeq (sDPut (tVar 0) (tC (.str "left")) (oDiv (tF "left") (tVar 1))) (tSeq (tRet (tVar 2)) tNext))) tNext)
  (tSeq (sDPut (tVar 0) (tC (.str "salt")) (oAdd (tF "salt") (tC (.int 1))))
  (tSeq (tAsg (oMod (tInt (oAdd (oMul (tF "seed") (tC (.int 48271))) (oMul (tF "salt") (tC (.int 69621))))) (tC (.int 2147483647))) (gName 3))
  (tSeq (tAsg (oMod (tInt (oAdd (oAdd (oMul (tVar 3) (tVar 3)) (oMul (tF "salt") (tC (.int 40692)))) (tC (.int 12345)))) (tC (.int 2147483399))) (gName 3))
  (tSeq (tRet (oMod (tInt (tVar 3)) (tVar 1))) tNext))))
def tTake (K : PySem.W.Frag) : TS := tSeq (tIfS (tAnd (tTest (tOp rEq (tF "left") (tC (.int 0)))) (tTest (tOp (rI0 fun i j => .bl (decide (i < j))) (tF "at") (tCB (rLenS K) (tCons (tF "cells") tNil)))))
    (tSeq (sDPut (tVar 0) (tC (.str "left")) (tOp (rIxL K) (tF "cells") (tF "at"))) (tSeq (sDPut (tVar 0) (tC (.str "at")) (oAdd (tF "at") (tC (.int 1)))) tNext)) tNext) tTake2
theorem ev_int' {E : Eff} {sls : List (Sl K)} {te : TE} {c : PT Int} (h : EV E sls te rInt c) : EV E sls (tInt te) rInt c := ev_intI h
section
variable {pt c : Addr} {cells : List Int} {O : Addr → Prop} {H H0 : Hp} {many : Int}
theorem cmul_r {i j : Int} (h : -1000000 ≤ j ∧ j ≤ 1000000) : CMul i j := .inr (by omega)
theorem ofS (S : SL O (effE pt c cells a l s t) (sls : List (Sl K)) σ H) (hc : ∀ x ∈ cells, 0 ≤ x) (h63 : cells.length ≤ 63) (ha : 0 ≤ a ∧ a ≤ cells.length) (hl : 0 ≤ l) (ht : 0 ≤ t) : TapeI pt c H := ⟨cells, a, l, s, t, S.inv.d, S.inv.cs, hc, h63, ha.1, ha.2, hl, ht⟩
theorem take2_walk {a l s t : Int} {σ : L2.St} (ne : pt ≠ c) (hc : ∀ x ∈ cells, 0 ≤ x) (h63 : cells.length ≤ 63) (ha : 0 ≤ a ∧ a ≤ cells.length) (hl : 0 ≤ l) (ht : 0 ≤ t) (n0 : 0 < many) (n1 : many < 1073741824) (S : SL (K := K) O (effE pt c cells a l s t) [slAt pt, slV rInt many, slAny, slAny] σ H) (x0 : Ex (hid H0 (effT pt c).M) (hid H (effT pt c).M)) {D : Ends}
    (q : ∀ d H', 0 ≤ d → d < many → XX (effT pt c) H0 H' → D.rt (.int d) H') : tTake2 D σ H := by
  unfold tTake2
  refine et_T (ev_B0 (g := fun i j => decide (j < i)) (ev_tp (key := "left") (x := l) rfl fun _ => rfl) (ev_int (i := 0))) _ σ H S (fun b => b = decide (0 < l)) rfl _ fun b H1 eb x1 => ?_
  have S1 := S.ext x1
  have xx1 : Ex (hid H0 (effT pt c).M) (hid H1 (effT pt c).M) := x0.trans x1.1
  cases b with
  | true =>
    rw [if_pos rfl]
    have hl1 : 0 < l := of_decide_eq_true eb.symm
    refine ev_I (C := fun _ j => 0 < j) (g := fun i j => i % j) (ev_int' (ev_tp (key := "left") (x := l) rfl fun _ => rfl)) (ev_var (i := 1) (a := many) rfl) _ σ H1 S1 (fun d => d = l % many) ⟨n0, rfl⟩ _ fun d v H2 ed x2 hv => ?_
    have S2 : SL O (effE pt c cells a l s t) [slAt pt, slV rInt many, slV rInt d, slAny] (σ.set 2 (some v)) H2 := (S1.ext x2).set (i := 2) (sl := slV rInt d) ⟨v, rfl, hv⟩
    refine tp_store (a' := fun _ => a) (l' := fun x => x) (s' := fun _ => s) (t' := fun _ => t) rfl S2 ne (ev_I (C := CDiv) (g := fun i j => i / j) (ev_tp (key := "left") (x := l) rfl fun _ => rfl) (ev_var (i := 1) (a := many) rfl)) (k := fun x => x = l / many) ⟨⟨n0, n1⟩, rfl⟩ (fun x => rfl) fun x H3 ex x3 S3 => ?_
    have xx3 := (xx1.trans x2.1).trans x3.1
    refine ev_var (i := 2) (a := d) (r := rInt) rfl _ _ _ S3 (fun z => z = d) rfl _ fun z w H4 ez x4 hw => ?_
    subst ez
    have S4 := S3.ext x4
    rw [show w = V.int z from hw]
    have hx : 0 ≤ x := by rw [ex]; exact Int.ediv_nonneg hl (by omega)
    refine q z H4 (by rw [ed]; exact Int.emod_nonneg _ (by omega)) (by rw [ed]; exact Int.emod_lt_of_pos _ n0) ⟨(xx3.trans tp_ex).trans x4.1, ofS S4 hc h63 ha hx ht⟩
  | false =>
    rw [if_neg Bool.false_ne_true]
    show sDPut (tVar 0) (tC (.str "salt")) (oAdd (tF "salt") (tC (.int 1))) ⟨_, D.rt, D.bk, D.ct⟩ σ H1
    refine tp_store (a' := fun _ => a) (l' := fun _ => l) (s' := fun _ => s) (t' := fun x => x) rfl S1 ne (ev_I0 (g := fun i j => i + j) (ev_tp (key := "salt") (x := t) rfl fun _ => rfl) (ev_int (i := 1))) (k := fun x => x = t + 1) rfl (fun x => rfl) fun x H2 ex x2 S2 => ?_
    have ht2 : 0 ≤ x := by omega
    have xx2 := (xx1.trans x2.1).trans (tp_ex (u := .dK (tapeKvs c a l s x)))
    refine ev_I (C := fun _ j => 0 < j) (g := fun i j => i % j) (ev_int' (ev_I0 (g := fun i j => i + j) (ev_I (C := CMul) (g := fun i j => i * j) (ev_tp (key := "seed") (x := s) rfl fun _ => rfl) (ev_int (i := 48271))) (ev_I (C := CMul) (g := fun i j => i * j) (ev_tp (key := "salt") (x := x) rfl fun _ => rfl) (ev_int (i := 69621))))) (ev_int (i := 2147483647)) _ _ _ S2 (fun d => 0 ≤ d ∧ d < 2147483647) ⟨cmul_r (by omega), cmul_r (by omega), by omega, Int.emod_nonneg _ (by omega), Int.emod_lt_of_pos _ (by omega)⟩ _ fun d v H3 ed x3 hv => ?_
    have S3 : SL O (effE pt c cells a l s x) [slAt pt, slV rInt many, slAny, slV rInt d] (σ.set 3 (some v)) H3 := (S2.ext x3).set (i := 3) (sl := slV rInt d) ⟨v, rfl, hv⟩
    refine ev_I (C := fun _ j => 0 < j) (g := fun i j => i % j) (ev_int' (ev_I0 (g := fun i j => i + j) (ev_I0 (g := fun i j => i + j) (ev_I (C := CMul) (g := fun i j => i * j) (ev_var (i := 3) (a := d) rfl) (ev_var (i := 3) (a := d) rfl)) (ev_I (C := CMul) (g := fun i j => i * j) (ev_tp (key := "salt") (x := x) rfl fun _ => rfl) (ev_int (i := 40692)))) (ev_int (i := 12345)))) (ev_int (i := 2147483399)) _ _ _ S3 (fun e => 0 ≤ e) ⟨.inl (by omega), cmul_r (by omega), by omega, Int.emod_nonneg _ (by omega)⟩ _ fun e w H4 ee x4 hw => ?_
    have S4 : SL O (effE pt c cells a l s x) [slAt pt, slV rInt many, slAny, slV rInt e] ((σ.set 3 (some v)).set 3 (some w)) H4 := (S3.ext x4).set (i := 3) (sl := slV rInt e) ⟨w, rfl, hw⟩
    refine ev_I (C := fun _ j => 0 < j) (g := fun i j => i % j) (ev_int' (ev_var (i := 3) (a := e) rfl)) (ev_var (i := 1) (a := many) rfl) _ _ _ S4 (fun z => 0 ≤ z ∧ z < many) ⟨n0, Int.emod_nonneg _ (by omega), Int.emod_lt_of_pos _ n0⟩ _ fun z y H5 ez x5 hy => ?_
    rw [show y = V.int z from hy]
    exact q z H5 ez.1 ez.2 ⟨((xx2.trans x3.1).trans x4.1).trans x5.1, ofS (S4.ext x5) hc h63 ha hl ht2⟩
theorem take_walk {vs : List V} {Q : VK} {X0 : XK} {H : Hp} (h : spTX (K := K) effT (f1 rInt) rInt (fun a => (Pg.take a).wp) vs H Q X0) : tTake K { nx := fun _ H' => Q .non H', rt := Q } (L2.start ["tape", "many", "drawn", "mixed"] vs) H := by
  obtain ⟨pt, c, ws, e, O, many, k, hO, mo, hI, ⟨v, ew, hv⟩, ⟨⟨n0, n1⟩, hk⟩, q⟩ := h
  subst e ew
  obtain ⟨cells, a, l, s, t, hd, hcs, hc, h63, ha0, ha1, hl, ht⟩ := hI
  have ne : pt ≠ c := fun e => by rw [e, hcs] at hd; cases hd
  have S : SL (K := K) O (effE pt c cells a l s t) [slAt pt, slV rInt many, slAny, slAny] [some (.ref pt), some v, none, none] H := ⟨.cons rfl (.cons ⟨v, rfl, hv⟩ (.cons True.intro (.cons True.intro .nil))), hO, mo, ⟨hd, hcs⟩⟩
  have fin : ∀ {H2 : Hp}, ∀ d H', 0 ≤ d → d < many → XX (effT pt c) H H' → Q (.int d) H' := fun d H' d0 d1 x => q d (.int d) H' (hk d d0 d1) x rfl
  show (tTake K) _ [some (.ref pt), some v, none, none] H
  unfold tTake
  refine et_and (et_T (ev_eqI (ev_tp (key := "left") (x := l) rfl fun _ => rfl) (ev_int (i := 0)))) (et_T (ev_B0 (g := fun i j => decide (i < j)) (ev_tp (key := "at") (x := a) rfl fun _ => rfl) (ev_tpLen rfl))) _ _ H S (fun b => b = true → l = 0 ∧ a < cells.length) (by
    by_cases e : l = 0
    · simp [e]
    · simp [e]) _ fun b H1 eb x1 => ?_
  have S1 := S.ext x1
  cases b with
  | true =>
    obtain ⟨el, ea⟩ := eb rfl
    rw [if_pos rfl]
    have hat : ∃ x, atI cells a = some x := by
      have h1 : a = ((a.toNat : Nat) : Int) := by omega
      have h2 : a.toNat < cells.length := by omega
      obtain ⟨x, hx⟩ : ∃ x, cells[a.toNat]? = some x := ⟨_, List.getElem?_eq_getElem h2⟩
      exact ⟨x, by rw [h1]; exact atI_nat hx⟩
    obtain ⟨x0, hx0⟩ := hat
    have hx00 : 0 ≤ x0 := by
      unfold atI at hx0
      cases q : ixN cells.length a with
      | none => rw [q] at hx0; cases hx0
      | some j => rw [q] at hx0; exact hc _ (List.mem_of_getElem? hx0)
    show sDPut (tVar 0) (tC (.str "left")) (tOp (rIxL K) (tF "cells") (tF "at")) ⟨_, Q, _, _⟩ _ H1
    refine tp_store (a' := fun _ => a) (l' := fun x => x) (s' := fun _ => s) (t' := fun _ => t) rfl S1 ne (ev_tpIx rfl (ev_tp (key := "at") (x := a) rfl fun _ => rfl)) (k := fun x => x = x0) ⟨x0, hx0, rfl⟩ (fun x => rfl) fun x H2 ex x2 S2 => ?_
    show sDPut (tVar 0) (tC (.str "at")) (oAdd (tF "at") (tC (.int 1))) ⟨_, Q, _, _⟩ _ _
    refine tp_store (a' := fun x => x) (l' := fun _ => x) (s' := fun _ => s) (t' := fun _ => t) rfl S2 ne (ev_I0 (g := fun i j => i + j) (ev_tp (key := "at") (x := a) rfl fun _ => rfl) (ev_int (i := 1))) (k := fun y => y = a + 1) rfl (fun x => rfl) fun y H3 ey x3 S3 => ?_
    show tTake2 _ _ _
    exact take2_walk ne hc h63 (by omega) (by omega) ht n0 n1 S3 ((((x1.1.trans x2.1).trans tp_ex).trans x3.1).trans tp_ex) (fin (H2 := H))
  | false =>
    rw [if_neg Bool.false_ne_true]
    show tTake2 _ _ _
    exact take2_walk ne hc h63 ⟨ha0, ha1⟩ hl ht n0 n1 S1 x1.1 (fin (H2 := H))
end
end Nz

/-! Nz20: the tape is made. -/
namespace Nz
open PySem L2
variable {K : PySem.W.Frag}
/-- ints that are read, in the heap or known -/
def rSq : R K (List Int) := ⟨fun H v ns => ∃ p, v = .ref p ∧ SqL K H p (ns.map V.int) ∧ ns.length ≤ 63, fun e ⟨p, h, q, z⟩ => ⟨p, h, Nz.SqL.mono' e q, z⟩⟩
theorem iw_sq {F B : Hp} {p : Addr} {ns : List Int} (hs : SqL K B p (ns.map V.int)) (hl : ns.length ≤ 63) : IW (K := K) F B rInt ns (Itl K p) := by
  refine ⟨by show ns.length ≤ 100000; omega, fun i H3 hi w => ⟨ns.map V.int, .int ns[i], Nz.SqL.mono' w.ew hs, by simp [hi]⟩, fun H3 w => ⟨ns.map V.int, Nz.SqL.mono' w.ew hs, by simp⟩, fun O' i H3 x H4 hi w od wf y => ?_⟩
  obtain ⟨e4, y⟩ := y
  subst e4
  refine ⟨Ex.refl _, ns[i], by simp [hi], ?_⟩
  have := y _ (Nz.SqL.mono' w.ew hs)
  rw [List.getElem?_map, List.getElem?_eq_getElem hi] at this
  cases this
  rfl
theorem iv_sq {E : Eff} {sls : List (Sl K)} {te : TE} {c : PT (List Int)} (h : EV E sls te rSq c) : IV E sls (iList K te) rInt c := fun O σ H S k hk Rr q =>
  h _ σ H S k hk _ fun xs v H2 ka x ⟨p, e, hs, hl⟩ => ⟨p, e, ⟨_, lunS hs⟩, q xs _ H2 ka x (iw_sq hs hl)⟩
def rAbs : List V → Hp → VK → Prop := fun xs H Q => ∃ i, xs = [.int i] ∧ Q (.int (if i < 0 then -i else i)) H
def tTapeMk (K : PySem.W.Frag) : TS := tSeq (tAsg (tLc (iList K (tVar 0)) (gName 2) tYes (tCB rAbs (tCons (tInt (tVar 2)) tNil)) [2]) (gName 1))
  (tSeq (tAsg (tC (.int 7)) (gName 3))
  (tSeq (tFor (iList K (tVar 1)) (gName 2) (tSeq (tAsg (oMod (tInt (oAdd (oMul (tVar 3) (tC (.int 31))) (tVar 2))) (tC (.int 2147483647))) (gName 3)) tNext))
  (tSeq (tRet (tDisp [(tC (.str "cells"), tVar 1), (tC (.str "at"), tC (.int 0)), (tC (.str "left"), tC (.int 0)), (tC (.str "seed"), tVar 3), (tC (.str "salt"), tC (.int 0))])) tNext)))
def spMk (K : PySem.W.Frag) : Sp := fun vs H Q _ => ∃ (a : Addr) (ns : List Int), vs = [.ref a] ∧ SqL K H a (ns.map V.int) ∧ ns.length ≤ 63 ∧ ∀ pt c H2, Ex H H2 → H pt = none → H c = none → TapeI pt c H2 → Q (.ref pt) H2
theorem abs_nn (i : Int) : 0 ≤ (if i < 0 then -i else i) := by split <;> omega
theorem compT_all {α β : Type} {P : β → Prop} {f : α → β} (hf : ∀ x, P (f x)) : ∀ (xs : List α) (k : List β → Prop), (∀ ys, ys.length = xs.length → (∀ y ∈ ys, P y) → k ys) → compT xs (fun _ k => k true) (fun x k => k (f x)) k
  | [], k, h => h [] rfl (by simp)
  | x :: xs, k, h => by
    rw [compT_cons]
    dsimp only
    rw [if_pos rfl]
    exact compT_all hf xs _ fun ys hl hy => h (f x :: ys) (by simp [hl]) fun y hm => by
      rcases List.mem_cons.mp hm with e | hm
      · rw [e]; exact hf x
      · exact hy y hm
theorem mk_walk {vs : List V} {Q : VK} {X0 : XK} {H : Hp} (h : spMk K vs H Q X0) : tTapeMk K { nx := fun _ H' => Q .non H', rt := Q } (L2.start ["script", "cells", "cell", "seed"] vs) H := by
  obtain ⟨a, ns, e, hS, hl, q⟩ := h
  subst e
  have S : SL (K := K) (fun _ => False) eff0 [slV rSq ns, slAny, slAny, slAny] [some (.ref a), none, none, none] H := ⟨.cons ⟨_, rfl, a, rfl, by rw [hid_no]; exact hS, hl⟩ (.cons True.intro (.cons True.intro (.cons True.intro .nil))), fun _ z => z.elim, fun _ z => z.elim, True.intro⟩
  show (tTapeMk K) _ [some (.ref a), none, none, none] H
  unfold tTapeMk
  show tLc (iList K (tVar 0)) (gName 2) tYes (tCB rAbs (tCons (tInt (tVar 2)) tNil)) [2] [some (.ref a), none, none, none] H fun x H1 => gName 1 x [some (.ref a), none, none, none] H1 _
  refine el_lc (vs := [2]) (js := [2]) (rx := rInt) (r := rInt) (t := fun _ k => k true) (fe := fun x k => k (if x < 0 then -x else x)) (h := fun x => [slV rSq ns, slAny, slV rInt x, slAny]) (ir_iv (iv_sq (ev_var (i := 0) rfl))) (gt_name (j := 2)) (by decide) (fun _ => et_yes) (fun x => ev_abs (ev_int' (ev_var (i := 2) (a := x) rfl))) _ _ H S (fun ys => ys.length = ns.length ∧ ∀ y ∈ ys, 0 ≤ y) (compT_all (P := fun y => 0 ≤ y) (fun x => abs_nn x) ns _ fun ys a b => ⟨a, b⟩) _ fun cells c cvs H1 ⟨hcl, hnn⟩ x1 nc hc hp hlc => ?_
  have ec : cvs = cells.map V.int := ints_of hp
  subst ec
  have ex1 : Ex H H1 := by
    have := x1.1
    rwa [show eff0.M = fun _ => False from rfl, hid_no, hid_no] at this
  -- seed = 7, the loop
  refine ⟨.ref c, rfl, c, rfl, ⟨_, .inl (.inl hc)⟩, fun i m σ H3 => (∃ (y2 : Option V) (sd : Int), σ = [some (.ref a), some (.ref c), y2, some (.int sd)]) ∧ i + m = cells.length ∧ H3 = H1, ⟨cells.length, ⟨none, 7, rfl⟩, by omega, rfl⟩, fun i m σ H3 hW => ?_⟩
  obtain ⟨⟨y2, sd, rfl⟩, em, rfl⟩ := hW
  by_cases hi : i < cells.length
  · refine .inr ⟨⟨cells.map V.int, .int cells[i], .inl (.inl hc), by simp [hi]⟩, fun σ' H' => (∃ (y2 : Option V) (sd : Int), σ' = [some (.ref a), some (.ref c), y2, some (.int sd)]) ∧ H' = H3, fun σ' H' ⟨h1, h2⟩ => ⟨m - 1, by omega, h1, by omega, h2⟩, fun v H' ⟨e1, hy⟩ => ?_⟩
    subst e1
    have hv := hy _ (.inl (.inl hc))
    rw [List.getElem?_map, List.getElem?_eq_getElem hi] at hv
    cases hv
    exact ⟨_, rfl, _, 31, rfl, rfl, cmul_r (by omega), _, rfl, _, _, rfl, rfl, .inl ⟨_, rfl, _, _, rfl, rfl, by omega, ⟨_, _, rfl⟩, rfl⟩⟩
  · refine .inl ⟨⟨cells.map V.int, .inl (.inl hc), by simp; omega⟩, fun p np => ?_⟩
    have npc : c ≠ p := ne_of_none hc np
    refine ⟨_, rfl, _, rfl, by rw [upd_same], [(.inr "cells", .ref c), (.inr "at", .int 0), (.inr "left", .int 0), (.inr "seed", .int sd), (.inr "salt", .int 0)], rfl, by simp, ?_⟩
    have ex2 : Ex H (upd (upd H3 p (.dK [])) p (.dK (mergeK [] [(.inr "cells", .ref c), (.inr "at", .int 0), (.inr "left", .int 0), (.inr "seed", .int sd), (.inr "salt", .int 0)]))) := fun x u e => by
      have e2 := ex1 x u e
      have : x ≠ p := ne_of_none e2 np
      rw [upd_ne this, upd_ne this]
      exact e2
    have np0 : H p = none := by
      cases z : H p with
      | none => rfl
      | some u => rw [ex1 p u z] at np; cases np
    exact q p c _ ex2 np0 nc ⟨cells, 0, 0, sd, 0, upd_same, by rw [upd_ne npc, upd_ne npc]; exact hc, hnn, by omega, Int.le_refl _, by omega, Int.le_refl _, Int.le_refl _⟩
end Nz

/-! Nz21: the law itself. -/
namespace Nz
open PySem L2 PySem.Spec PyProof.Rows LamX
variable {K : PySem.W.Frag}
def spLaw (K : PySem.W.Frag) (P : Addr) : Sp := fun vs H Q _ => ∃ (a : Addr) (ns : List Int), vs = [.ref a] ∧ SqL K H a (ns.map V.int) ∧ ns.length ≤ 63 ∧ H P = some (.tbl #[]) ∧ ∀ H', Q (.bl true) H'
theorem law_run {P : Addr} {q : Str} {N : List Str} {n : Nat} (hN : N.length = n + 2) {X0 X1 : XK} {t : TS} {mb : PT (Ctl Bool Empty Unit)} (hb : ∀ pt c, BJ (K := K) (effQ P q pt c) (slAny :: slAt pt :: List.replicate n slAny) [] t mb rBl (fun _ => slAny :: slAny :: List.replicate n slAny) [] noL [])
    (hm : mb (outF fun b => b = true)) {vs : List V} {H : Hp} {Q : VK} (h : spLaw K P vs H Q X1) : tSeq (tAsg (tCall (spMk K) [] X0 (tCons (tVar 0) tNil)) (gName 1)) t { nx := fun _ H' => Q .non H', rt := Q } (L2.start N vs) H := by
  obtain ⟨a, ns, e, hS, hl, hP, q'⟩ := h
  subst e
  have eN : L2.start N [.ref a] = some (.ref a) :: List.replicate (n + 1) none := by
    unfold L2.start
    rw [hN]
    rfl
  rw [eN]
  refine ⟨.ref a, rfl, a, ns, rfl, hS, hl, fun pt c H2 ex np nc hT => ?_⟩
  have hP2 := ex P _ hP
  have hTab : Tabs [(P, q)] H2 := fun p hp => by
    have e : p = (P, q) := List.mem_singleton.mp hp
    subst e
    exact TabS.nil hP2
  have mo : ∀ x, (effQ P q pt c).M x → (effQ P q pt c).M x := fun _ h => h
  have hI : (effQ P q pt c).I H2 := ⟨hT, hTab⟩
  have S : SL (K := K) (effQ P q pt c).M (effQ P q pt c) (slAny :: slAt pt :: List.replicate n slAny) (some (.ref a) :: some (.ref pt) :: List.replicate n none) H2 := ⟨.cons True.intro (.cons rfl (paired_rep n)), fun x hx => (effQ P q pt c).there hI x hx, mo, hI⟩
  refine hb pt c (effQ P q pt c).M H2 (hid H2 (effQ P q pt c).M) _ H2 ⟨by rw [own_nil]; exact S, Ex.refl _, by rw [own_nil]; exact Ef.refl _, fun i h => (by simp at h), fun i h => (by simp at h), mo, fun j sl h hp => ?_⟩ _ hm _ (fun _ _ _ z => z.elim) (fun b v H' kb _ _ e3 => ?_) (fun l => nomatch l) (fun l => nomatch l)
  · cases j with
    | zero => simp at h; subst h; cases hp
    | succ j =>
      cases j with
      | zero => simp at h; subst h; cases hp
      | succ j =>
        have h' : (List.replicate n slAny)[j]? = some sl := by simpa using h
        have := List.mem_of_getElem? h'
        rw [List.eq_of_mem_replicate this] at hp
        cases hp
  · rw [show v = V.bl b from e3, show b = true from kb]
    exact q' H'
theorem spLaw_len {P : Addr} {vs : List V} {H : Hp} {Q : VK} {X0 : XK} (h : spLaw K P vs H Q X0) : vs.length = 1 := by
  obtain ⟨_, _, e, _⟩ := h
  rw [e]
  rfl
end Nz

/-! Nz22: a list of lists that is written into: its rows are an effect whose content is told. -/
namespace Nz
open PySem L2
variable {K : PySem.W.Frag} {E : Eff} {sls : List (Sl K)}
section
variable {α β γ L M N S : Type} {te ta tb tv ti : TE} {r : R K α}
/-- the rows qs hold c -/
def RowsAt (r : R K α) (qs : List Addr) (c : List (List α)) (H : Hp) : Prop := Paired (fun q row => ∃ vs, H q = some (.lst vs) ∧ Paired (r.rp H) vs row ∧ vs.length ≤ big) qs c
theorem pmap_mem {F F' : γ → β → Prop} : ∀ {l₁ : List γ} {l₂ : List β}, Paired F l₁ l₂ → (∀ a ∈ l₁, ∀ b, F a b → F' a b) → Paired F' l₁ l₂
  | _, _, .nil, _ => .nil
  | _, _, .cons h t, f => .cons (f _ List.mem_cons_self _ h) (pmap_mem t fun a ha => f a (List.mem_cons_of_mem _ ha))
theorem RowsAt.eq {qs : List Addr} {c : List (List α)} {H H' : Hp} (fl : Flat r) (h : RowsAt r qs c H) (e : ∀ q ∈ qs, H' q = H q) : RowsAt r qs c H' :=
  pmap_mem h fun q hq row ⟨vs, a, b, d⟩ => ⟨vs, by rw [e q hq]; exact a, pmap b fun _ _ z => fl z, d⟩
theorem RowsAt.at' {qs : List Addr} {c : List (List α)} {H : Hp} (h : RowsAt r qs c H) {q : Addr} (hq : q ∈ qs) : ∃ vs, H q = some (.lst vs) := by
  obtain ⟨row, _, vs, e, _⟩ := paired_mem h q hq
  exact ⟨vs, e⟩
structure MatI (E : Eff) (r : R K α) (qs : List Addr) (c : List (List α)) (H : Hp) : Prop where
  i : E.I H
  rows : RowsAt r qs c H
  nd : qs.Nodup
  nm : ∀ q ∈ qs, ¬ E.M q
def effM (E : Eff) (r : R K α) (fl : Flat r) (qs : List Addr) (c : List (List α)) : Eff := ⟨fun a => E.M a ∨ a ∈ qs, MatI E r qs c,
  fun h1 h2 h => ⟨E.mono (fun a ha => h1 a (.inl ha)) h2 h.i, h.rows.eq fl fun q hq => h1 q (.inr hq), h.nd, h.nm⟩,
  fun h a ha => by
    rcases ha with ha | ha
    · exact E.there h.i a ha
    · obtain ⟨vs, e⟩ := h.rows.at' ha
      exact ⟨_, e, fun _ z => by cases z⟩⟩
def rRef : R K Addr := ⟨fun _ v q => v = .ref q, fun _ h => h⟩
/-- what is known of the rows' places -/
structure Away (E : Eff) (O0 : Addr → Prop) (H0 G : Hp) (qs : List Addr) : Prop where
  h0 : ∀ q ∈ qs, H0 q = none
  g : ∀ q ∈ qs, G q = none
  o : ∀ q ∈ qs, ¬ O0 q
  mo : ∀ a, E.M a → O0 a
/-- rows that are new become an effect -/
theorem SI.enter {O0 : Addr → Prop} {H0 G : Hp} {own : List Nat} {σ : L2.St} {H H2 : Hp} {qs : List Addr} {c : List (List α)} (fl : Flat r) (I : SI E O0 H0 G sls own σ H) (x : XX E H H2) (n : ∀ q ∈ qs, H q = none) (hq : RowsAt r qs c H2) (nd : qs.Nodup) :
    SI (effM E r fl qs c) (fun a => O0 a ∨ a ∈ qs) H0 G sls own σ H2 ∧ Away E O0 H0 G qs := by
  have nO : ∀ q ∈ qs, ¬ OwnOf O0 own σ q := fun q h => I.sl.nOn (n q h)
  have nM : ∀ q ∈ qs, ¬ E.M q := fun q h z => nO q h (I.sl.mo q z)
  have ho : ∀ a, OwnOf (fun a => O0 a ∨ a ∈ qs) own σ a ↔ OwnOf O0 own σ a ∨ a ∈ qs := fun a => ⟨fun h => by
    rcases h with (h | h) | h
    · exact .inl (.inl h)
    · exact .inr h
    · exact .inl (.inr h), fun h => by
    rcases h with (h | h) | h
    · exact .inl (.inl h)
    · exact .inr h
    · exact .inl (.inr h)⟩
  have exO : Ex (hid H (OwnOf O0 own σ)) (hid H2 (OwnOf (fun a => O0 a ∨ a ∈ qs) own σ)) := fun a u e => by
    obtain ⟨na, e⟩ := of_hid e
    have nq : a ∉ qs := fun z => by rw [n a z] at e; cases e
    rw [hid_out fun z => ((ho a).mp z).elim na nq]
    have := x.1 a u (by rw [hid_out fun z => na (I.sl.mo a z)]; exact e)
    exact (of_hid this).2
  have exM : Ex (hid H E.M) (hid H2 (effM E r fl qs c).M) := fun a u e => by
    obtain ⟨na, e⟩ := of_hid e
    have nq : a ∉ qs := fun z => by rw [n a z] at e; cases e
    rw [hid_out fun z => z.elim na nq]
    have := x.1 a u (by rw [hid_out na]; exact e)
    exact (of_hid this).2
  have h0n : ∀ q ∈ qs, H0 q = none := fun q h => by
    cases e : H0 q with
    | none => rfl
    | some u =>
      have h1 := I.h0 q u (by rw [hid_out (nM q h)]; exact e)
      have h2 := (of_hid h1).2
      rw [n q h] at h2
      cases h2
  have gn : ∀ q ∈ qs, G q = none := fun q h => by
    cases e : G q with
    | none => rfl
    | some u =>
      obtain ⟨w, h1⟩ := I.g.ex q u e
      have h2 := (of_hid h1).2
      rw [n q h] at h2
      cases h2
  have I2 := I.ext x
  refine ⟨⟨⟨pmap I.sl.sl fun o sl h => sl.mono exO.ew exM.ef h, fun a ha => ?_, fun a ha => ?_, x.2, hq, nd, nM⟩, fun a u e => ?_, I.g.trans exO.ef, fun i hi => ?_, I.ap, fun a ha => ?_, I.hk⟩, h0n, gn, fun q h z => nO q h (.inl z), I.mo⟩
  · rcases (ho a).mp ha with ha | ha
    · exact I2.sl.od a ha
    · obtain ⟨vs, e⟩ := hq.at' ha
      exact ⟨_, e, fun _ z => by cases z⟩
  · rcases ha with ha | ha
    · exact (ho a).mpr (.inl (I.sl.mo a ha))
    · exact (ho a).mpr (.inr ha)
  · obtain ⟨na, e⟩ := of_hid e
    have h1 := I.h0 a u (by rw [hid_out fun z => na (.inl z)]; exact e)
    exact exM a u h1
  · obtain ⟨p, u, a, b, c', d, e, f, g⟩ := I.ow i hi
    have np : p ∉ qs := fun z => by rw [n p z] at f; cases f
    exact ⟨p, u, a, b, c', fun z => z.elim d np, fun z => z.elim e np, x.keep f d, g⟩
  · exact ha.elim (fun h => .inl (I.mo a h)) .inr
/-- the rows are values again -/
theorem SI.leave {O0 : Addr → Prop} {H0 G : Hp} {own : List Nat} {σ : L2.St} {H : Hp} {qs : List Addr} {c : List (List α)} {fl : Flat r} {i : Nat} (J : SI (effM E r fl qs c) (fun a => O0 a ∨ a ∈ qs) H0 G sls own σ H) (A : Away E O0 H0 G qs) (h : sls[i]? = some (slV (rLst rRef) qs)) :
    SI E O0 H0 G (sls.set i (slV (rLst (rLst r)) c)) (rmv own i) σ H := by
  have le : ∀ a, OwnOf O0 own σ a → OwnOf (fun a => O0 a ∨ a ∈ qs) own σ a := fun a h => h.elim (fun h => .inl (.inl h)) .inr
  have leM : ∀ a, E.M a → (effM E r fl qs c).M a := fun a h => .inl h
  have I : SI E O0 H0 G sls own σ H := by
    refine ⟨⟨pmap J.sl.sl fun o sl h => sl.mono (ew_hid_le le) (ef_hid_le leM) h, fun a ha => J.sl.od a (le a ha), fun a ha => .inl (A.mo a ha), J.sl.inv.i⟩, fun a u e => ?_, J.g.trans (ef_hid_le le), fun j hj => ?_, J.ap, A.mo, J.hk⟩
    · obtain ⟨na, e⟩ := of_hid e
      have nq : a ∉ qs := fun z => by rw [A.h0 a z] at e; cases e
      have h1 := J.h0 a u (by rw [hid_out fun z => z.elim na nq]; exact e)
      rw [hid_out na]
      exact (of_hid h1).2
    · obtain ⟨p, u, a, b, c', d, e, f, g⟩ := J.ow j hj
      exact ⟨p, u, a, b, c', fun z => d (.inl z), fun z => e (.inl z), f, g⟩
  obtain ⟨v, ev, p, vs, rfl, hr, hp, hl⟩ := I.sl.val h
  have e : σ.set i (some (.ref p)) = σ := set_self ev
  have nO : ∀ q ∈ qs, ¬ OwnOf O0 own σ q := fun q hq z => by
    rcases z with z | ⟨j, hj, ej⟩
    · exact A.o q hq z
    · obtain ⟨p', u, a, b, c', d, _⟩ := J.ow j hj
      rw [ej] at a
      cases a
      exact d (.inr hq)
  have rows : ∀ {vs : List V} {qs' : List Addr} {c' : List (List α)}, Paired ((rRef (K := K)).rp (hid H (OwnOf O0 own σ))) vs qs' → RowsAt r qs' c' H → (∀ q ∈ qs', ¬ OwnOf O0 own σ q) → Paired ((rLst r).rp (hid H (OwnOf O0 own σ))) vs c' := by
    intro vs qs' c' h1 h2 h3
    induction h1 generalizing c' with
    | nil => cases h2; exact .nil
    | cons a t ih =>
      cases h2 with
      | cons b t2 =>
        obtain ⟨ws, x, y, z⟩ := b
        exact .cons ⟨_, ws, a, .inl (by rw [hid_out (h3 _ List.mem_cons_self)]; exact x), pmap y fun _ _ z => fl z, z⟩ (ih t2 fun q hq => h3 q (List.mem_cons_of_mem _ hq))
  have hv : (rLst (rLst r)).rp (hid H (OwnOf O0 own σ)) (.ref p) c := ⟨p, vs, rfl, hr, rows hp J.sl.inv.rows nO, hl⟩
  have := I.set (i := i) hv
  rw [e] at this
  exact this
theorem paired_set2 {F : Addr → List α → Prop} {qs : List Addr} {c : List (List α)} (h : Paired F qs c) {i : Nat} {q : Addr} {row : List α} (e : qs[i]? = some q) {F' : Addr → List α → Prop} (n : ∀ q' ∈ qs, q' ≠ q → ∀ row, F q' row → F' q' row) (nd : qs.Nodup) (h' : F' q row) : Paired F' qs (c.set i row) := by
  induction h generalizing i with
  | nil => simp at e
  | cons a t ih =>
    obtain ⟨n1, n2⟩ := List.nodup_cons.mp nd
    cases i with
    | zero =>
      simp at e
      subst e
      exact .cons h' (pmap_mem t fun q' hq' row' hr => n q' (List.mem_cons_of_mem _ hq') (fun z => n1 (by rw [← z]; exact hq')) row' hr)
    | succ i =>
      have e : _ := (by simpa using e : _[i]? = some q)
      refine .cons (n _ List.mem_cons_self (fun z => n1 ?_) _ a) (ih e (fun q' hq' => n q' (List.mem_cons_of_mem _ hq')) n2)
      rw [z]
      exact List.mem_of_getElem? e
/-- a row is written into -/
theorem SI.putM {O0 : Addr → Prop} {H0 G : Hp} {own : List Nat} {σ : L2.St} {H : Hp} {qs : List Addr} {c : List (List α)} {fl : Flat r} {i : Nat} {q : Addr} {vs : List V} {row : List α} (J : SI (effM E r fl qs c) O0 H0 G sls own σ H) (e : qs[i]? = some q) (hv : Paired (r.rp H) vs row) (hl : vs.length ≤ big) :
    SI (effM E r fl qs (c.set i row)) O0 H0 G sls own σ (upd H q (.lst vs)) := by
  have hq : q ∈ qs := List.mem_of_getElem? e
  have Mq : (effM E r fl qs c).M q := .inr hq
  obtain ⟨ws, eq⟩ := J.sl.inv.rows.at' hq
  have h1 : ∀ O : Addr → Prop, O q → hid (upd H q (.lst vs)) O = hid H O := fun O o => funext fun a => by
    by_cases c : O a
    · rw [hid_in c, hid_in c]
    · rw [hid_out c, hid_out c, upd_ne fun z => c (by rw [z]; exact o)]
  have e1 := h1 (OwnOf O0 own σ) (.inl (J.mo q Mq))
  have e2 : hid (upd H q (.lst vs)) (effM E r fl qs (c.set i row)).M = hid H (effM E r fl qs c).M := h1 _ Mq
  refine ⟨⟨?_, fun a ha => ?_, J.sl.mo, ?_⟩, ?_, by rw [e1]; exact J.g, fun j hj => ?_, J.ap, J.mo, J.hk⟩
  · rw [e1, e2]; exact J.sl.sl
  · by_cases z : a = q
    · subst z; exact ⟨_, upd_same, fun _ z => by cases z⟩
    · rw [upd_ne z]; exact J.sl.od a ha
  · refine ⟨E.mono (fun a ha => upd_ne fun z => J.sl.inv.nm q hq (by rw [← z]; exact ha)) (ext_upd fun φ z => by rw [eq] at z; cases z) J.sl.inv.i, ?_, J.sl.inv.nd, J.sl.inv.nm⟩
    exact paired_set2 J.sl.inv.rows e (fun q' _ ne row' ⟨vs', a, b, d⟩ => ⟨vs', by rw [upd_ne ne]; exact a, pmap b fun _ _ z => fl z, d⟩) J.sl.inv.nd ⟨vs, upd_same, pmap hv fun _ _ z => fl z, hl⟩
  · rw [e2]; exact J.h0
  · obtain ⟨p, u, a, b, c', d, e', f, g⟩ := J.ow j hj
    exact ⟨p, u, a, b, c', d, e', by rw [upd_ne fun z => d (by rw [z]; exact Mq)]; exact f, g⟩
/-! ### reading -/
theorem paired_at2 {F : γ → β → Prop} : ∀ {l₁ : List γ} {l₂ : List β}, Paired F l₁ l₂ → ∀ {i : Nat} {a : γ}, l₁[i]? = some a → ∃ b, l₂[i]? = some b ∧ F a b
  | _, _, .nil, i, a, e => by simp at e
  | _, _, .cons h t, 0, a, e => by
    simp at e
    subst e
    exact ⟨_, rfl, h⟩
  | _, _, .cons _ t, i + 1, a, e => by
    obtain ⟨b, h1, h2⟩ := paired_at2 t (i := i) (by simpa using e)
    exact ⟨b, by simpa using h1, h2⟩
theorem atI_some {xs : List α} {i : Int} {a : α} (h : atI xs i = some a) : ∃ j, ixN xs.length i = some j ∧ xs[j]? = some a := by
  unfold atI at h
  cases e : ixN xs.length i with
  | none => rw [e] at h; cases h
  | some j => rw [e] at h; exact ⟨j, rfl, h⟩
theorem refs_of {H : Hp} : ∀ {vs : List V} {qs : List Addr}, Paired ((rRef (K := K)).rp H) vs qs → vs = qs.map V.ref
  | _, _, .nil => rfl
  | _, _, .cons h t => by
    have e : _ = V.ref _ := h
    rw [e, refs_of t]; rfl
/-- the row that found[i] names -/
theorem mat_row {O : Addr → Prop} {σ : L2.St} {H : Hp} {qs : List Addr} {c : List (List α)} {fl : Flat r} (S : SL O (effM E r fl qs c) sls σ H) {vs : List V} (hp : Paired ((rRef (K := K)).rp (hid H O)) vs qs) {j : Int} {row : List α} (e : atI c j = some row) :
    ∃ n q ws, ixN c.length j = some n ∧ qs[n]? = some q ∧ atI vs j = some (.ref q) ∧ H q = some (.lst ws) ∧ Paired (r.rp H) ws row ∧ ws.length ≤ big ∧ c[n]? = some row := by
  obtain ⟨n, hn, hc⟩ := atI_some e
  have hr := S.inv.rows
  have hl := hr.length
  have hl2 := hp.length
  obtain ⟨h1, h2⟩ := List.getElem?_eq_some_iff.mp hc
  obtain ⟨q, hq⟩ : ∃ q, qs[n]? = some q := ⟨_, List.getElem?_eq_getElem (by omega)⟩
  obtain ⟨row', h3, ws, h4, h5, h6⟩ := paired_at2 hr hq
  rw [hc] at h3
  cases h3
  have ev := refs_of hp
  refine ⟨n, q, ws, hn, hq, ?_, h4, h5, h6, hc⟩
  have hx : ixN vs.length j = some n := by rw [hl2, hl]; exact hn
  have hg : vs[n]? = some (V.ref q) := by rw [ev, List.getElem?_map, hq]; rfl
  exact (congrArg (fun o => Option.bind o fun j => vs[j]?) hx).trans hg
theorem ev_mat {i : Nat} {qs : List Addr} {c : List (List α)} {fl : Flat r} {ca cb : PT Int} (h0 : sls[i]? = some (slV (rLst rRef) qs)) (ha : EV (effM E r fl qs c) sls ta rInt ca) (hb : EV (effM E r fl qs c) sls tb rInt cb) :
    EV (effM E r fl qs c) sls (tOp (rIxL K) (tOp (rIxL K) (tVar i) ta) tb) r (fun k => ca fun a => ∃ row, atI c a = some row ∧ cb fun b => ∃ v, atI row b = some v ∧ k v) := fun O σ H S k hk Q Q' => by
  obtain ⟨v, ev, p, vs, rfl, hr, hp, hl⟩ := S.val h0
  refine ⟨_, ev, ha _ σ H S _ hk _ fun a y H1 ⟨row, er, ka⟩ x1 hy => ?_⟩
  have S1 := S.ext x1
  have hr1 := (x1.ex S.mo).ew.rd _ (.lst vs) True.intro hr
  have hp1 := pmap hp fun _ _ z => (rRef (K := K)).mono (x1.ex S.mo).ew z
  obtain ⟨n, q, ws, hn, hq, hat, hw, hpw, hlw, hc⟩ := mat_row S1 hp1 er
  refine ⟨p, vs, a, .ref q, rfl, hy, lun (rdL (ew_MO S.mo) hr1), hat, hb _ σ H1 S1 _ ka _ fun b z H2 ⟨w, ew, kb⟩ x2 hz => ?_⟩
  have S2 := S1.ext x2
  obtain ⟨n2, q2, ws2, hn2, hq2, hat2, hw2, hpw2, hlw2, hc2⟩ := mat_row S2 (pmap hp1 fun _ _ z => (rRef (K := K)).mono (x2.ex S.mo).ew z) er
  have e : q2 = q := by
    rw [hn] at hn2
    cases hn2
    rw [hq] at hq2
    cases hq2
    rfl
  subst e
  obtain ⟨v, hv1, hv2⟩ := paired_atI hpw2 ew
  exact ⟨q2, ws2, b, v, rfl, hz, .inl (.inl hw2), hv1, Q' w v H2 kb (x1.trans x2) (fl hv2)⟩
/-! ### statements while rows are written -/
def BJV {β L N : Type} (E : Eff) (sls : List (Sl K)) (own : List Nat) (t : TS) (m : PT (Ctl β L N)) (EN : N → Eff) (fN : N → List (Sl K)) (oN : List Nat) (EC : L → Eff) (fL : L → List (Sl K)) (oL : List Nat) : Prop :=
  ∀ (O0 : Addr → Prop) (H0 G : Hp) (σ : L2.St) (H : Hp), SI E O0 H0 G sls own σ H → ∀ k : Ctl β L N → Prop, m k → ∀ D : Ends,
    (∀ n σ' H', k (.nx n) → SI (EN n) O0 H0 G (fN n) oN σ' H' → D.nx σ' H') →
    (∀ l σ' H', k (.ct l) → SI (EC l) O0 H0 G (fL l) oL σ' H' → D.ct σ' H') → t D σ H
variable {own : List Nat} {u : TS} {EN : N → Eff} {fN : N → List (Sl K)} {oN : List Nat} {EC : L → Eff} {fL : L → List (Sl K)} {oL : List Nat}
theorem vj_nx {s : N} (e : EN s = E) (w : Wks oN 0 sls (fN s)) (ho : ∀ j ∈ oN, j ∈ own) : BJV (β := β) E sls own tNext (fun k => k (.nx s)) EN fN oN EC fL oL := fun O0 H0 G σ H I k hk' D q1 q4 => q1 s σ H hk' (by rw [e]; exact I.wk w ho)
theorem vj_cnt {s : L} (e : EC s = E) (w : Wks oL 0 sls (fL s)) (ho : ∀ j ∈ oL, j ∈ own) : BJV (β := β) E sls own (tSeq tCont u) (fun k => k (.ct s)) EN fN oN EC fL oL := fun O0 H0 G σ H I k hk' D q1 q4 => q4 s σ H hk' (by rw [e]; exact I.wk w ho)
theorem vj_asg {i : Nat} {rx : R K γ} {c : PT γ} {m : γ → PT (Ctl β L N)} (h : EV E sls te rx c) (n : ∀ a, BJV E (sls.set i (slV rx a)) (rmv own i) u (m a) EN fN oN EC fL oL) :
    BJV E sls own (tSeq (tAsg te (gName i)) u) (fun k => c fun a => m a k) EN fN oN EC fL oL := fun O0 H0 G σ H I k hk D q1 q4 =>
  h _ σ H I.sl _ hk _ fun a v H2 ka x hv => n a O0 H0 G _ H2 ((I.ext x).set hv) k ka D q1 q4
theorem vj_if {tt : TT} {t1 t2 : TS} {c : PT Bool} {m1 m2 : PT (Ctl β L M)} {m3 : M → PT (Ctl β L N)} {EM : M → Eff} {fM : M → List (Sl K)} {oM : List Nat} (h : ET E sls tt c) (h1 : BJV E sls own t1 m1 EM fM oM EC fL oL) (h2 : BJV E sls own t2 m2 EM fM oM EC fL oL) (n : ∀ s, BJV (EM s) (fM s) oM u (m3 s) EN fN oN EC fL oL) :
    BJV E sls own (tSeq (tIfS tt t1 t2) u) (fun k => c fun b => if b = true then m1 (seqK m3 k) else m2 (seqK m3 k)) EN fN oN EC fL oL := fun O0 H0 G σ H I k hk D q1 q4 =>
  h _ σ H I.sl _ hk _ fun b H2 kb x => by
    cases b with
    | true =>
      rw [if_pos rfl] at kb ⊢
      exact h1 O0 H0 G σ H2 (I.ext x) _ kb { D with nx := u D } (fun s σ' H' ks I' => n s O0 H0 G σ' H' I' k ks D q1 q4) q4
    | false =>
      rw [if_neg Bool.false_ne_true] at kb ⊢
      exact h2 O0 H0 G σ H2 (I.ext x) _ kb { D with nx := u D } (fun s σ' H' ks I' => n s O0 H0 G σ' H' I' k ks D q1 q4) q4
theorem SI.ghostE {O0 : Addr → Prop} {H0 G G' : Hp} {σ : L2.St} {H : Hp} (I : SI E O0 H0 G sls own σ H) (f : Ef G' G) : SI E O0 H0 G' sls own σ H := I.ghost f
theorem vj_for {wi : TI} {g : TG} {tb : TS} {js : List Nat} {rx : R K γ} {cx : PT (List γ)} {body : γ → S → PT (Ctl β S S)} {m : S → PT (Ctl β L N)} {ES : S → Eff} {fS : S → List (Sl K)} {h : S → γ → List (Sl K)} {oS : List Nat} {s0 : S} (hi : IV E sls wi rx cx)
    (e0 : ES s0 = E) (w : Wks oS 0 sls (fS s0)) (ho : ∀ j ∈ oS, j ∈ own) (hg : ∀ s, GT (ES s) (fS s) g rx js (h s)) (hd : ∀ j ∈ oS, j ∉ js) (hb : ∀ s a, BJV (ES s) (h s a) oS tb (body a s) ES fS oS ES fS oS) (n : ∀ s, BJV (ES s) (fS s) oS u (m s) EN fN oN EC fL oL) :
    BJV E sls own (tSeq (tFor wi g tb) u) (fun k => cx fun xs => forC xs s0 body (seqK m k)) EN fN oN EC fL oL := fun O0 H0 G σ H I k hk D q1 q4 =>
  hi _ σ H I.sl _ hk _ fun xs J H2 ka x2 W => by
    have I2 := (I.ext x2)
    have I2' := (I2.wk w ho)
    have le : Ef (hid H2 (OwnOf O0 own σ)) (hid H2 (OwnOf O0 oS σ)) := ef_hid_le (own_le fun j hj => ⟨ho j hj, rfl⟩)
    refine ⟨fun i m' σ3 H3 => m' = xs.length - i ∧ i ≤ xs.length ∧ ∃ s, SI (ES s) O0 H0 (hid H2 (OwnOf O0 oS σ)) (fS s) oS σ3 H3 ∧ forC (xs.drop i) s body (seqK m k), ⟨xs.length, by simp, Nat.zero_le _, s0, by rw [e0]; exact I2'.fresh, by simpa using ka⟩, ?_⟩
    rintro i m' σ3 H3 ⟨rfl, hi', s, I3, kc⟩
    have b3 : Ef (hid H2 (OwnOf O0 own σ)) H3 := (le.trans I3.g).trans ef_un
    by_cases hlt : i < xs.length
    · refine .inr ⟨W.go i H3 hlt b3, fun σ' H' => xs.length - (i + 1) < xs.length - i ∧ ∃ s, SI (ES s) O0 H0 (hid H2 (OwnOf O0 oS σ)) (fS s) oS σ' H' ∧ forC (xs.drop (i + 1)) s body (seqK m k), fun σ' H' ⟨h1, h2⟩ => ⟨xs.length - (i + 1), h1, rfl, hlt, h2⟩, fun v H4 y => ?_⟩
      obtain ⟨ex, a, ea, hv⟩ := W.yld (OwnOf O0 oS σ3) i H3 v H4 hlt b3 I3.sl.od (le.trans I3.g).ew y
      rw [drop_at ea, forC] at kc
      have I4 := I3.ext (.of_ex ex I3.sl.inv)
      refine hg s _ σ3 H4 a v I4.sl hv _ fun σ5 S5 hs h1 h2 => ?_
      refine hb s a O0 H0 _ σ5 H4 (I4.tgt S5 hs h2 hd) _ kc _ (fun s' σ' H' ks I' => ⟨by omega, s', I', ks⟩) (fun s' σ' H' ks I' => ⟨by omega, s', I', ks⟩)
    · have e : i = xs.length := by omega
      subst e
      rw [List.drop_length, forC] at kc
      exact .inl ⟨W.stop H3 b3, n s O0 H0 G σ3 H3 (I3.ghost I2'.g) k kc D q1 q4⟩
/-- found[a][b] = e -/
theorem vj_put {i : Nat} {qs : List Addr} {c : List (List α)} {fl : Flat r} {cv : PT α} {ca cb : PT Int} {m : List (List α) → PT (Ctl β L N)} (h0 : sls[i]? = some (slV (rLst rRef) qs)) (hv : EV (effM E r fl qs c) sls te r cv) (ha : EV (effM E r fl qs c) sls ta rInt ca) (hb : EV (effM E r fl qs c) sls tb rInt cb)
    (n : ∀ c', BJV (effM E r fl qs c') sls own u (m c') EN fN oN EC fL oL) :
    BJV (effM E r fl qs c) sls own (tSeq (tAsg te (gSub (tOp (rIxL K) (tVar i) ta) tb L2.rSetL)) u) (fun k => cv fun v => ca fun a => ∃ row, atI c a = some row ∧ cb fun b => ∃ ia, ixN c.length a = some ia ∧ ∃ ib, ixN row.length b = some ib ∧ m (c.set ia (row.set ib v)) k) EN fN oN EC fL oL := fun O0 H0 G σ H I k hk D q1 q4 => by
  refine hv _ σ H I.sl _ hk _ fun v y H1 kv x1 hy => ?_
  have I1 := I.ext x1
  obtain ⟨w, ew, p, vs, rfl, hr, hp, hl⟩ := I1.sl.val h0
  refine ⟨_, ew, ha _ σ H1 I1.sl _ kv _ fun a z H2 ⟨row, er, ka⟩ x2 hz => ?_⟩
  have I2 := I1.ext x2
  have hr2 := (x2.ex I1.sl.mo).ew.rd _ (.lst vs) True.intro hr
  have hp2 := pmap hp fun _ _ z => (rRef (K := K)).mono (x2.ex I1.sl.mo).ew z
  obtain ⟨nn, q, ws, hn, hq, hat, hw, hpw, hlw, hc⟩ := mat_row I2.sl hp2 er
  refine ⟨p, vs, a, .ref q, rfl, hz, lun (rdL (ew_MO I2.sl.mo) hr2), hat, hb _ σ H2 I2.sl _ ka _ fun b z' H3 ⟨ia, ea, ib, eb, kb⟩ x3 hz' => ?_⟩
  have I3 := I2.ext x3
  obtain ⟨n2, q2, ws2, hn2, hq2, hat2, hw2, hpw2, hlw2, hc2⟩ := mat_row I3.sl (pmap hp2 fun _ _ z => (rRef (K := K)).mono (x3.ex I2.sl.mo).ew z) er
  rw [hn] at hn2
  cases hn2
  rw [hn] at ea
  cases ea
  rw [hq] at hq2
  cases hq2
  exact ⟨q, ws2, b, ib, rfl, hz', hw2, by rw [hpw2.length]; exact eb, n _ O0 H0 G σ _ (I3.putM hq (paired_setV (fl hy) ib hpw2) (by rw [List.length_set]; exact hlw2)) k kb D q1 q4⟩
/-! ### the rows are made -/
def ELM (E : Eff) (sls : List (Sl K)) (te : TE) (r : R K α) (c : PT (List (List α))) : Prop := ∀ O σ H, SL O E sls σ H → ∀ k : List (List α) → Prop, c k → ∀ Q : VK,
  (∀ cc p qs H2, k cc → XX E H H2 → H p = none → H2 p = some (.lst (qs.map V.ref)) → p ∉ qs → qs.Nodup → (∀ q ∈ qs, H q = none) → RowsAt r qs cc H2 → qs.length ≤ big → Q (.ref p) H2) → te σ H Q
theorem rows_snoc {qs : List Addr} {c : List (List α)} {H : Hp} {q : Addr} {row : List α} (h : RowsAt r qs c H) (h' : ∃ vs, H q = some (.lst vs) ∧ Paired (r.rp H) vs row ∧ vs.length ≤ big) : RowsAt r (qs ++ [q]) (c ++ [row]) H := pair_snoc h h'
theorem el_lcM {wi : TI} {g : TG} {vs js : List Nat} {rx : R K γ} {cx : PT (List γ)} {h : γ → List (Sl K)} {fe : γ → PT (List α)} (fl : Flat r)
    (hi : IR E sls wi rx cx) (hg : GT E (wipeS sls vs) g rx js h) (hj : ∀ j ∈ js, j ∈ vs) (he : ∀ a, EL E (h a) te r (fe a)) :
    ELM E sls (tLc wi g tYes te vs) r (fun k => cx fun xs => compT xs (fun _ k => k true) fe k) := fun O σ H S k hk Q q =>
  hi _ σ H S _ hk _ fun xs J H2 ka x2 w D nD => by
    have S2 := S.ext x2
    have nDO : ¬ O D := S2.nOn nD
    have nDM : ¬ E.M D := fun z => nDO (S2.mo D z)
    have mo : ∀ a, E.M a → wD O D a := fun a h => .inl (S2.mo a h)
    have nM : ∀ q, H q = none → ¬ E.M q := fun q hq z => S.nOn hq (S.mo q z)
    refine ⟨fun i m H3 => m = xs.length - i ∧ i ≤ xs.length ∧ XX E H2 H3 ∧ ∃ qs ys, H3 D = some (.lst (qs.map V.ref)) ∧ D ∉ qs ∧ qs.Nodup ∧ (∀ q ∈ qs, H q = none) ∧ RowsAt r qs ys H3 ∧ ys.length ≤ i ∧ compT (xs.drop i) (fun _ k => k true) fe fun zs => k (ys ++ zs), ⟨xs.length, by simp, Nat.zero_le _, (S2.new nD).1, [], [], upd_same, by simp, by simp, by simp, .nil, Nat.le_refl _, by simpa using ka⟩, ?_⟩
    rintro i m H3 ⟨rfl, hi, x3, qs, ys, hD, hDq, hnd, hqn, hrw, hys, kc⟩
    have S3 := S2.withD nD x3 ⟨_, hD, fun _ z => by cases z⟩
    by_cases hlt : i < xs.length
    · refine .inr ⟨w.go i H3 hlt (ew_un x3.1), fun H' => xs.length - (i + 1) < xs.length - i ∧ XX E H2 H' ∧ ∃ qs ys, H' D = some (.lst (qs.map V.ref)) ∧ D ∉ qs ∧ qs.Nodup ∧ (∀ q ∈ qs, H q = none) ∧ RowsAt r qs ys H' ∧ ys.length ≤ i + 1 ∧ compT (xs.drop (i + 1)) (fun _ k => k true) fe fun zs => k (ys ++ zs), fun H' ⟨h1, h2, h3⟩ => ⟨xs.length - (i + 1), h1, rfl, hlt, h2, h3⟩, fun v H4 y => ?_⟩
      obtain ⟨ex, a, ea, hv⟩ := w.yld (wD O D) i H3 v H4 hlt (ew_un x3.1) S3.od (by rw [← hid_wD nD]; exact (x3.ex mo).ew) y
      rw [drop_at ea, compT_cons] at kc
      have x4 : XX E H3 H4 := .of_ex ex S3.inv
      have S4 := S3.ext x4
      have keep : ∀ {Ha Hb : Hp}, XX E Ha Hb → RowsAt r qs ys Ha → RowsAt r qs ys Hb := fun x hr => hr.eq fl fun q hq => by
        obtain ⟨ws, e⟩ := hr.at' hq
        rw [e]; exact x.keep e (nM q (hqn q hq))
      have r4 := keep x4 hrw
      refine hg _ (wipe σ vs) H4 a v (S4.wipe vs) hv _ fun σ5 S5 _ h1 h2 => ⟨?_, ?_⟩
      · rw [h1 vs hj, wipe_wipe σ vs vs fun _ z => z]
      refine et_yes _ σ5 H4 S5 (fun b => if b = true then fe a fun y => compT (xs.drop (i + 1)) (fun _ k => k true) fe fun zs => k (ys ++ y :: zs) else compT (xs.drop (i + 1)) (fun _ k => k true) fe fun zs => k (ys ++ zs)) kc _ fun b H5 kb x5 => ?_
      have r5 := keep x5 r4
      have hD5 := x5.keep (x4.keep hD nDM) nDM
      cases b with
      | false =>
        rw [if_neg Bool.false_ne_true] at kb ⊢
        exact ⟨by omega, (x3.trans x4).trans x5, qs, ys, hD5, hDq, hnd, hqn, r5, Nat.le_succ_of_le hys, kb⟩
      | true =>
        rw [if_pos rfl] at kb ⊢
        refine he a _ σ5 H5 (S5.ext x5) _ kb _ fun z p' vs' H6 kz x6 np hp' hpr hpl => ?_
        have hD6 := x6.keep hD5 nDM
        have x26 := ((x3.trans x4).trans x5).trans x6
        have r6 := keep x6 r5
        have al : qs.length = ys.length := hrw.length
        have wl : xs.length ≤ 100000 := w.len
        have ne : p' ≠ D := fun e => by rw [e, hD5] at np; cases np
        have npq : p' ∉ qs := fun hq => by
          obtain ⟨ws, e⟩ := r5.at' hq
          rw [np] at e; cases e
        have nH : H p' = none := by
          have a1 := x5.back np
          have a2 := x4.back a1
          have a3 := x3.back a2
          exact x2.back a3
        refine ⟨_, hD6, lt_line (show (qs.map V.ref).length < 100000 by rw [List.length_map]; omega), by omega, x26.put nD nDM (fun φ z => by rw [hD6] at z; cases z), qs ++ [p'], ys ++ [z], by rw [List.map_append]; exact upd_same, ?_, ?_, ?_, ?_, by simp; omega, by simpa using kz⟩
        · intro hm
          rcases List.mem_append.mp hm with hm | hm
          · exact hDq hm
          · exact ne (List.mem_singleton.mp hm).symm
        · rw [List.nodup_append]
          exact ⟨hnd, by simp, fun a ha b hb e => npq (by rw [List.mem_singleton.mp hb] at e; rw [← e]; exact ha)⟩
        · intro q' hq'
          rcases List.mem_append.mp hq' with hq' | hq'
          · exact hqn q' hq'
          · rw [List.mem_singleton.mp hq']; exact nH
        · refine RowsAt.eq fl (rows_snoc r6 ⟨vs', hp', pmap hpr fun _ _ z => fl z, hpl⟩) fun q' hq' => upd_ne fun e => ?_
          rcases List.mem_append.mp hq' with hq' | hq'
          · exact hDq (by rw [← e]; exact hq')
          · exact ne (by rw [← e]; exact (List.mem_singleton.mp hq').symm)
    · have e : i = xs.length := by omega
      subst e
      rw [List.drop_length, compT_nil, List.append_nil] at kc
      exact .inl ⟨w.stop H3 (ew_un x3.1), q ys D qs H3 kc (x2.trans x3) (x2.back nD) hD hDq hnd hqn hrw (by have : qs.length = ys.length := hrw.length; have := w.len; omega)⟩
def seqE {β L N M : Type} (f : M → PT (Ctl β L N)) (k : Ctl β L N → Prop) : Ctl β Empty M → Prop
  | .nx s => f s k
  | .rt b => k (.rt b)
  | .bk l => nomatch l
  | .ct l => nomatch l
def Pg.seqEG {β L N M : Type} (m : M → Pg (Ctl β L N)) (c : Ctl β Empty M) : Pg (Ctl β L N) := ⟨fun k => seqE (fun s => (m s).wp) k c, fun h q => by
  cases c with
  | nx s => exact (m s).mono h q
  | rt b => exact h _ q
  | bk l => exact nomatch l
  | ct l => exact nomatch l⟩
abbrev noE : Empty → Eff := fun e => nomatch e
/-- found = [[..] ..], the statements that write into it, and what follows -/
theorem bj_mat {i : Nat} {sl0 : List (Sl K)} {oM : List Nat} {cx : PT (List (List α))} {t1 : TS} {m1 : List (List α) → PT (Ctl β Empty (List (List α)))} {m2 : List (List α) → PT (Ctl β L N)} {rr : R K β} {fL : L → List (Sl K)} (fl : Flat r) (h : ELM E sls te r cx)
    (hs : i < sls.length) (hi : i < sl0.length) (h1 : ∀ qs c, BJV (effM E r fl qs c) (sls.set i (slV (rLst rRef) qs)) (rmv own i) t1 (m1 c) (fun c' => effM E r fl qs c') (fun _ => sl0.set i (slV (rLst rRef) qs)) oM noE noL [])
    (h2 : ∀ c, BJ E (sl0.set i (slV (rLst (rLst r)) c)) (rmv oM i) u (m2 c) rr fN oN fL oL) :
    BJ E sls own (tSeq (tAsg te (gName i)) (tSeq t1 u)) (fun k => cx fun c => m1 c (seqE m2 k)) rr fN oN fL oL := fun O0 H0 G σ H I k hk D q1 q2 q3 q4 => by
  refine h _ σ H I.sl _ hk _ fun c p qs H2 kc x np hp hpq hnd hqn hrw hl => ?_
  obtain ⟨J, A⟩ := I.enter fl x hqn hrw hnd
  have nO : ¬ OwnOf (fun a => O0 a ∨ a ∈ qs) own σ p := fun z => by
    rcases z with (z | z) | z
    · exact I.sl.nOn np (.inl z)
    · exact hpq z
    · exact I.sl.nOn np (.inr z)
  have refs : ∀ (F : Hp) (l : List Addr), Paired ((rRef (K := K)).rp F) (l.map V.ref) l := fun F l => by
    induction l with
    | nil => exact .nil
    | cons a l ih => exact .cons rfl ih
  have hv : (rLst rRef).rp (hid H2 (OwnOf (fun a => O0 a ∨ a ∈ qs) own σ)) (.ref p) qs := ⟨p, _, rfl, .inl (by rw [hid_out nO]; exact hp), refs _ qs, by rw [List.length_map]; exact hl⟩
  have J2 := J.set (i := i) hv
  refine h1 qs c _ H0 G _ H2 J2 _ kc { D with nx := u D } (fun c' σ' H' ks J' => ?_) (fun l => nomatch l)
  have I' := J'.leave A (by rw [List.getElem?_set_self hi])
  rw [List.set_set] at I'
  exact h2 c' O0 H0 G σ' H' I' k ks D q1 q2 q3 q4
end
end Nz
namespace Nz
open PySem L2
section
variable {K : PySem.W.Frag} {E : Eff} {sls : List (Sl K)} {α β L N : Type} {te : TE} {r : R K α} {own : List Nat} {u f1 f2 : TS} {fN : N → List (Sl K)} {oN : List Nat} {oL : List Nat}
theorem bj_mat1 {i : Nat} {sl0 : List (Sl K)} {oM : List Nat} {cx : PT (List (List α))} {m1 : List (List α) → PT (Ctl β Empty (List (List α)))} {m2 : List (List α) → PT (Ctl β L N)} {rr : R K β} {fL : L → List (Sl K)} (fl : Flat r) (h : ELM E sls te r cx)
    (hs : i < sls.length) (hi : i < sl0.length) (h1 : ∀ qs c, BJV (effM E r fl qs c) (sls.set i (slV (rLst rRef) qs)) (rmv own i) (tSeq f1 tNext) (m1 c) (fun c' => effM E r fl qs c') (fun _ => sl0.set i (slV (rLst rRef) qs)) oM noE noL [])
    (h2 : ∀ c, BJ E (sl0.set i (slV (rLst (rLst r)) c)) (rmv oM i) u (m2 c) rr fN oN fL oL) :
    BJ E sls own (tSeq (tAsg te (gName i)) (tSeq f1 u)) (fun k => cx fun c => m1 c (seqE m2 k)) rr fN oN fL oL := bj_mat (t1 := tSeq f1 tNext) fl h hs hi h1 h2
theorem bj_mat2 {i : Nat} {sl0 : List (Sl K)} {oM : List Nat} {cx : PT (List (List α))} {m1 : List (List α) → PT (Ctl β Empty (List (List α)))} {m2 : List (List α) → PT (Ctl β L N)} {rr : R K β} {fL : L → List (Sl K)} (fl : Flat r) (h : ELM E sls te r cx)
    (hs : i < sls.length) (hi : i < sl0.length) (h1 : ∀ qs c, BJV (effM E r fl qs c) (sls.set i (slV (rLst rRef) qs)) (rmv own i) (tSeq f1 (tSeq f2 tNext)) (m1 c) (fun c' => effM E r fl qs c') (fun _ => sl0.set i (slV (rLst rRef) qs)) oM noE noL [])
    (h2 : ∀ c, BJ E (sl0.set i (slV (rLst (rLst r)) c)) (rmv oM i) u (m2 c) rr fN oN fL oL) :
    BJ E sls own (tSeq (tAsg te (gName i)) (tSeq f1 (tSeq f2 u))) (fun k => cx fun c => m1 c (seqE m2 k)) rr fN oN fL oL := bj_mat (t1 := tSeq f1 (tSeq f2 tNext)) fl h hs hi h1 h2
end
end Nz

/-! Nz23: sorted of data, slices backward, index, min of a tuple, chains of three. -/
namespace HT
open PySem PySem.Spec PyProof.Rows
section
variable {prog : Program} {w : World} {A : Around} {E : Value → Shared → Prop} {s : Shared}
theorem rev_applied {sl : Addr} {vs : Value} {n : Nat} {Q : Int × Int × Nat → Shared → Prop} (hs : s.heap.IsSliceOf sl .none .none vs) (ps : IsPart vs (some (-1)))
    (h : Q ((n : Int) - 1, -1, n) s) : wpAny (model prog w) A (Builtin.Slice.sliceApplied (.ref sl) (pure (n : Int))) Q E s := by
  obtain ⟨os, hos, hcs, hds⟩ := id hs
  unfold Builtin.Slice.sliceApplied Builtin.Slice.sliceFields
  refine wpAny_bind (wpAny_bind (wpAny_field hos hds (x := .none) rfl (wpAny_bind (wpAny_field hos hds (x := .none) rfl (wpAny_bind (wpAny_field hos hds (x := vs) rfl (wpAny_pure ?_)))))))
  refine wpAny_bind (slicePart_ ps ?_)
  show wpAny _ _ (if ((-1 : Int) == 0) = true then _ else _) _ _ s
  rw [if_neg (by decide)]
  refine wpAny_bind (slicePart_none (wpAny_bind (slicePart_none (wpAny_bind (wpAny_pure ?_)))))
  have e : Builtin.Slice.sliceAdjust none none (-1) (n : Int) = ((n : Int) - 1, -1) := rfl
  show wpAny _ _ (match Builtin.Slice.sliceAdjust none none (-1) (n : Int) with | (lo, hi) => pure (lo, (-1 : Int), Builtin.Slice.slicePlaces lo hi (-1))) _ _ s
  rw [e]
  show wpAny _ _ (pure ((n : Int) - 1, (-1 : Int), Builtin.Slice.slicePlaces ((n : Int) - 1) (-1) (-1))) _ _ s
  have e2 : Builtin.Slice.slicePlaces ((n : Int) - 1) (-1) (-1) = n := by
    unfold Builtin.Slice.slicePlaces
    have h1 : ¬ ((-1 : Int) > 0) := by omega
    simp only [h1, if_false]
    split
    · have : ((n : Int) - 1 - -1 - 1) / - -1 + 1 = (n : Int) := by
        rw [show (- -1 : Int) = 1 by decide, Int.ediv_one]
        omega
      omega
    · omega
  rw [e2]
  exact wpAny_pure h
theorem filterMap_some {α β : Type} {f : α → Option β} {g : α → β} : ∀ l : List α, (∀ x ∈ l, f x = some (g x)) → l.filterMap f = l.map g
  | [], _ => rfl
  | x :: l, h => by
    rw [List.filterMap_cons, h x List.mem_cons_self, List.map_cons, filterMap_some l fun y hy => h y (List.mem_cons_of_mem _ hy)]
theorem getItem_tuple_rev {t sl : Addr} {items : Array Value} {vs : Value} {Q : Value → Shared → Prop} (ht : IsTup s.heap t items) (hs : s.heap.IsSliceOf sl .none .none vs) (ps : IsPart vs (some (-1)))
    (h : Q (.ref s.heap.objs.size) { s with heap := s.heap.push { cls := .type "tuple", data := .seq items.toList.reverse.toArray } })
    (hsz : items.size ≤ sizeLine) : wpAny (model prog w) A (getItem (.ref t) (.ref sl)) Q E s := by
  have htake : sizeOk (.seq items.toList.reverse.toArray) := by
    show items.toList.reverse.toArray.size ≤ sizeLine
    rw [List.size_toArray, List.length_reverse, Array.length_toList]
    exact hsz
  obtain ⟨os, hos, hcs, hds⟩ := id hs
  have hTs : s.TypeIs (.ref sl) "slice" := ⟨os, hos, hcs⟩
  unfold getItem
  try with_reducible refine wpAny_holding ?_
  first | refine wpAny_bind (wpAny_pure ?_) | skip
  refine wpAny_bind (wpAny_sequenceKey ht.typeIs (by decide) ?_)
  refine wpAny_bind (wpAny_callSpecial?_slot (name := Str.ofString "__getitem__") ht.typeIs PyProof.Rows.slot_tuple_getitem
    (wpAny_call_entry PyProof.Rows.slot_tuple_getitem ht.typeIs entry_tuple_getitem ?_ (args_tuple_getitem _ _)))
  show wpAny _ _ (Builtin.Tuple.tupleItemsOf (.ref t) >>= _) _ _ s
  refine wpAny_bind (tupleItemsOf_ ht ?_)
  refine wpAny_bind (wpAny_typeOf hTs ?_)
  rw [if_pos (by decide)]
  refine wpAny_bind (rev_applied hs ps ?_)
  have hno : ¬ ((((items.size : Int) - 1) == 0 && (-1 : Int) == 1 && items.size == items.size) = true) := by
    intro q
    rw [Bool.and_eq_true, Bool.and_eq_true] at q
    exact absurd q.1.2 (by decide)
  have hpick : ((List.range items.size).filterMap fun (m : Nat) => items[((items.size : Int) - 1 + (m : Int) * (-1)).toNat]?).toArray = items.toList.reverse.toArray := by
    congr 1
    have e : ((List.range items.size).filterMap fun (m : Nat) => items[((items.size : Int) - 1 + (m : Int) * (-1)).toNat]?) = (List.range items.size).map fun m => items.toList.reverse.getD m .none := by
      refine filterMap_some _ fun m hm => ?_
      have hm := List.mem_range.mp hm
      have e1 : ((items.size : Int) - 1 + (m : Int) * (-1)).toNat = items.size - 1 - m := by omega
      rw [e1]
      have h3 : items.size - 1 - m < items.size := by omega
      rw [Array.getElem?_eq_getElem h3]
      show _ = some _
      congr 1
      rw [List.getD_eq_getElem?_getD, List.getElem?_reverse (by rw [Array.length_toList]; exact hm), Array.length_toList, Array.getElem?_toList, Array.getElem?_eq_getElem h3]
      rfl
    rw [e]
    apply List.ext_getElem
    · simp
    · intro i h1 h2
      rw [List.getElem_map, List.getElem_range, List.getD_eq_getElem?_getD, List.getElem?_eq_getElem h2]
      rfl
  show wpAny _ _ (if (((items.size : Int) - 1) == 0 && (-1 : Int) == 1 && items.size == items.size) = true then _ else _) _ _ s
  rw [if_neg hno, hpick]
  first
    | exact wpAny_bind (m := Builtin.Tuple.tupleExact _) (wpAny_newObj_type (wpAny_pure ⟨_, rfl, wpAny_pure h⟩) htake)
    | exact wpAny_bind (m := Builtin.Tuple.tupleExact _) (wpAny_newObj_type (wpAny_bind (wpAny_pure (wpAny_pure ⟨_, rfl, wpAny_pure h⟩))) htake)
    | exact wpAny_bind (wpAny_bind (m := Builtin.Tuple.tupleExact _) (wpAny_newObj_type (wpAny_pure (wpAny_pure ⟨_, rfl, wpAny_pure h⟩)) htake))
    | exact wpAny_bind (wpAny_bind (m := Builtin.Tuple.tupleExact _) (wpAny_newObj_type (wpAny_pure ⟨_, rfl, wpAny_pure h⟩) htake))
end
end HT
namespace Nz
open PySem PySem.Spec PyProof.Rows L2
section
variable {X : Cx}
/-- t[::-1] -/
def tRevT (K : PySem.W.Frag) (te : TE) : TE := fun σ H Q => te σ H fun x H1 => ∃ a xs, x = .ref a ∧ SqT K H1 a xs ∧ ∀ p, H1 p = none → Q (.ref p) (upd H1 p (.tup xs.reverse))
theorem pe_revT {e : Expr} {te : TE} {k : Nat} {p1 p2 p3 pos : Pos} (he : PE X e te) : PE X (.Subscript e (.Slice none none (some (.UnaryOp .USub (.Constant (.int 1) k p1) p2)) p3) pos) (tRevT X.K te) := by
  refine ⟨fun pins s σ H Q I h => ?_⟩
  refine Subscript_ (thn (he.run pins s σ H _ I h) fun v s1 ⟨x, H1, I1, r1, q1⟩ => ?_)
  obtain ⟨a, xs, ex, hx, q⟩ := q1
  subst ex
  cases r1
  have hst : PO X (some (.UnaryOp .USub (.Constant (.int 1) k p1) p2)) (tPart (tUn (rU fun i => .int (-i)) (tC (.int 1)))) := po_some (pe_un un_neg pe_int)
  refine wpAny_Slice (thn (po_none.run pins s1 σ H1 (fun o H2 => o = none ∧ H2 = H1) I1 ⟨rfl, rfl⟩) fun vl s2 ⟨l, H2, I2, pl, el, e2⟩ => ?_)
  subst el e2
  refine thn (po_none.run pins s2 σ H2 (fun o H3 => o = none ∧ H3 = H2) I2 ⟨rfl, rfl⟩) fun vu s3 ⟨u, H3, I3, pu, eu, e3⟩ => ?_
  subst eu e3
  refine thn (hst.run pins s3 σ H3 (fun o H4 => o = some (-1) ∧ H4 = H3) I3 ⟨1, rfl, -1, rfl, rfl, rfl⟩) fun vs s4 ⟨o, H4, I4, ps, eo, e4⟩ => ?_
  subst eo e4
  cases pl
  cases pu
  have I5 : Inv X pins σ H4 { s4 with heap := s4.heap.push { cls := .type "slice", data := .fields #[.none, .none, vs] } } := I4.kept (t' := s4.toks) fun b ob q => Heap.get?_push_of_some _ q
  obtain ⟨its, r, ht, hz⟩ := I5.tuple hx
  have hlen := r.length
  show wpAny (model X.prog X.w) X.A (subscriptTail e (.Slice none none (some (.UnaryOp .USub (.Constant (.int 1) k p1) p2)) p3) (.ref a) (.ref s4.heap.objs.size)) (EP X pins σ Q) X.xe { s4 with heap := s4.heap.push { cls := .type "slice", data := .fields #[.none, .none, vs] } }
  refine tail_any (ops := [.ref a, .ref s4.heap.objs.size]) ht.typeIs (PyProof.Rows.slot_tuple_getitem.lookup) ?_ (by with_unfolding_all rfl)
  refine HT.getItem_tuple_rev ht (Heap.IsSliceOf.new _ .none .none vs) ps ?_ (by rw [List.size_toArray]; omega)
  refine ⟨.ref _, _, I5.laid (t' := s4.toks) (o := .tup xs.reverse) (fun b ob q => Heap.get?_push_of_some _ q) (Nat.le_refl _) ?_, rfl, q _ (I5.hok.fresh (Nat.le_refl _))⟩
  exact ⟨by rw [List.length_reverse]; exact hz, _, r.reverse, IsTup.new _ _⟩
theorem pe_revTK (K : PySem.W.Frag) {e : Expr} {te : TE} {k : Nat} {p1 p2 p3 pos : Pos} (he : PE X e te) (h : X.K = K := by rfl) : PE X (.Subscript e (.Slice none none (some (.UnaryOp .USub (.Constant (.int 1) k p1) p2)) p3) pos) (tRevT K te) := h ▸ pe_revT he
theorem pe_revLK (K : PySem.W.Frag) {e : Expr} {te : TE} {k : Nat} {p1 p2 p3 pos : Pos} (he : PE X e te) (h : X.K = K := by rfl) : PE X (.Subscript e (.Slice none none (some (.UnaryOp .USub (.Constant (.int 1) k p1) p2)) p3) pos) (tRevL K te) := h ▸ pe_revL he
/-- sorted of data -/
def rSortD (K : PySem.W.Frag) : List V → Hp → VK → Prop := fun vs H Q => ∃ (a : Addr) (bs : List (V × PyData)), vs = [.ref a] ∧ SqL K H a (bs.map (·.1)) ∧ (∀ b ∈ bs, Dp K H b.1 b.2 ∧ b.2.depth ≤ 60) ∧ PySem.W.AllAlike (bs.map (·.2)) ∧ PySem.W.Sortable (bs.map (·.2)) ∧
  ∀ p, H p = none → Q (.ref p) (upd H p (.lst ((bs.mergeSort (PySem.W.dataLe false (·.2))).map (·.1))))
theorem eachD {K : PySem.W.Frag} {H : Hp} : ∀ {bs : List (V × PyData)} {us : List Value}, Vals (bs.map (·.1)) us → PySem.W.EachIs (fun u b => RelV b.1 u) us bs
  | [], _, r => by cases r; exact .nil
  | b :: bs, _, r => by
    cases r with
    | cons h1 h2 => exact .cons h1 (eachD (K := K) (H := H) h2)
theorem eachR {pins : List (Addr × Obj)} {σ : L2.St} {H : Hp} {s : Shared} (I : Inv X pins σ H s) : ∀ {bs : List (V × PyData)} {us : List Value}, Vals (bs.map (·.1)) us → (∀ b ∈ bs, Dp X.K H b.1 b.2) → PySem.W.EachIs (fun u b => ∃ as, Reads s.heap u b.2 as) us bs
  | [], _, r, _ => by cases r; exact .nil
  | b :: bs, _, r, h => by
    cases r with
    | cons h1 h2 => exact .cons (Dp.reads I _ _ _ (h b List.mem_cons_self) h1) (eachR I h2 fun b hb => h b (List.mem_cons_of_mem _ hb))
theorem valsD : ∀ {us : List Value} {bs : List (V × PyData)}, PySem.W.EachIs (fun u b => RelV b.1 u) us bs → Vals (bs.map (·.1)) us
  | _, _, .nil => .nil
  | _, _, .cons h t => .cons h (valsD t)
theorem cr_sortD (hu : X.A.units + 64 < cLine) : CallR X (.builtin "sorted") (rSortD X.K) := by
  intro pins s σ H vs us Q I r h
  obtain ⟨a, bs, rfl, hs, hd, hal, hk, q⟩ := h
  obtain ⟨its, rv, hl, hz⟩ := I.list hs
  rw [Vals.ref1 r]
  have hlen : bs.length = its.length := by
    have := rv.length
    rwa [List.length_map] at this
  refine PySem.W.sorted_data (β := V × PyData) (R := fun u b => RelV b.1 u) (enc := fun b => b.2) (vs := its) hl.isList (eachD (K := X.K) (H := H) rv) (eachR I rv fun b hb => (hd b hb).1) hal hk (by simpa using hz) (fun b hb => by have := (hd b hb).2; omega) fun out ho each => ?_
  obtain ⟨ep, he'⟩ := PyProof.Rows.sortedAll_at s.heap its out.toArray
  have vs2 := valsD each
  refine ⟨.ref _, upd H (s.heap.objs.size + 1) (.lst ((bs.mergeSort (PySem.W.dataLe false (·.2))).map (·.1))), I.laid (t' := s.toks) (fun _ _ => PyProof.Rows.sortedAll_old) (Nat.le_succ _) ⟨?_, out, ep, vs2, he'⟩, rfl, q _ (I.hok.fresh (Nat.le_succ _))⟩
  rw [vs2.length, ho]
  simpa using hz
theorem cr_sortDK (K : PySem.W.Frag) (hu : X.A.units + 64 < cLine) (h : X.K = K := by rfl) : CallR X (.builtin "sorted") (rSortD K) := h ▸ cr_sortD hu
/-- min of a tuple of ints -/
def rMinTI (K : PySem.W.Frag) : List V → Hp → VK → Prop := fun vs H Q => ∃ (a : Addr) (n : Int) (ns : List Int), vs = [.ref a] ∧ SqT K H a ((n :: ns).map V.int) ∧ Q (.int (ns.foldl min n)) H
theorem cr_minTI (hc : X.calm = true) (hu : X.A.units + 64 < cLine) : CallR X (.builtin "min") (rMinTI X.K) := by
  intro pins s σ H vs us Q I r h
  obtain ⟨a, n, ns, rfl, hs, q⟩ := h
  obtain ⟨its, rv, ht, hz⟩ := I.tuple hs
  rw [Vals.ref1 r]
  have rd : ∀ {ms : List Int} {us : List Value}, Vals (ms.map V.int) us → ReadsAll s.heap us (ms.map PyData.int) [] := by
    intro ms
    induction ms with
    | nil => intro us r; cases r; exact .nil
    | cons m ms ih =>
      intro us r
      rw [List.map_cons] at r
      cases r with
      | cons h1 h2 =>
        obtain ⟨t, rfl⟩ := h1
        exact .cons (.int m t) (ih h2)
  have e0 : ∀ ms : List Int, PyData.depthAll (ms.map PyData.int) = 0 := fun ms => by
    induction ms with
    | nil => rfl
    | cons m ms ih => rw [List.map_cons, PyData.depthAll, ih]; rfl
  refine PySem.W.min_tuple_data (x := .int n) (xs := ns.map .int) (I.ok.hd hc) (show s.heap.IsTuple a its.toArray from ht) (by have := rd (ms := n :: ns) rv; simpa using this) ⟨fun x hx y hy => ?_, fun x hx => ?_⟩ (by have := e0 (n :: ns); rw [List.map_cons] at this; rw [this]; omega) fun i v h' tk bs hv hr hk => ?_
  · have cx : ∃ m, x = .int m := by
      have : x ∈ (n :: ns).map PyData.int := hx
      obtain ⟨m, _, e⟩ := List.mem_map.mp this
      exact ⟨m, e.symm⟩
    have cy : ∃ m, y = .int m := by
      have : y ∈ (n :: ns).map PyData.int := hy
      obtain ⟨m, _, e⟩ := List.mem_map.mp this
      exact ⟨m, e.symm⟩
    obtain ⟨m, rfl⟩ := cx
    obtain ⟨m', rfl⟩ := cy
    simp [PySem.W.alike]
  · have : x ∈ (n :: ns).map PyData.int := hx
    obtain ⟨m, _, e⟩ := List.mem_map.mp this
    rw [← e]
    simp
  · rw [PySem.W.minD_ints] at hr
    cases hr
    exact ⟨.int _, H, I.kept hk, ⟨_, rfl⟩, q⟩
theorem cr_minTIK (K : PySem.W.Frag) (hu : X.A.units + 64 < cLine) (h : X.K = K := by rfl) (hc : X.calm = true := by rfl) : CallR X (.builtin "min") (rMinTI K) := h ▸ cr_minTI hc hu
theorem call_min2K (hc : X.calm = true := by rfl) : CallR X (.builtin "min") (fun xs H Q => ∃ i j, xs = [.int i, .int j] ∧ Q (.int (if j < i then j else i)) H) := call_min2 hc
theorem call_max2K (hc : X.calm = true := by rfl) : CallR X (.builtin "max") (fun xs H Q => ∃ i j, xs = [.int i, .int j] ∧ Q (.int (if j > i then j else i)) H) := call_max2 hc
/-- a op b op c op d -/
def tChain3 (r r' r2 : R2) (ta tb tc td : TE) : TE := fun σ H Q => ta σ H fun x H1 => tb σ H1 fun y H2 => r x y H2 fun z H3 => ∃ k, z = .bl k ∧
  (if k = true then tc σ H3 fun w' H4 => r' y w' H4 fun z2 H5 => ∃ k2, z2 = .bl k2 ∧ (if k2 = true then td σ H5 fun u H6 => r2 w' u H6 Q else Q (.bl false) H5) else Q (.bl false) H3)
theorem pe_chain3 {a b c d : Expr} {ta tb tc td : TE} {op op' op2 : CmpOp} {r r' r2 : R2} {pos : Pos} (ho : OpR X (compareOp op) r) (ho' : OpR X (compareOp op') r') (ho2 : OpR X (compareOp op2) r2) (ha : PE X a ta) (hb : PE X b tb) (hc : PE X c tc) (hd : PE X d td)
    (hm : lastMarks [op, op', op2] [b, c, d] = false := by with_unfolding_all rfl) : PE X (.Compare a [op, op', op2] [b, c, d] pos) (tChain3 r r' r2 ta tb tc td) := by
  refine ⟨fun pins s σ H Q I h => ?_⟩
  refine Compare_chain (thn (ha.run pins s σ H _ I h) fun v s1 ⟨x, H1, I1, r1, q1⟩ => chain_link (thn (hb.run pins s1 σ H1 _ I1 q1) fun u s2 ⟨y, H2, I2, r2, q2⟩ =>
    thn (ho pins s2 σ H2 x y v u _ I2 r1 r2 q2) fun d' s3 ⟨z, H3, I3, r3, k, e, q3⟩ => ?_)) hm
  subst e
  cases r3
  refine wpAny_truthy_bool ?_
  cases k with
  | false => exact ite_ff ⟨.bl false, H3, I3, rfl, q3⟩
  | true =>
    refine ite_tt (chain_link (thn (hc.run pins s3 σ H3 _ I3 q3) fun w' s4 ⟨z', H4, I4, r4, q4⟩ => thn (ho' pins s4 σ H4 y z' u w' _ I4 r2 r4 q4) fun d2 s5 ⟨z2, H5, I5, r5, k2, e2, q5⟩ => ?_))
    subst e2
    cases r5
    refine wpAny_truthy_bool ?_
    cases k2 with
    | false => exact ite_ff ⟨.bl false, H5, I5, rfl, q5⟩
    | true => exact ite_tt (chain_last (thn (hd.run pins s5 σ H5 _ I5 q5) fun w2 s6 ⟨z3, H6, I6, r6, q6⟩ => ho2 pins s6 σ H6 z' z3 w' w2 Q I6 r4 r6 q6))
end
section
variable {K : PySem.W.Frag} {E : Eff} {sls : List (Sl K)} {α β : Type} {te ta tb tc td : TE} {r : R K α}
theorem paired_rev {γ δ : Type} {F : γ → δ → Prop} : ∀ {l₁ : List γ} {l₂ : List δ}, Paired F l₁ l₂ → Paired F l₁.reverse l₂.reverse
  | _, _, .nil => .nil
  | _, _, .cons h t => by
    rw [List.reverse_cons, List.reverse_cons]
    exact pair_snoc (paired_rev t) h
theorem minL_fold : ∀ (n : Int) (ns : List Int), ns.foldl min n = minL (n :: ns) := by
  have key : ∀ (ns : List Int) (a b : Int), ns.foldl min (min a b) = min a (ns.foldl min b) := by
    intro ns
    induction ns with
    | nil => intro a b; rfl
    | cons m ns ih => intro a b; rw [List.foldl_cons, List.foldl_cons, Int.min_assoc, ih]
  intro n ns
  induction ns generalizing n with
  | nil => rfl
  | cons m ns ih =>
    rw [List.foldl_cons, key, ih]
    rfl
theorem ev_chain3 {g g' g2 : Int → Int → Bool} {c d e f : PT Int} (ha : EV E sls ta rInt c) (hb : EV E sls tb rInt d) (hc : EV E sls tc rInt e) (hd : EV E sls td rInt f) :
    EV E sls (tChain3 (rI0 fun i j => .bl (g i j)) (rI0 fun i j => .bl (g' i j)) (rI0 fun i j => .bl (g2 i j)) ta tb tc td) rBl (fun k => c fun a => d fun b => if g a b = true then e fun z => if g' b z = true then f fun w => k (g2 z w) else k false else k false) := fun O σ H S k hk Q q =>
  ha _ σ H S _ hk _ fun a x H1 ka x1 hx => hb _ σ H1 (S.ext x1) _ ka _ fun b y H2 kb x2 hy => by
    refine ⟨a, b, hx, hy, g a b, rfl, ?_⟩
    have S2 := (S.ext x1).ext x2
    cases h : g a b with
    | false =>
      rw [h] at kb
      exact q _ _ H2 kb (x1.trans x2) rfl
    | true =>
      rw [h] at kb
      refine hc _ σ H2 S2 _ kb _ fun z w H3 kz x3 hz => ⟨b, z, hy, hz, g' b z, rfl, ?_⟩
      have S3 := S2.ext x3
      cases h' : g' b z with
      | false =>
        rw [h'] at kz
        exact q _ _ H3 kz ((x1.trans x2).trans x3) rfl
      | true =>
        rw [h'] at kz
        exact hd _ σ H3 S3 _ kz _ fun w' v' H4 kw x4 hw => ⟨z, w', hz, hw, q _ _ H4 kw (((x1.trans x2).trans x3).trans x4) rfl⟩
theorem el_revL {c : PT (List α)} (h : ERl E sls te r c) : EL E sls (tRevL K te) r (fun k => c fun xs => k xs.reverse) := fun O σ H S k hk Q q =>
  h _ σ H S _ hk _ fun xs p vs H1 ka x1 hs hp hz => by
    refine ⟨p, vs, rfl, lun hs, fun P nP => ?_⟩
    have n := (S.ext x1).new (u := .lst vs.reverse) nP
    exact q _ P _ _ ka (x1.trans n.1) (x1.back nP) upd_same (by rw [hid_new nP]; exact paired_rev hp) (by rw [List.length_reverse]; exact hz)
theorem ev_revT {c : PT (List α)} (h : EV E sls te (rTup r) c) : EV E sls (tRevT K te) (rTup r) (fun k => c fun xs => k xs.reverse) := fun O σ H S k hk Q q =>
  h _ σ H S _ hk _ fun xs v H1 ka x1 ⟨p, vs, ep, hs, hp, hz⟩ => by
    subst ep
    have S1 := S.ext x1
    refine ⟨p, vs, rfl, hs.of_hid.sq, fun P nP => ?_⟩
    have n := S1.new (u := .tup vs.reverse) nP
    exact q _ _ _ ka (x1.trans n.1) ⟨P, _, rfl, .inl (by rw [hid_out n.2]; exact upd_same), pmap (paired_rev hp) fun _ _ z => S1.rep n.1 z, by rw [List.length_reverse]; exact hz⟩
theorem ev_minTI {c : PT (List Int)} (h : EV E sls te (rTup rInt) c) : EV E sls (tCB (rMinTI K) (tCons te tNil)) rInt (fun k => c fun xs => xs ≠ [] ∧ k (minL xs)) := fun O σ H S k hk Q q =>
  h _ σ H S _ hk _ fun xs v H1 ⟨ne, ka⟩ x1 ⟨p, vs, ep, hs, hp, hz⟩ => by
    subst ep
    cases xs with
    | nil => exact (ne rfl).elim
    | cons n ns =>
      refine ⟨p, n, ns, rfl, by rw [← ints_of hp]; exact hs.of_hid.sq, q _ _ H1 ka x1 ?_⟩
      have : ns.foldl min n = minL (n :: ns) := minL_fold n ns
      rw [this]; rfl
theorem el_sortD (D : Da r) {c : PT (List α)} (h : ERl E sls te r c) :
    EL E sls (tCB (rSortD K) (tCons te tNil)) r (fun k => c fun xs => (PySem.W.AllAlike (xs.map D.enc) ∧ PySem.W.Sortable (xs.map D.enc) ∧ ∀ x ∈ xs, (D.enc x).depth ≤ 60) ∧ k (xs.mergeSort (PySem.W.dataLe false D.enc))) := fun O σ H S k hk Q qq =>
  h _ σ H S _ hk _ fun xs p vs H1 ka x hs hp hl => by
    obtain ⟨⟨ha, hso, hd⟩, kx⟩ := ka
    obtain ⟨z1, z2, z3⟩ := zip_paired hp
    have S1 := S.ext x
    have em : ((vs.zip xs).map fun z => (z.1, D.enc z.2)).map (·.2) = xs.map D.enc := by
      rw [List.map_map]
      have : ((vs.zip xs).map ((fun b : V × PyData => b.2) ∘ fun z => (z.1, D.enc z.2))) = xs.map D.enc := by
        rw [← z3, List.map_map, z3]; rfl
      exact this
    refine ⟨p, (vs.zip xs).map fun z => (z.1, D.enc z.2), rfl, ?_, fun b hb => ?_, by rw [em]; exact ha, by rw [em]; exact hso, fun l nl => ?_⟩
    · rw [List.map_map]
      show SqL K H1 p ((vs.zip xs).map (·.1))
      rw [z2]
      exact lun hs
    · obtain ⟨z, hz, e⟩ := List.mem_map.mp hb
      subst e
      have hx : z.2 ∈ xs := (List.of_mem_zip hz).2
      exact ⟨dp_unhid _ _ (D.dp (z1 z hz)), hd _ hx⟩
    · have e1 : (((vs.zip xs).map fun z => (z.1, D.enc z.2)).mergeSort (PySem.W.dataLe false (·.2))).map (·.1) = ((vs.zip xs).mergeSort (fun a b => PySem.W.dataLe false D.enc a.2 b.2)).map (·.1) := by
        rw [← List.map_mergeSort (f := fun z : V × α => (z.1, D.enc z.2)) (r := fun a b => PySem.W.dataLe false D.enc a.2 b.2) (fun a _ b _ => rfl), List.map_map]
        rfl
      have e2 : xs.mergeSort (PySem.W.dataLe false D.enc) = ((vs.zip xs).mergeSort (fun a b => PySem.W.dataLe false D.enc a.2 b.2)).map (·.2) := by
        rw [List.map_mergeSort (f := fun z : V × α => z.2) (r := fun a b => PySem.W.dataLe false D.enc a.2 b.2) (s := PySem.W.dataLe false D.enc) (fun a _ b _ => rfl), z3]
      rw [e1]
      rw [e2] at kx
      have n := S1.new (u := .lst (((vs.zip xs).mergeSort (fun a b => PySem.W.dataLe false D.enc a.2 b.2)).map (·.1))) nl
      refine qq _ l _ _ kx (x.trans n.1) (x.back nl) upd_same ?_ ?_
      · rw [hid_new nl]
        exact paired_zip _ fun z hz => z1 z ((List.mergeSort_perm _ _).mem_iff.mp hz)
      · rw [List.length_map, List.length_mergeSort, List.length_zip]
        exact Nat.le_trans (Nat.min_le_left _ _) hl
/-- all of them are there -/
def allGet : List (Option α) → Option (List α)
  | [] => some []
  | some a :: l => (allGet l).map (a :: ·)
  | none :: _ => none
theorem allGet_pair {H : Hp} : ∀ {vs : List V} {xs : List (Option α)} {ys : List α}, Paired ((rOpt r).rp H) vs xs → allGet xs = some ys → Paired (r.rp H) vs ys
  | _, _, ys, .nil, e => by
    cases e
    exact .nil
  | _, some a :: xs, ys, .cons h t, e => by
    unfold allGet at e
    cases q : allGet xs with
    | none => rw [q] at e; cases e
    | some zs =>
      rw [q] at e
      cases e
      exact .cons h.2 (allGet_pair t q)
  | _, none :: xs, ys, .cons h t, e => by cases e
theorem ev_getT {c : PT (List (Option α))} (h : EV E sls te (rTup (rOpt r)) c) : EV E sls te (rTup r) (fun k => c fun xs => ∃ ys, allGet xs = some ys ∧ k ys) := fun O σ H S k hk Q q =>
  h _ σ H S _ hk _ fun xs v H1 ⟨ys, e, ka⟩ x1 ⟨p, vs, ep, hs, hp, hz⟩ => q ys v H1 ka x1 ⟨p, vs, ep, hs, allGet_pair hp e, hz⟩
end
end Nz

/-! Nz24: list.index of ints. -/
namespace Nz
open PySem PySem.Spec PyProof.Rows L2
section
variable {K : PySem.W.Frag} {E : Eff} {sls : List (Sl K)} {te ta : TE}
theorem ev_index {c d : PT _} (h : ERl E sls te (rInt (K := K)) c) (ha : EV E sls ta rInt d) :
    EV E sls (tBM K "list" (rIndex K) te (tCons ta tNil)) rInt (fun k => c fun xs => d fun a => ∃ j, xs.findIdx? (fun x => decide (x = a)) = some j ∧ k ((j : Nat) : Int)) := fun O σ H S k hk Q q =>
  h _ σ H S _ hk _ fun xs p vs H1 ka x1 hs hp hl => by
    refine ⟨.inl ⟨rfl, vs, lun hs⟩, ha _ σ H1 (S.ext x1) _ ka _ fun a v H2 ⟨j, e, kb⟩ x2 hv => ?_⟩
    have ev := ints_of hp
    obtain ⟨hj, h1, h2⟩ := List.findIdx?_eq_some_iff_getElem.mp e
    have hv : v = .int a := hv
    subst hv ev
    refine ⟨p, xs.map V.int, .int a, j, .int xs[j], rfl, rfl, lun (rdL x2.1.ew hs), rfl, ?_, ?_, ?_, fun m z' hm hz => ?_, q _ _ H2 kb (x1.trans x2) rfl⟩
    · rw [List.all_map]
      exact List.all_eq_true.mpr fun _ _ => rfl
    · rw [List.getElem?_map, List.getElem?_eq_getElem hj]; rfl
    · have := of_decide_eq_true h1
      show (xs[j] == a) = true
      rw [this]
      exact beq_self_eq_true a
    · have hml : m < xs.length := by omega
      rw [List.getElem?_map, List.getElem?_eq_getElem hml] at hz
      have hz : V.int xs[m] = z' := Option.some.inj hz
      subst hz
      have := h2 m hm
      show (xs[m] == a) = false
      have hne : ¬ xs[m] = a := fun z => this (decide_eq_true z)
      exact beq_eq_false_iff_ne.mpr hne
end
end Nz
namespace Nz
open PySem PySem.Spec PyProof.Rows L2
section
variable {X : Cx} {o e : Expr} {to : TE} {t : TA} {apos cpos : Pos}
theorem pe_indexK (K : PySem.W.Frag) (ho : PE X o to) (ha : PA X [e] t) (h : X.K = K := by rfl)
    (hbase : attributeBase o "index" X.env (eval o X.env) = eval o X.env := by rfl)
    (hfew : ((backTo cpos (starEach [e] X.env)).all (fun x => !x.1) && (backToKw cpos (keywordEach [] X.env)).all (fun x => x.1.isSome)
      && decide (([e] : List Expr).length + ([] : List Keyword).length + (if ([] : List Keyword).isEmpty then 0 else 1) < 30)) = true := by rfl)
    (hline : (apos.endLine == cpos.line) = true := by rfl) (hs : starEach [e] X.env = (false, eval e X.env) :: starEach [] X.env := by rfl) (hplain : (backTo cpos (starEach [] X.env)).any (·.1) = false := by rfl) :
    PE X (.Call (.Attribute o "index" apos) [e] [] cpos) (tBM K "list" (rIndex K) to t) := h ▸ pe_bm PySem.F.plainAttrs_list PySem.F.slot_list_index PySem.F.type_list_index mt_index ho ha hbase hfew hline hs hplain
end
end Nz

/-! Nz25: the law itself, no tables. -/
namespace Nz
open PySem L2 PySem.Spec PyProof.Rows LamX
variable {K : PySem.W.Frag}
def spLawT (K : PySem.W.Frag) : Sp := fun vs H Q _ => ∃ (a : Addr) (ns : List Int), vs = [.ref a] ∧ SqL K H a (ns.map V.int) ∧ ns.length ≤ 63 ∧ ∀ H', Q (.bl true) H'
theorem law_runT {N : List Str} {n : Nat} (hN : N.length = n + 2) {X0 X1 : XK} {t : TS} {mb : PT (Ctl Bool Empty Unit)} (hb : ∀ pt c, BJ (K := K) (effT pt c) (slAny :: slAt pt :: List.replicate n slAny) [] t mb rBl (fun _ => slAny :: slAny :: List.replicate n slAny) [] noL [])
    (hm : mb (outF fun b => b = true)) {vs : List V} {H : Hp} {Q : VK} (h : spLawT K vs H Q X1) : tSeq (tAsg (tCall (spMk K) [] X0 (tCons (tVar 0) tNil)) (gName 1)) t { nx := fun _ H' => Q .non H', rt := Q } (L2.start N vs) H := by
  obtain ⟨a, ns, e, hS, hl, q'⟩ := h
  subst e
  have eN : L2.start N [.ref a] = some (.ref a) :: List.replicate (n + 1) none := by
    unfold L2.start
    rw [hN]
    rfl
  rw [eN]
  refine ⟨.ref a, rfl, a, ns, rfl, hS, hl, fun pt c H2 ex np nc hT => ?_⟩
  have mo : ∀ x, (effT pt c).M x → (effT pt c).M x := fun _ h => h
  have hI : (effT pt c).I H2 := hT
  have S : SL (K := K) (effT pt c).M (effT pt c) (slAny :: slAt pt :: List.replicate n slAny) (some (.ref a) :: some (.ref pt) :: List.replicate n none) H2 := ⟨.cons True.intro (.cons rfl (paired_rep n)), fun x hx => (effT pt c).there hI x hx, mo, hI⟩
  refine hb pt c (effT pt c).M H2 (hid H2 (effT pt c).M) _ H2 ⟨by rw [own_nil]; exact S, Ex.refl _, by rw [own_nil]; exact Ef.refl _, fun i h => (by simp at h), fun i h => (by simp at h), mo, fun j sl h hp => ?_⟩ _ hm _ (fun _ _ _ z => z.elim) (fun b v H' kb _ _ e3 => ?_) (fun l => nomatch l) (fun l => nomatch l)
  · cases j with
    | zero => simp at h; subst h; cases hp
    | succ j =>
      cases j with
      | zero => simp at h; subst h; cases hp
      | succ j =>
        have h' : (List.replicate n slAny)[j]? = some sl := by simpa using h
        have := List.mem_of_getElem? h'
        rw [List.eq_of_mem_replicate this] at hp
        cases hp
  · rw [show v = V.bl b from e3, show b = true from kb]
    exact q' H'
theorem spLawT_len {vs : List V} {H : Hp} {Q : VK} {X0 : XK} (h : spLawT K vs H Q X0) : vs.length = 1 := by
  obtain ⟨_, _, e, _⟩ := h
  rw [e]
  rfl
end Nz

/-! M1: rules for programs, by what is wanted of the result. -/
namespace Nz
namespace Pg
variable {α β L M N S T : Type}
theorem cons {c : Pg α} {p k : α → Prop} (h : c.wp p) (q : ∀ a, p a → k a) : c.wp k := c.mono q h
theorem bnd_of {c : Pg α} {f : α → Pg β} {p : α → Prop} {k : β → Prop} (h : c.wp p) (q : ∀ a, p a → (f a).wp k) : (c >>= f).wp k := c.mono q h
theorem ask_of {p : Prop} {f : Unit → Pg β} {k : β → Prop} (h : p) (q : (f ()).wp k) : (ask p >>= f).wp k := ⟨h, q⟩
theorem opt_of {o : Option α} {f : α → Pg β} {k : β → Prop} {a : α} (h : o = some a) (q : (f a).wp k) : (opt o >>= f).wp k := ⟨a, h, q⟩
theorem if_of {c : Pg Bool} {x y : Pg α} {k : α → Prop} {b : Bool} (h : c.wp fun z => z = b) (q : if b = true then x.wp k else y.wp k) : (ifG c x y).wp k := c.mono (fun z e => by subst e; exact q) h
theorem and_of {c d : Pg Bool} {b1 b2 : Bool} (h : c.wp fun z => z = b1) (q : b1 = true → d.wp fun z => z = b2) : (andG c d).wp fun z => z = (b1 && b2) := c.mono (fun z e => by
  subst e
  cases z with
  | true => rw [if_pos rfl]; exact q rfl
  | false => rw [if_neg Bool.false_ne_true]; rfl) h
theorem or_of {c d : Pg Bool} {b1 b2 : Bool} (h : c.wp fun z => z = b1) (q : b1 = false → d.wp fun z => z = b2) : (orG c d).wp fun z => z = (b1 || b2) := c.mono (fun z e => by
  subst e
  cases z with
  | true => rw [if_pos rfl]; rfl
  | false => rw [if_neg Bool.false_ne_true]; exact q rfl) h
theorem ite_of {c : Pg Bool} {a b : Pg (Ctl β L M)} {m : M → Pg (Ctl β L N)} {k : Ctl β L N → Prop} {v : Bool} (h : c.wp fun z => z = v) (q : if v = true then a.wp (seqK (fun s => (m s).wp) k) else b.wp (seqK (fun s => (m s).wp) k)) : (iteG c a b m).wp k := c.mono (fun z e => by subst e; exact q) h
theorem out_of {m : Pg (Ctl β Empty Unit)} {k : β → Prop} (h : m.wp fun c => match c with | .rt b => k b | _ => False) : (outG m).wp k := m.mono (fun c hc => by
  cases c with
  | rt b => exact hc
  | nx _ => exact hc.elim
  | bk l => exact nomatch l
  | ct l => exact nomatch l) h
theorem comp_of {t : α → Pg Bool} {f : α → Pg β} (tv : α → Bool) (fv : α → β) : ∀ (xs : List α), (∀ x ∈ xs, (t x).wp fun z => z = tv x) → (∀ x ∈ xs, tv x = true → (f x).wp fun z => z = fv x) → (comp xs t f).wp fun z => z = (xs.filter tv).map fv
  | [], _, _ => rfl
  | x :: xs, ht, hf => by
    show (t x).wp _
    refine (t x).mono ?_ (ht x (List.mem_cons_self ..))
    intro b e
    subst e
    have ih := comp_of tv fv xs (fun y hy => ht y (List.mem_cons_of_mem _ hy)) fun y hy => hf y (List.mem_cons_of_mem _ hy)
    cases h : tv x with
    | true =>
      rw [if_pos rfl]
      refine (f x).mono ?_ (hf x (List.mem_cons_self ..) h)
      intro y e
      subst e
      refine (comp xs t f).mono (k := fun z => z = (xs.filter tv).map fv) ?_ ih
      intro ys e
      subst e
      simp [List.filter_cons, h]
    | false =>
      rw [if_neg Bool.false_ne_true]
      refine (comp xs t f).mono (k := fun z => z = (xs.filter tv).map fv) ?_ ih
      intro ys e
      subst e
      simp [List.filter_cons, h]
/-- a loop over items: an invariant of what is done, or a return -/
theorem forc_of {f : α → S → Pg (Ctl β S S)} {k : Ctl β L S → Prop} {xs : List α} {s : S} (I : List α → S → Prop) (h0 : I [] s)
    (hb : ∀ pre x post s, xs = pre ++ x :: post → I pre s → (f x s).wp fun c => match c with | .nx s' => I (pre ++ [x]) s' | .rt b => k (.rt b) | _ => False) (hk : ∀ s, I xs s → k (.nx s)) : (forc xs s f).wp k := by
  have go : ∀ (post pre : List α) (s : S), xs = pre ++ post → I pre s → forC post s (fun x s => (f x s).wp) k := by
    intro post
    induction post with
    | nil =>
      intro pre s e h
      rw [List.append_nil] at e
      subst e
      exact hk s h
    | cons x post ih =>
      intro pre s e h
      refine (f x s).mono ?_ (hb pre x post s e h)
      intro c hc
      cases c with
      | nx s' => exact ih (pre ++ [x]) s' (by rw [e]; simp) hc
      | rt b => exact hc
      | bk s' => exact hc.elim
      | ct s' => exact hc.elim
  exact go xs [] s rfl h0
/-- .. that counts as a fold -/
theorem forc_fold {f : α → S → Pg (Ctl β S S)} {k : Ctl β L S → Prop} {xs : List α} {s : S} (g : S → α → S) (J : S → Prop) (h0 : J s)
    (hb : ∀ x ∈ xs, ∀ s, J s → J (g s x) ∧ (f x s).wp fun c => c = .nx (g s x)) (hk : k (.nx (xs.foldl g s))) : (forc xs s f).wp k := by
  refine forc_of (fun pre t => t = pre.foldl g s ∧ J t) ⟨rfl, h0⟩ (fun pre x post t e h => ?_) (fun t h => by rw [h.1]; exact hk)
  obtain ⟨a, b⟩ := hb x (by rw [e]; simp) t h.2
  refine (f x t).mono ?_ b
  intro c hc
  subst hc
  exact ⟨by rw [List.foldl_append, ← h.1]; rfl, a⟩
theorem while_of {t : S → Pg Bool} {f : S → Pg (Ctl β S S)} {k : Ctl β L S → Prop} {s : S} (I : S → Prop) (m : S → Nat) (tv : S → Bool) (h0 : I s) (ht : ∀ s, I s → (t s).wp fun z => z = tv s)
    (hb : ∀ s, I s → tv s = true → (f s).wp fun c => match c with | .nx s' => I s' ∧ m s' < m s | .rt b => k (.rt b) | _ => False) (hk : ∀ s, I s → tv s = false → k (.nx s)) : (while' s t f).wp k := by
  have go : ∀ (n : Nat) (s : S), m s < n → I s → whileN n s (fun s => (t s).wp) (fun s => (f s).wp) k := by
    intro n
    induction n with
    | zero => intro s h; exact absurd h (Nat.not_lt_zero _)
    | succ n ih =>
      intro s h hI
      refine (t s).mono ?_ (ht s hI)
      intro b e
      subst e
      cases hv : tv s with
      | true =>
        rw [if_pos rfl]
        refine (f s).mono ?_ (hb s hI hv)
        intro c hc
        cases c with
        | nx s' => exact ih s' (by have := hc.2; omega) hc.1
        | rt b => exact hc
        | bk s' => exact hc.elim
        | ct s' => exact hc.elim
      | false =>
        rw [if_neg Bool.false_ne_true]
        exact hk s hI hv
  exact ⟨m s + 1, go _ s (Nat.lt_succ_self _) h0⟩
theorem whileb_of {f : S → Pg (Ctl β T S)} {k : Ctl β L T → Prop} {s : S} (I : S → Prop) (m : S → Nat) (h0 : I s)
    (hb : ∀ s, I s → (f s).wp fun c => match c with | .nx s' => I s' ∧ m s' < m s | .rt b => k (.rt b) | .bk b => k (.nx b) | _ => False) : (whileb s f).wp k := by
  have go : ∀ (n : Nat) (s : S), m s < n → I s → whileB n s (fun s => (f s).wp) k := by
    intro n
    induction n with
    | zero => intro s h; exact absurd h (Nat.not_lt_zero _)
    | succ n ih =>
      intro s h hI
      refine (f s).mono ?_ (hb s hI)
      intro c hc
      cases c with
      | nx s' => exact ih s' (by have := hc.2; omega) hc.1
      | rt b => exact hc
      | bk s' => exact hc
      | ct s' => exact hc.elim
  exact ⟨m s + 1, go _ s (Nat.lt_succ_self _) h0⟩
theorem dict_of {γ κ : Type} [DecidableEq κ] {t : γ → Pg Bool} {fk : γ → Pg κ} {fv : γ → Pg α} (tv : γ → Bool) (kv : γ → κ) (vv : γ → α) {xs : List γ} (ht : ∀ x ∈ xs, (t x).wp fun z => z = tv x) (hk : ∀ x ∈ xs, tv x = true → (fk x).wp fun z => z = kv x) (hv : ∀ x ∈ xs, tv x = true → (fv x).wp fun z => z = vv x) :
    (dict xs t fk fv).wp fun z => z = (xs.filter tv).foldl (fun d x => dput d (kv x) (vv x)) [] := by
  have go : ∀ (xs : List γ) (d : List (κ × α)), (∀ x ∈ xs, (t x).wp fun z => z = tv x) → (∀ x ∈ xs, tv x = true → (fk x).wp fun z => z = kv x) → (∀ x ∈ xs, tv x = true → (fv x).wp fun z => z = vv x) → dictT xs (fun x => (t x).wp) (fun x => (fk x).wp) (fun x => (fv x).wp) d fun z => z = (xs.filter tv).foldl (fun d x => dput d (kv x) (vv x)) d := by
    intro xs
    induction xs with
    | nil => intro d _ _ _; rfl
    | cons x xs ih =>
      intro d ht hk hv
      have ih' := fun d => ih d (fun y hy => ht y (List.mem_cons_of_mem _ hy)) (fun y hy => hk y (List.mem_cons_of_mem _ hy)) fun y hy => hv y (List.mem_cons_of_mem _ hy)
      refine (t x).mono ?_ (ht x (List.mem_cons_self ..))
      intro b e
      subst e
      cases h : tv x with
      | true =>
        rw [if_pos rfl]
        refine (fk x).mono ?_ (hk x (List.mem_cons_self ..) h)
        intro y e
        subst e
        refine (fv x).mono ?_ (hv x (List.mem_cons_self ..) h)
        intro v e
        subst e
        have := ih' (dput d (kv x) (vv x))
        simp only [List.filter_cons, h, if_true, List.foldl_cons]
        exact this
      | false =>
        rw [if_neg Bool.false_ne_true]
        have := ih' d
        simp only [List.filter_cons, h, Bool.false_eq_true, if_false]
        exact this
  exact go xs [] ht hk hv
end Pg
section
variable {κ α : Type} [DecidableEq κ]
theorem dget_none {d : List (κ × α)} {k : κ} : dget d k = none ↔ k ∉ d.map (·.1) := by
  induction d with
  | nil => simp [dget]
  | cons p d ih =>
    by_cases h : p.1 = k
    · simp [dget, h]
    · simp only [dget, h, if_false, ih, List.map_cons, List.mem_cons, not_or]
      exact ⟨fun q => ⟨fun e => h e.symm, q⟩, fun q => q.2⟩
theorem dget_isSome {d : List (κ × α)} {k : κ} : (dget d k).isSome = true ↔ k ∈ d.map (·.1) := by
  cases h : dget d k with
  | none => simpa using dget_none.mp h
  | some v =>
    simp only [Option.isSome_some, true_iff]
    exact Classical.byContradiction fun q => by rw [dget_none.mpr q] at h; cases h
theorem dget_map {d : List (κ × α)} {k k' : κ} {v : α} : dget (d.map fun p => if p.1 = k then (p.1, v) else p) k' = if k' = k then (dget d k').map (fun _ => v) else dget d k' := by
  induction d with
  | nil => simp [dget]
  | cons p d ih =>
    by_cases h : p.1 = k
    · by_cases h2 : k' = k
      · subst h2
        simp [dget, h]
      · have h3 : ¬ k = k' := fun e => h2 e.symm
        simp [dget, h, h2, h3, ih]
    · by_cases h2 : k' = k
      · subst h2
        simp [dget, h, ih]
      · simp [dget, h, h2, ih]
theorem dget_append {d e : List (κ × α)} {k : κ} : dget (d ++ e) k = (dget d k).or (dget e k) := by
  induction d with
  | nil => simp [dget]
  | cons p d ih =>
    by_cases h : p.1 = k
    · simp [dget, h]
    · simp [dget, h, ih]
theorem any_key {d : List (κ × α)} {k : κ} : (d.any fun p => decide (p.1 = k)) = true ↔ k ∈ d.map (·.1) := by
  simp [List.any_eq_true]
theorem dget_dput (d : List (κ × α)) (k k' : κ) (v : α) : dget (dput d k v) k' = if k' = k then some v else dget d k' := by
  unfold dput
  by_cases h : (d.any fun p => decide (p.1 = k)) = true
  · rw [if_pos h, dget_map]
    by_cases e : k' = k
    · subst e
      rw [if_pos rfl, if_pos rfl]
      have := dget_isSome.mpr (any_key.mp h)
      cases h' : dget d k' with
      | none => rw [h'] at this; cases this
      | some _ => rfl
    · rw [if_neg e, if_neg e]
  · rw [if_neg h, dget_append]
    have hn : dget d k = none := dget_none.mpr fun q => h (any_key.mpr q)
    by_cases e : k' = k
    · subst e
      simp [hn, dget]
    · have e' : ¬ k = k' := fun q => e q.symm
      simp [dget, e, e']
theorem keys_dput (d : List (κ × α)) (k : κ) (v : α) : (dput d k v).map (·.1) = if k ∈ d.map (·.1) then d.map (·.1) else d.map (·.1) ++ [k] := by
  unfold dput
  by_cases h : (d.any fun p => decide (p.1 = k)) = true
  · rw [if_pos h, if_pos (any_key.mp h), List.map_map]
    congr 1
    funext p
    by_cases e : p.1 = k <;> simp [e]
  · rw [if_neg h, if_neg fun q => h (any_key.mpr q)]
    simp
def NdK (d : List (κ × α)) : Prop := (d.map (·.1)).Nodup
theorem NdK.dput {d : List (κ × α)} (h : NdK d) (k : κ) (v : α) : NdK (dput d k v) := by
  unfold NdK
  rw [keys_dput]
  split
  · exact h
  · rename_i q
    rw [List.nodup_append]
    refine ⟨h, by simp, fun a ha b hb => ?_⟩
    simp at hb
    subst hb
    exact fun e => q (e ▸ ha)
theorem mem_keys_dput {d : List (κ × α)} {k k' : κ} {v : α} : k' ∈ (dput d k v).map (·.1) ↔ k' = k ∨ k' ∈ d.map (·.1) := by
  rw [keys_dput]
  split
  · rename_i q
    exact ⟨.inr, fun h => h.elim (fun e => e ▸ q) id⟩
  · simp [or_comm]
theorem dget_dputs : ∀ (e d : List (κ × α)) (k : κ), NdK e → dget (dputs d e) k = (dget e k).or (dget d k)
  | [], d, k, _ => by simp [dputs, dget]
  | p :: e, d, k, h => by
    have h' : NdK e := (List.nodup_cons.mp h).2
    have hp : p.1 ∉ e.map (·.1) := (List.nodup_cons.mp h).1
    show dget (dputs (dput d p.1 p.2) e) k = _
    rw [dget_dputs e _ k h', dget_dput]
    by_cases q : k = p.1
    · subst q
      rw [dget_none.mpr hp]
      simp [dget]
    · have q' : ¬ p.1 = k := fun z => q z.symm
      simp [dget, q, q']
theorem NdK.dputs : ∀ (e : List (κ × α)) {d : List (κ × α)}, NdK d → NdK (dputs d e)
  | [], _, h => h
  | p :: e, _, h => NdK.dputs e (h.dput p.1 p.2)
theorem mem_keys_dputs : ∀ (e d : List (κ × α)) {k : κ}, k ∈ (dputs d e).map (·.1) ↔ k ∈ e.map (·.1) ∨ k ∈ d.map (·.1)
  | [], d, k => by simp [dputs]
  | p :: e, d, k => by
    show k ∈ (dputs (dput d p.1 p.2) e).map (·.1) ↔ _
    rw [mem_keys_dputs e, mem_keys_dput, List.map_cons, List.mem_cons]
    exact ⟨fun h => h.elim (fun a => .inl (.inr a)) fun h => h.elim (fun a => .inl (.inl a)) .inr, fun h => h.elim (fun h => h.elim (fun a => .inr (.inl a)) .inl) fun a => .inr (.inr a)⟩
end
end Nz

/-! H1: general lemmas. -/
namespace Hh
open PySem L2 Nz
section
variable {α : Type}
theorem enumZ_nil : enumZ ([] : List α) = [] := rfl
theorem enumZ_cons (x : α) (xs : List α) : enumZ (x :: xs) = (0, x) :: (enumZ xs).map fun p => (p.1 + 1, p.2) := by
  refine List.ext_getElem? fun i => ?_
  cases i with
  | zero => exact enumZ_get _ 0 x rfl
  | succ i =>
    rw [List.getElem?_cons_succ, List.getElem?_map]
    cases h : xs[i]? with
    | none =>
      have h1 : xs.length ≤ i := List.getElem?_eq_none_iff.mp h
      rw [List.getElem?_eq_none_iff.mpr (by rw [enumZ_len]; simpa using h1), List.getElem?_eq_none_iff.mpr (by rw [enumZ_len]; exact h1)]
      rfl
    | some y =>
      rw [enumZ_get (x :: xs) (i + 1) y (by simpa using h), enumZ_get xs i y h]
      simp
theorem mem_enumZ {xs : List α} {p : Int × α} : p ∈ enumZ xs ↔ 0 ≤ p.1 ∧ xs[p.1.toNat]? = some p.2 := by
  constructor
  · intro h
    obtain ⟨i, hi, e⟩ := List.mem_iff_getElem.mp h
    have hi' : i < xs.length := by rw [enumZ_len] at hi; exact hi
    have := enumZ_get xs i xs[i] (List.getElem?_eq_getElem hi')
    rw [List.getElem?_eq_getElem hi, e] at this
    have e2 := Option.some.inj this
    subst e2
    exact ⟨by simp, by simp⟩
  · intro h
    have := enumZ_get xs p.1.toNat p.2 h.2
    rw [Int.toNat_of_nonneg h.1] at this
    exact List.mem_of_getElem? this
theorem enum_first (t : α → Bool) : ∀ xs : List α, atI (((enumZ xs).filter fun y => t y.2).map Prod.fst) 0 = (xs.findIdx? t).map fun k => (k : Int)
  | [] => rfl
  | x :: xs => by
    have at0 : ∀ l : List Int, atI l 0 = l.head? := fun l => by
      unfold atI ixN
      cases l with
      | nil => rfl
      | cons a l => simp
    rw [at0]
    rw [enumZ_cons, List.findIdx?_cons]
    cases h : t x with
    | true => simp [h]
    | false =>
      have ih := enum_first t xs
      rw [at0] at ih
      simp only [List.filter_cons, h, Bool.false_eq_true, if_false, List.filter_map, List.map_map]
      have : ((fun (y : Int × α) => t y.2) ∘ fun p : Int × α => (p.1 + 1, p.2)) = fun y => t y.2 := rfl
      rw [this]
      have e2 : ((fun (p : Int × α) => p.1) ∘ fun p : Int × α => (p.1 + 1, p.2)) = (fun z : Int => z + 1) ∘ (fun p : Int × α => p.1) := rfl
      rw [e2, ← List.map_map, List.head?_map, ih]
      cases xs.findIdx? t <;> simp
theorem enum_empty (t : α → Bool) (xs : List α) : (((enumZ xs).filter fun y => t y.2).map Prod.fst).isEmpty = (xs.findIdx? t).isNone := by
  have h := enum_first t xs
  have at0 : ∀ l : List Int, atI l 0 = l.head? := fun l => by
    unfold atI ixN
    cases l with
    | nil => rfl
    | cons a l => simp
  rw [at0] at h
  cases hl : ((enumZ xs).filter fun y => t y.2).map Prod.fst with
  | nil => rw [hl] at h; cases hq : xs.findIdx? t with
    | none => rfl
    | some k => rw [hq] at h; cases h
  | cons a l => rw [hl] at h; cases hq : xs.findIdx? t with
    | none => rw [hq] at h; cases h
    | some k => rfl
end
section
variable {κ α : Type} [DecidableEq κ]
theorem dget_puts (v : κ → α) : ∀ (xs : List κ) (d : List (κ × α)) (p : κ), dget (xs.foldl (fun d x => dput d x (v x)) d) p = if p ∈ xs then some (v p) else dget d p
  | [], d, p => by simp
  | x :: xs, d, p => by
    rw [List.foldl_cons, dget_puts v xs, dget_dput]
    by_cases h : p ∈ xs
    · simp [h]
    · by_cases e : p = x
      · subst e; simp [h]
      · simp [h, e]
theorem ndk_puts (v : κ → α) : ∀ (xs : List κ) (d : List (κ × α)), NdK d → NdK (xs.foldl (fun d x => dput d x (v x)) d)
  | [], d, h => h
  | x :: xs, d, h => ndk_puts v xs _ (h.dput x (v x))
theorem keys_puts (v : κ → α) : ∀ (xs : List κ) (d : List (κ × α)), xs.Nodup → (∀ x ∈ xs, x ∉ d.map (·.1)) → (xs.foldl (fun d x => dput d x (v x)) d).map (·.1) = d.map (·.1) ++ xs
  | [], d, _, _ => by simp
  | x :: xs, d, nd, h => by
    rw [List.nodup_cons] at nd
    have hx := h x (by simp)
    have e : (dput d x (v x)).map (·.1) = d.map (·.1) ++ [x] := by rw [keys_dput, if_neg hx]
    rw [List.foldl_cons, keys_puts v xs _ nd.2 fun y hy q => ?_, e]
    · simp
    · rw [e] at q
      rcases List.mem_append.mp q with q | q
      · exact h y (by simp [hy]) q
      · simp at q
        subst q
        exact nd.1 hy
theorem nodup_len {l m : List κ} (h : l.Nodup) (s : ∀ x ∈ l, x ∈ m) : l.length ≤ m.length := by
  induction l generalizing m with
  | nil => simp
  | cons x l ih =>
    rw [List.nodup_cons] at h
    have hx : x ∈ m := s x (by simp)
    have := ih (m := m.erase x) h.2 fun y hy => by
      have e : y ≠ x := fun e => h.1 (e ▸ hy)
      exact (List.mem_erase_of_ne e).mpr (s y (by simp [hy]))
    have e := List.length_erase_of_mem hx
    have : 0 < m.length := List.length_pos_of_mem hx
    simp only [List.length_cons]
    omega
theorem nodup_sub_all {l m : List κ} (h : l.Nodup) (s : ∀ x ∈ l, x ∈ m) (e : m.Nodup) (q : m.length ≤ l.length) : ∀ x ∈ m, x ∈ l := by
  intro x hx
  apply Classical.byContradiction
  intro n
  have := nodup_len (l := x :: l) (m := m) (List.nodup_cons.mpr ⟨n, h⟩) (fun y hy => by
    rcases List.mem_cons.mp hy with rfl | hy
    · exact hx
    · exact s y hy)
  simp only [List.length_cons] at this
  omega
theorem _root_.Nz.NdK.len {d : List (Int × α)} (h : NdK d) {N : Nat} (s : ∀ p ∈ d.map (·.1), 0 ≤ p ∧ p < (N : Int)) : d.length ≤ N := by
  have := nodup_len (l := d.map (fun x : Int × α => x.1)) (m := (List.range N).map fun i => ((i : Nat) : Int)) h fun x hx => by
    have := s x hx
    exact List.mem_map.mpr ⟨x.toNat, List.mem_range.mpr (by omega), by omega⟩
  simpa using this
theorem dget_mem {d : List (κ × α)} {k : κ} {v : α} (h : dget d k = some v) : (k, v) ∈ d := by
  induction d with
  | nil => cases h
  | cons p d ih =>
    unfold dget at h
    split at h
    · rename_i e
      cases h
      rw [← e]
      exact List.mem_cons_self
    · exact List.mem_cons_of_mem _ (ih h)
theorem _root_.Nz.NdK.get {d : List (κ × α)} (h : NdK d) {p : κ × α} (hp : p ∈ d) : dget d p.1 = some p.2 := by
  induction d with
  | nil => cases hp
  | cons x d ih =>
    have h1 : x.1 ∉ d.map (·.1) := (List.nodup_cons.mp h).1
    have h2 : NdK d := (List.nodup_cons.mp h).2
    unfold dget
    rcases List.mem_cons.mp hp with rfl | hp
    · rw [if_pos rfl]
    · rw [if_neg fun e => h1 (by rw [e]; exact List.mem_map_of_mem hp)]
      exact ih h2 hp
end
theorem sortI_lt {l : List Int} (h : l.Nodup) : (sortI l).Pairwise (· < ·) := by
  have h1 := pw_sortI l
  have h2 : (sortI l).Nodup := (perm_sortI l).nodup_iff.mpr h
  exact List.pairwise_iff_getElem.mpr fun i j hi hj hij => by
    have a := List.pairwise_iff_getElem.mp h1 i j hi hj hij
    have b := List.pairwise_iff_getElem.mp h2 i j hi hj hij
    omega
theorem mem_sortI {l : List Int} {x : Int} : x ∈ sortI l ↔ x ∈ l := (perm_sortI l).mem_iff
theorem nodup_of_lt {l : List Int} (h : l.Pairwise (· < ·)) : l.Nodup := h.imp fun h => Int.ne_of_lt h
theorem iteG_pure {β L M N : Type} (c : Bool) (a b : Pg (Ctl β L M)) (m : M → Pg (Ctl β L N)) : Pg.iteG (pure c) a b m = (if c = true then a else b) >>= Pg.seqG m := Pg.ext' fun k => by
  show (if c = true then _ else _) = _
  cases c <;> rfl
theorem seqG_nx {β L M N : Type} (m : M → Pg (Ctl β L N)) (s : M) : Pg.seqG m (.nx s) = m s := rfl
theorem filt_true {α : Type} (l : List α) : l.filter (fun _ => true) = l := List.filter_eq_self.mpr fun _ _ => rfl
theorem atI_nat {α : Type} (l : List α) (j : Nat) : atI l (j : Int) = l[j]? := by
  unfold atI ixN
  rw [if_pos (by omega)]
  by_cases h : (j : Int) < (l.length : Int)
  · rw [if_pos h]; rfl
  · rw [if_neg h]
    show none = _
    exact (List.getElem?_eq_none (by omega)).symm
theorem rg_nat (n : Nat) : rg (n : Int) = (List.range n).map fun i => ((i : Nat) : Int) := by unfold rg; rw [Int.toNat_natCast]
theorem rg_pre {n : Nat} {pre post : List Int} {x : Int} (e : rg (n : Int) = pre ++ x :: post) : x = (pre.length : Int) ∧ pre.length < n := by
  rw [rg_nat] at e
  have h1 := congrArg List.length e
  simp only [List.length_map, List.length_range, List.length_append, List.length_cons] at h1
  have h2 := congrArg (fun l => l[pre.length]?) e
  simp only [List.getElem?_map, List.getElem?_append_right (Nat.le_refl _), Nat.sub_self, List.getElem?_cons_zero] at h2
  rw [List.getElem?_range (by omega)] at h2
  exact ⟨(Option.some.inj h2).symm, by omega⟩
theorem comp_rel {α β : Type} {f : α → Pg β} {R : α → β → Prop} : ∀ (xs : List α), (∀ x ∈ xs, (f x).wp (R x)) → (Pg.comp xs (fun _ => pure true) f).wp fun l => l.length = xs.length ∧ ∀ i (h : i < xs.length) (h' : i < l.length), R xs[i] l[i]
  | [], _ => ⟨rfl, fun i h => absurd h (Nat.not_lt_zero _)⟩
  | x :: xs, h => by
    show Pg.wp (f x) _
    refine (f x).mono ?_ (h x (by simp))
    intro y hy
    refine (Pg.comp xs (fun _ => pure true) f).mono ?_ (comp_rel xs fun z hz => h z (by simp [hz]))
    rintro l ⟨hl, hr⟩
    refine ⟨by simp [hl], fun i h1 h2 => ?_⟩
    cases i with
    | zero => exact hy
    | succ i => exact hr i (by simpa using h1) (by simpa using h2)
theorem comp_sub {α : Type} {t : α → Pg Bool} : ∀ (xs : List α), (∀ x ∈ xs, (t x).wp fun _ => True) → (Pg.comp xs t (fun x => pure x)).wp fun l => l.Sublist xs
  | [], _ => List.Sublist.refl _
  | x :: xs, h => by
    show Pg.wp (t x) _
    refine (t x).mono ?_ (h x (by simp))
    intro b _
    have ih := comp_sub xs fun y hy => h y (by simp [hy])
    cases b with
    | true =>
      rw [if_pos rfl]
      refine (Pg.comp xs t (fun x => pure x)).mono ?_ ih
      intro l hl
      exact hl.cons_cons x
    | false =>
      rw [if_neg Bool.false_ne_true]
      refine (Pg.comp xs t (fun x => pure x)).mono ?_ ih
      intro l hl
      exact hl.cons x
theorem erase_perm {α : Type} : ∀ (l : List α) (i : Nat) (h : i < l.length), (l[i] :: l.eraseIdx i).Perm l
  | [], i, h => absurd h (Nat.not_lt_zero _)
  | x :: l, 0, _ => List.Perm.refl _
  | x :: l, i + 1, h => by
    have ih := erase_perm l i (by simpa using h)
    rw [List.getElem_cons_succ, List.eraseIdx_cons_succ]
    exact (List.Perm.swap x _ _).trans (ih.cons x)
theorem cut_one (l : List Int) : cut l none (some 1) = l.take 1 := by
  unfold cut
  have e1 : HT.sIx l.length 0 none = 0 := rfl
  have e2 : HT.sIx l.length l.length (some 1) = min 1 l.length := by
    show (if (1 : Int) < 0 then (1 + (l.length : Int)).toNat else min (1 : Int).toNat l.length) = _
    rw [if_neg (by omega)]
    rfl
  rw [e1, e2]
  cases l <;> simp
theorem cut_head (l : List Int) : cut l none (some (-1)) = l.take (l.length - 1) := by
  unfold cut
  have e1 : HT.sIx l.length 0 none = 0 := rfl
  have e2 : HT.sIx l.length l.length (some (-1)) = l.length - 1 := by
    show (if (-1 : Int) < 0 then (-1 + (l.length : Int)).toNat else min (-1 : Int).toNat l.length) = _
    rw [if_pos (by omega)]
    omega
  rw [e1, e2]
  simp
theorem cut_tail (l : List Int) : cut l (some 1) none = l.drop 1 := by
  unfold cut
  have e1 : HT.sIx l.length 0 (some 1) = min 1 l.length := by
    show (if (1 : Int) < 0 then (1 + (l.length : Int)).toNat else min (1 : Int).toNat l.length) = _
    rw [if_neg (by omega)]
    rfl
  have e2 : HT.sIx l.length l.length none = l.length := rfl
  rw [e1, e2]
  cases l with
  | nil => rfl
  | cons x l =>
    have : min 1 (x :: l).length = 1 := by simp
    rw [this, List.take_of_length_le (by simp)]
theorem len_rng {l : List Int} {N : Nat} (h : l.Nodup) (s : ∀ p ∈ l, 0 ≤ p ∧ p < (N : Int)) : l.length ≤ N := by
  have := nodup_len (l := l) (m := (List.range N).map fun i => ((i : Nat) : Int)) h fun x hx => by
    have := s x hx
    exact List.mem_map.mpr ⟨x.toNat, List.mem_range.mpr (by omega), by omega⟩
  simpa using this
end Hh

namespace K43
open PySem PySem.Spec PyProof.Rows L2 Nz
def topS (i : Nat) : Stmt := PySem.Challenge.pw_noshorterplan_k43_whole_nets_of_times_be.main.body.getD i (.Pass ⟨0, 0, 0, 0⟩)
def m_law_take (a : Int) : Pg Int := Pg.take a
def qL : Str := Str.ofString ""
structure Md (mg : Str → Option Value) : Prop where
  abs : mg "abs" = none
  all : mg "all" = none
  any : mg "any" = none
  enumerate : mg "enumerate" = none
  int : mg "int" = none
  len : mg "len" = none
  list : mg "list" = none
  max : mg "max" = none
  min : mg "min" = none
  range : mg "range" = none
  sorted : mg "sorted" = none
  sum : mg "sum" = none
  tuple : mg "tuple" = none
  zip : mg "zip" = none
  c_MOST_POINTS : ∃ u, mg "MOST_POINTS" = some u ∧ RelV (.int 8) u
section
variable {P : Program} {w : World} {K : PySem.W.Frag} {mg : Str → Option Value} {base : Heap} {Pt cc : Addr}
abbrev s_check_net : Stmt := topS 5
theorem sc_check_net : FnScope ["net", "many", "bounds", "good", "a", "b", "most"] ["net"] (defScope s_check_net) := ⟨rfl, rfl, rfl, by decide +kernel, rfl, by decide +kernel, by decide +kernel⟩
def m_check_net (a : (Int × (List (Int × Int × Int)))) : Pg Unit := Pg.outGU ((pure a : Pg (Int × (List (Int × Int × Int)))) >>= fun u_1 => (Pg.comp u_1.2 (fun y2 => pure true) (fun y2 => (Pg.andG (Pg.andG (pure (decide ((0 : Int) ≤ y2.1))) (pure (decide (y2.1 < u_1.1))) >>= fun b3 => (pure (b3))) (Pg.andG (Pg.andG (pure (decide ((0 : Int) ≤ y2.2.1))) (pure (decide (y2.2.1 < u_1.1))) >>= fun b4 => (pure (b4))) (Pg.andG (pure (decide ((-(99 : Int)) ≤ y2.2.2))) (pure (decide (y2.2.2 ≤ (99 : Int)))) >>= fun b5 => (pure (b5)))) >>= fun b6 => (pure (b6)))) >>= fun l7 => ((pure l7 : Pg (List Bool)) >>= fun good_8 => (Pg.orG (Pg.andG (pure (decide ((1 : Int) ≤ u_1.1))) (pure (decide (u_1.1 ≤ (8 : Int)))) >>= fun b9 => (pure ((!b9)))) (pure ((!((good_8).all id)))) >>= fun b10 => (Pg.ifG (pure (b10)) Pg.fail (pure (Ctl.nx ())) : Pg (Ctl Unit Empty Unit))))))
set_option maxHeartbeats 4000000 in
theorem cal_check_net (D : Nz.DefK K mg "check_net" s_check_net ["net"]) (md : Md mg) : Nz.Cal P w K mg base 1 "check_net" (Nz.spP (K := K) (f1 (rPr (fc rInt (f1 (rTup (rPr (fc rInt (fc rInt (f1 rInt))))))))) rNon (fun a => (m_check_net a).wp)) [] := by
  refine D.cal fun f fd F => F.ok sc_check_net (fun vs H Q E h => Nz.spP_len h) (fun cdv A outer s H vs Q E hr h => ?_)
  refine ⟨_, (pss_cons (ps_asg (pv 0) (Nz.pg_tupK K 2 rfl (pgs_cons (pg_name (i := 1) sc_check_net.nd rfl (Or.inr rfl) (Or.inl rfl)) (pgs_cons (pg_name (i := 2) sc_check_net.nd rfl (Or.inl rfl) (Or.inr rfl)) pgs_nil)))) (pss_cons (ps_setLc (i := 3) rfl sc_check_net.nd rfl rfl (sw_true rfl rfl rfl rfl) (own := [("a", 4), ("b", 5), ("most", 6)]) (pi_tK K (pv 2)) (blkOk_by (N := ["net", "many", "bounds", "good", "a", "b", "most"]) (sc := (defScope s_check_net)) (by decide +kernel)) (fun _ _ _ _ _ => (Nz.pg_tupK K 3 rfl (pgs_cons (pg_name (i := 4) sc_check_net.nd rfl (Or.inl rfl) (Or.inr rfl)) (pgs_cons (pg_name (i := 5) sc_check_net.nd rfl (Or.inl rfl) (Or.inr rfl)) (pgs_cons (pg_name (i := 6) sc_check_net.nd rfl (Or.inl rfl) (Or.inr rfl)) pgs_nil))))) (fun _ _ _ _ _ => pts_nil) (fun _ _ _ _ _ => (pe_and (pe_chain op_le op_lt pe_int (pv 4) (pv 1)) (pe_and (pe_chain op_le op_lt pe_int (pv 5) (pv 1)) (pe_one (pe_chain op_le op_le (pe_un un_neg pe_int) (pv 6) pe_int)))))) (pss_cons (ps_if (PW.pt (pw_or (pt_not (pt_chain op_le op_le pe_int (pv 1) (Nz.pe_gc (by rfl) md.c_MOST_POINTS))) (pw_or1 (pt_not (pt_val (pe_callB (cr_allK K) (by rfl) md.all (by decide +kernel) (pa_cons (pv 3) pa_nil))))))) (pss_cons ps_never pss_nil) pss_nil) pss_nil))), ?_⟩
  exact Nz.fnU (n := 6) Nz.prm_1 rfl (fun a => (Nz.bj_asgG (Nz.ev_var rfl) (Nz.gt_tup rfl (Nz.gts_cons Nz.gt_name (fun _ => (Nz.gts_nil Nz.gt_name)))) (by decide) (fun u_1 => (Nz.bj_asg (Nz.ev_l (Nz.el_lc (Nz.ir_iv (Nz.iv_tup (Nz.ev_var rfl))) (Nz.gt_tup rfl (Nz.gts_cons Nz.gt_name (fun _ => (Nz.gts_cons Nz.gt_name (fun _ => (Nz.gts_nil Nz.gt_name)))))) (by decide) (fun y2 => Nz.et_yes) (fun y2 => (Nz.ev_and (Nz.ev_chain (g := fun i j => decide (i ≤ j)) (g' := fun i j => decide (i < j)) (Nz.ev_int (i := 0)) (Nz.ev_var rfl) (Nz.ev_var rfl)) (Nz.ev_and (Nz.ev_chain (g := fun i j => decide (i ≤ j)) (g' := fun i j => decide (i < j)) (Nz.ev_int (i := 0)) (Nz.ev_var rfl) (Nz.ev_var rfl)) (Nz.ev_chain (g := fun i j => decide (i ≤ j)) (g' := fun i j => decide (i ≤ j)) (Nz.ev_neg (Nz.ev_int (i := 99))) (Nz.ev_var rfl) (Nz.ev_int (i := 99)))))))) (fun good_8 => (Nz.bj_ifD (Nz.et_or (Nz.et_not (Nz.et_T (Nz.ev_chain (g := fun i j => decide (i ≤ j)) (g' := fun i j => decide (i ≤ j)) (Nz.ev_int (i := 1)) (Nz.ev_var rfl) Nz.ev_int))) (Nz.et_not (Nz.et_B (Nz.ev_all (Nz.rl_ev (Nz.ev_var rfl)))))) (Nz.bj_seq Nz.bj_never) (Nz.bj_seq0 (Nz.bj_nx (s := ()) (Nz.wk_a (Nz.wk_a (Nz.wk_a (Nz.wk_a (Nz.wk_a (Nz.wk_a (Nz.wk_a Nz.Wks.nil))))))) (by decide))))))))) (fun a k => Eq.mp (by kernel_rfl)) h
abbrev s_closed_of : Stmt := topS 7
theorem sc_closed_of : FnScope ["net", "many", "bounds", "found", "j", "i", "a", "b", "most", "k", "told", "row"] ["net"] (defScope s_closed_of) := ⟨rfl, rfl, rfl, by decide +kernel, rfl, by decide +kernel, by decide +kernel⟩
def m_closed_of (a : (Int × (List (Int × Int × Int)))) : Pg (List (List (Option Int))) := Pg.outG ((pure a : Pg (Int × (List (Int × Int × Int)))) >>= fun u_1 => (Pg.ask (-100000 ≤ u_1.1 ∧ u_1.1 ≤ 100000) >>= fun _ => (Pg.comp (rg u_1.1) (fun y2 => pure true) (fun y2 => (Pg.ask (-100000 ≤ u_1.1 ∧ u_1.1 ≤ 100000) >>= fun _ => (Pg.comp (rg u_1.1) (fun y3 => pure true) (fun y3 => ((Pg.ifG (pure ((decide (y2 = y3)))) (pure ((some (0 : Int)))) (pure ((none : (Option Int)))) : Pg (Option Int)) >>= fun c4 => (pure (c4)))) >>= fun l5 => (pure (l5))))) >>= fun c7 => (((Pg.forc u_1.2 c7 (fun y10 s9 => (Pg.orG (Pg.opt (atI s9 y10.1) >>= fun row11 => (Pg.opt (atI row11 y10.2.1) >>= fun e12 => (pure ((e12).isNone)))) (Pg.opt (atI s9 y10.1) >>= fun row13 => (Pg.opt (atI row13 y10.2.1) >>= fun e14 => (Pg.opt e14 >>= fun o15 => (pure ((decide (y10.2.2 < o15))))))) >>= fun b16 => (Pg.iteG (pure (b16)) ((Pg.opt (atI s9 y10.1) >>= fun row18 => (Pg.opt (ixN (s9).length y10.1) >>= fun i19 => (Pg.opt (ixN (row18).length y10.2.1) >>= fun i20 => ((pure ((s9).set i19 ((row18).set i20 (some y10.2.2))) : Pg (List (List (Option Int)))) >>= fun c21 => (pure (Ctl.nx c21)))))) : Pg (Ctl (List (List (Option Int))) (List (List (Option Int))) (List (List (Option Int))))) (pure (Ctl.nx s9)) (fun s17 => (pure (Ctl.nx s17)))))) : Pg (Ctl (List (List (Option Int))) Empty (List (List (Option Int))))) >>= Pg.seqG (fun s9 => (Pg.ask (-100000 ≤ u_1.1 ∧ u_1.1 ≤ 100000) >>= fun _ => ((Pg.forc (rg u_1.1) s9 (fun y23 s22 => (Pg.ask (-100000 ≤ u_1.1 ∧ u_1.1 ≤ 100000) >>= fun _ => ((Pg.forc (rg u_1.1) s22 (fun y25 s24 => (Pg.ask (-100000 ≤ u_1.1 ∧ u_1.1 ≤ 100000) >>= fun _ => ((Pg.forc (rg u_1.1) s24 (fun y27 s26 => (Pg.andG (Pg.opt (atI s26 y25) >>= fun row28 => (Pg.opt (atI row28 y23) >>= fun e29 => (pure ((e29).isSome)))) (Pg.opt (atI s26 y23) >>= fun row30 => (Pg.opt (atI row30 y27) >>= fun e31 => (pure ((e31).isSome)))) >>= fun b32 => (Pg.iteG (pure (b32)) ((Pg.opt (atI s26 y25) >>= fun row34 => (Pg.opt (atI row34 y23) >>= fun e35 => (Pg.opt e35 >>= fun o36 => (Pg.opt (atI s26 y23) >>= fun row37 => (Pg.opt (atI row37 y27) >>= fun e38 => (Pg.opt e38 >>= fun o39 => ((pure (o36 + o39) : Pg Int) >>= fun told_40 => (Pg.orG (Pg.opt (atI s26 y25) >>= fun row41 => (Pg.opt (atI row41 y27) >>= fun e42 => (pure ((e42).isNone)))) (Pg.opt (atI s26 y25) >>= fun row43 => (Pg.opt (atI row43 y27) >>= fun e44 => (Pg.opt e44 >>= fun o45 => (pure ((decide (told_40 < o45))))))) >>= fun b46 => (Pg.iteG (pure (b46)) ((Pg.opt (atI s26 y25) >>= fun row48 => (Pg.opt (ixN (s26).length y25) >>= fun i49 => (Pg.opt (ixN (row48).length y27) >>= fun i50 => ((pure ((s26).set i49 ((row48).set i50 (some told_40))) : Pg (List (List (Option Int)))) >>= fun c51 => (pure (Ctl.nx c51)))))) : Pg (Ctl (List (List (Option Int))) (List (List (Option Int))) (List (List (Option Int))))) (pure (Ctl.nx s26)) (fun s47 => (pure (Ctl.nx s47)))))))))))) : Pg (Ctl (List (List (Option Int))) (List (List (Option Int))) (List (List (Option Int))))) (pure (Ctl.nx s26)) (fun s33 => (pure (Ctl.nx s33)))))) : Pg (Ctl (List (List (Option Int))) (List (List (Option Int))) (List (List (Option Int))))) >>= Pg.seqG (fun s26 => (pure (Ctl.nx s26)))))) : Pg (Ctl (List (List (Option Int))) (List (List (Option Int))) (List (List (Option Int))))) >>= Pg.seqG (fun s24 => (pure (Ctl.nx s24)))))) : Pg (Ctl (List (List (Option Int))) Empty (List (List (Option Int))))) >>= Pg.seqG (fun s22 => (pure (Ctl.nx s22))))))) >>= Pg.seqEG (fun c52 => (Pg.comp c52 (fun y53 => pure true) (fun y53 => (pure (y53))) >>= fun l54 => (pure (Ctl.rt l54))))))))
set_option maxHeartbeats 4000000 in
theorem cal_closed_of (D : Nz.DefK K mg "closed_of" s_closed_of ["net"]) (md : Md mg) : Nz.Cal P w K mg base 1 "closed_of" (Nz.spP (K := K) (f1 (rPr (fc rInt (f1 (rTup (rPr (fc rInt (fc rInt (f1 rInt))))))))) (rTup (rTup (rOpt rInt))) (fun a => (m_closed_of a).wp)) [] := by
  refine D.cal fun f fd F => F.ok sc_closed_of (fun vs H Q E h => Nz.spP_len h) (fun cdv A outer s H vs Q E hr h => ?_)
  refine ⟨_, (pss_cons (ps_asg (pv 0) (Nz.pg_tupK K 2 rfl (pgs_cons (pg_name (i := 1) sc_closed_of.nd rfl (Or.inr rfl) (Or.inl rfl)) (pgs_cons (pg_name (i := 2) sc_closed_of.nd rfl (Or.inl rfl) (Or.inr rfl)) pgs_nil)))) (pss_cons (ps_setLc (i := 3) rfl sc_closed_of.nd rfl rfl (sw_true rfl rfl rfl rfl) (own := [("i", 5)]) (pi_range1 (by rfl) md.range (pa_cons (pv 1) pa_nil)) (blkOk_by (N := ["net", "many", "bounds", "found", "j", "i", "a", "b", "most", "k", "told", "row"]) (sc := (defScope s_closed_of)) (by decide +kernel)) (fun _ _ _ _ _ => (pg_name (i := 5) sc_closed_of.nd rfl (Or.inr rfl) (Or.inl rfl))) (fun _ _ _ _ _ => pts_nil) (fun _ _ _ _ _ => (pe_lc (own := [("j", 4)]) rfl sc_closed_of.nd (pi_range1 (by rfl) md.range (pa_cons (pv 1) pa_nil)) (blkOk_by (N := ["net", "many", "bounds", "found", "j", "i", "a", "b", "most", "k", "told", "row"]) (sc := ⟨.function, [(Str.ofString ".0", NameKind.local), (Str.ofString "i", NameKind.cell), (Str.ofString "range", NameKind.globalImplicit), (Str.ofString "many", NameKind.cell)], false, false, []⟩) (by decide +kernel)) (fun _ _ _ _ _ => (pg_name (i := 4) sc_closed_of.nd rfl (Or.inl rfl) (Or.inr rfl))) (fun _ _ _ _ _ => pts_nil) (fun _ _ _ _ _ => (pe_ifExp (pt_cmpR op_eq (pv 5) (pv 4) (by rfl)) pe_int pe_non))))) (pss_cons (ps_for PassesOwn.never rfl (pi_tK K (pv 2)) (Nz.pg_tupK K 3 rfl (pgs_cons (pg_name (i := 6) sc_closed_of.nd rfl (Or.inl rfl) (Or.inr rfl)) (pgs_cons (pg_name (i := 7) sc_closed_of.nd rfl (Or.inl rfl) (Or.inr rfl)) (pgs_cons (pg_name (i := 8) sc_closed_of.nd rfl (Or.inl rfl) (Or.inr rfl)) pgs_nil)))) (pss_cons (ps_if (PW.pt (pw_or (pt_cmp (pc_isN (pe_ix (ix_lK K) (pe_ix (ix_lK K) (pv 3) (pv 6) (fun _ _ => rfl)) (pv 7) (fun _ _ => rfl)))) (pw_or1 (pt_cmpR op_lt (pv 8) (pe_ix (ix_lK K) (pe_ix (ix_lK K) (pv 3) (pv 6) (fun _ _ => rfl)) (pv 7) (fun _ _ => rfl)) (by rfl))))) (pss_cons (ps_asg (pv 8) (pg_sub (pe_ix (ix_lK K) (pv 3) (pv 6) (fun _ _ => rfl)) (pv 7) set_list)) pss_nil) pss_nil) pss_nil)) (pss_cons (ps_for PassesOwn.never rfl (pi_range1 (by rfl) md.range (pa_cons (pv 1) pa_nil)) (pg_name (i := 9) sc_closed_of.nd rfl (Or.inl rfl) (Or.inr rfl)) (pss_cons (ps_for PassesOwn.never rfl (pi_range1 (by rfl) md.range (pa_cons (pv 1) pa_nil)) (pg_name (i := 5) sc_closed_of.nd rfl (Or.inl rfl) (Or.inr rfl)) (pss_cons (ps_for PassesOwn.never rfl (pi_range1 (by rfl) md.range (pa_cons (pv 1) pa_nil)) (pg_name (i := 4) sc_closed_of.nd rfl (Or.inl rfl) (Or.inr rfl)) (pss_cons (ps_if (PW.pt (pw_and (pt_cmp (pc_notN (pe_ix (ix_lK K) (pe_ix (ix_lK K) (pv 3) (pv 5) (fun _ _ => rfl)) (pv 9) (fun _ _ => rfl)))) (pw_and1 (pt_cmp (pc_notN (pe_ix (ix_lK K) (pe_ix (ix_lK K) (pv 3) (pv 9) (fun _ _ => rfl)) (pv 4) (fun _ _ => rfl))))))) (pss_cons (ps_set (i := 10) sc_closed_of.nd rfl (Or.inl rfl) (pe_op op_add (pe_ix (ix_lK K) (pe_ix (ix_lK K) (pv 3) (pv 5) (fun _ _ => rfl)) (pv 9) (fun _ _ => rfl)) (pe_ix (ix_lK K) (pe_ix (ix_lK K) (pv 3) (pv 9) (fun _ _ => rfl)) (pv 4) (fun _ _ => rfl)))) (pss_cons (ps_if (PW.pt (pw_or (pt_cmp (pc_isN (pe_ix (ix_lK K) (pe_ix (ix_lK K) (pv 3) (pv 5) (fun _ _ => rfl)) (pv 4) (fun _ _ => rfl)))) (pw_or1 (pt_cmpR op_lt (pv 10) (pe_ix (ix_lK K) (pe_ix (ix_lK K) (pv 3) (pv 5) (fun _ _ => rfl)) (pv 4) (fun _ _ => rfl)) (by rfl))))) (pss_cons (ps_asg (pv 10) (pg_sub (pe_ix (ix_lK K) (pv 3) (pv 5) (fun _ _ => rfl)) (pv 4) set_list)) pss_nil) pss_nil) pss_nil)) pss_nil) pss_nil)) pss_nil)) pss_nil)) (pss_cons (ps_ret (pe_callTy (cr_tupK K) (by rfl) md.tuple (by decide +kernel) (pa_cons (pe_lc (own := [("row", 11)]) rfl sc_closed_of.nd (pi_lK K (pv 3)) (blkOk_by (N := ["net", "many", "bounds", "found", "j", "i", "a", "b", "most", "k", "told", "row"]) (sc := (defScope s_closed_of)) (by decide +kernel)) (fun _ _ _ _ _ => (pg_name (i := 11) sc_closed_of.nd rfl (Or.inl rfl) (Or.inr rfl))) (fun _ _ _ _ _ => pts_nil) (fun _ _ _ _ _ => (pe_callTy (cr_tupK K) (by rfl) md.tuple (by decide +kernel) (pa_cons (pv 11) pa_nil)))) pa_nil))) pss_nil))))), ?_⟩
  exact Nz.fnP (n := 11) Nz.prm_1 rfl (fun a => (Nz.bj_asgG (Nz.ev_var rfl) (Nz.gt_tup rfl (Nz.gts_cons Nz.gt_name (fun _ => (Nz.gts_nil Nz.gt_name)))) (by decide) (fun u_1 => (Nz.bj_mat2 (i := 3) (sl0 := [(slV (rPr (fc rInt (f1 (rTup (rPr (fc rInt (fc rInt (f1 rInt)))))))) a), (slV rInt u_1.1), (slV (rTup (rPr (fc rInt (fc rInt (f1 rInt))))) u_1.2), slAny, slAny, slAny, slAny, slAny, slAny, slAny, slAny, slAny]) (oM := []) (Nz.flat_opt Nz.flat_int) (Nz.el_lcM (Nz.flat_opt Nz.flat_int) (Nz.ir_iv (Nz.iv_rng1 (Nz.ev_var rfl))) Nz.gt_name (by decide) (fun y2 => (Nz.el_lc (Nz.ir_iv (Nz.iv_rng1 (Nz.ev_var rfl))) Nz.gt_name (by decide) (fun y3 => Nz.et_yes) (fun y3 => (Nz.ev_if (Nz.et_T (Nz.ev_eqI (Nz.ev_var rfl) (Nz.ev_var rfl))) (Nz.ev_some Nz.nn_int (Nz.ev_int (i := 0))) (Nz.ev_none (r := rInt))))))) (of_decide_eq_true rfl) (of_decide_eq_true rfl) (fun qs8 c7 => (Nz.vj_for (ES := (fun (s9 : (List (List (Option Int)))) => Nz.effM _ (rOpt rInt) (Nz.flat_opt Nz.flat_int) qs8 s9)) (fS := (fun (s9 : (List (List (Option Int)))) => [(slV (rPr (fc rInt (f1 (rTup (rPr (fc rInt (fc rInt (f1 rInt)))))))) a), (slV rInt u_1.1), (slV (rTup (rPr (fc rInt (fc rInt (f1 rInt))))) u_1.2), (slV (rLst Nz.rRef) qs8), slAny, slAny, slAny, slAny, slAny, slAny, slAny, slAny])) (oS := []) (s0 := c7) (Nz.iv_tup (Nz.ev_var rfl)) rfl (Nz.wk_k rfl (Nz.wk_k rfl (Nz.wk_k rfl (Nz.wk_k rfl (Nz.wk_a (Nz.wk_a (Nz.wk_a (Nz.wk_a (Nz.wk_a (Nz.wk_a (Nz.wk_a (Nz.wk_a Nz.Wks.nil)))))))))))) (by decide) (fun s9 => (Nz.gt_tup rfl (Nz.gts_cons Nz.gt_name (fun _ => (Nz.gts_cons Nz.gt_name (fun _ => (Nz.gts_nil Nz.gt_name))))))) (by decide) (fun s9 y10 => (Nz.vj_if (EM := (fun (s17 : (List (List (Option Int)))) => Nz.effM _ (rOpt rInt) (Nz.flat_opt Nz.flat_int) qs8 s17)) (fM := (fun (s17 : (List (List (Option Int)))) => [(slV (rPr (fc rInt (f1 (rTup (rPr (fc rInt (fc rInt (f1 rInt)))))))) a), (slV rInt u_1.1), (slV (rTup (rPr (fc rInt (fc rInt (f1 rInt))))) u_1.2), (slV (rLst Nz.rRef) qs8), slAny, slAny, (slV rInt y10.1), (slV rInt y10.2.1), (slV rInt y10.2.2), slAny, slAny, slAny])) (oM := []) (Nz.et_or (Nz.et_B (Nz.ev_isN (Nz.ev_mat rfl (Nz.ev_var rfl) (Nz.ev_var rfl)))) (Nz.et_T (Nz.ev_B0 (g := fun i j => decide (i < j)) (Nz.ev_var rfl) (Nz.ev_get (Nz.ev_mat rfl (Nz.ev_var rfl) (Nz.ev_var rfl)))))) (Nz.vj_put rfl (Nz.ev_some Nz.nn_int (Nz.ev_var rfl)) (Nz.ev_var rfl) (Nz.ev_var rfl) (fun c21 => (Nz.vj_nx (s := c21) rfl (Nz.wk_k rfl (Nz.wk_k rfl (Nz.wk_k rfl (Nz.wk_k rfl (Nz.wk_a (Nz.wk_a (Nz.wk_k rfl (Nz.wk_k rfl (Nz.wk_k rfl (Nz.wk_a (Nz.wk_a (Nz.wk_a Nz.Wks.nil)))))))))))) (by decide)))) (Nz.vj_nx (s := s9) rfl (Nz.wk_k rfl (Nz.wk_k rfl (Nz.wk_k rfl (Nz.wk_k rfl (Nz.wk_a (Nz.wk_a (Nz.wk_k rfl (Nz.wk_k rfl (Nz.wk_k rfl (Nz.wk_a (Nz.wk_a (Nz.wk_a Nz.Wks.nil)))))))))))) (by decide)) (fun s17 => (Nz.vj_nx (s := s17) rfl (Nz.wk_k rfl (Nz.wk_k rfl (Nz.wk_k rfl (Nz.wk_k rfl (Nz.wk_a (Nz.wk_a (Nz.wk_a (Nz.wk_a (Nz.wk_a (Nz.wk_a (Nz.wk_a (Nz.wk_a Nz.Wks.nil)))))))))))) (by decide))))) (fun s9 => (Nz.vj_for (ES := (fun (s22 : (List (List (Option Int)))) => Nz.effM _ (rOpt rInt) (Nz.flat_opt Nz.flat_int) qs8 s22)) (fS := (fun (s22 : (List (List (Option Int)))) => [(slV (rPr (fc rInt (f1 (rTup (rPr (fc rInt (fc rInt (f1 rInt)))))))) a), (slV rInt u_1.1), (slV (rTup (rPr (fc rInt (fc rInt (f1 rInt))))) u_1.2), (slV (rLst Nz.rRef) qs8), slAny, slAny, slAny, slAny, slAny, slAny, slAny, slAny])) (oS := []) (s0 := s9) (Nz.iv_rng1 (Nz.ev_var rfl)) rfl (Nz.wk_k rfl (Nz.wk_k rfl (Nz.wk_k rfl (Nz.wk_k rfl (Nz.wk_a (Nz.wk_a (Nz.wk_a (Nz.wk_a (Nz.wk_a (Nz.wk_a (Nz.wk_a (Nz.wk_a Nz.Wks.nil)))))))))))) (by decide) (fun s22 => Nz.gt_name) (by decide) (fun s22 y23 => (Nz.vj_for (ES := (fun (s24 : (List (List (Option Int)))) => Nz.effM _ (rOpt rInt) (Nz.flat_opt Nz.flat_int) qs8 s24)) (fS := (fun (s24 : (List (List (Option Int)))) => [(slV (rPr (fc rInt (f1 (rTup (rPr (fc rInt (fc rInt (f1 rInt)))))))) a), (slV rInt u_1.1), (slV (rTup (rPr (fc rInt (fc rInt (f1 rInt))))) u_1.2), (slV (rLst Nz.rRef) qs8), slAny, slAny, slAny, slAny, slAny, (slV rInt y23), slAny, slAny])) (oS := []) (s0 := s22) (Nz.iv_rng1 (Nz.ev_var rfl)) rfl (Nz.wk_k rfl (Nz.wk_k rfl (Nz.wk_k rfl (Nz.wk_k rfl (Nz.wk_a (Nz.wk_a (Nz.wk_a (Nz.wk_a (Nz.wk_a (Nz.wk_k rfl (Nz.wk_a (Nz.wk_a Nz.Wks.nil)))))))))))) (by decide) (fun s24 => Nz.gt_name) (by decide) (fun s24 y25 => (Nz.vj_for (ES := (fun (s26 : (List (List (Option Int)))) => Nz.effM _ (rOpt rInt) (Nz.flat_opt Nz.flat_int) qs8 s26)) (fS := (fun (s26 : (List (List (Option Int)))) => [(slV (rPr (fc rInt (f1 (rTup (rPr (fc rInt (fc rInt (f1 rInt)))))))) a), (slV rInt u_1.1), (slV (rTup (rPr (fc rInt (fc rInt (f1 rInt))))) u_1.2), (slV (rLst Nz.rRef) qs8), slAny, (slV rInt y25), slAny, slAny, slAny, (slV rInt y23), slAny, slAny])) (oS := []) (s0 := s24) (Nz.iv_rng1 (Nz.ev_var rfl)) rfl (Nz.wk_k rfl (Nz.wk_k rfl (Nz.wk_k rfl (Nz.wk_k rfl (Nz.wk_a (Nz.wk_k rfl (Nz.wk_a (Nz.wk_a (Nz.wk_a (Nz.wk_k rfl (Nz.wk_a (Nz.wk_a Nz.Wks.nil)))))))))))) (by decide) (fun s26 => Nz.gt_name) (by decide) (fun s26 y27 => (Nz.vj_if (EM := (fun (s33 : (List (List (Option Int)))) => Nz.effM _ (rOpt rInt) (Nz.flat_opt Nz.flat_int) qs8 s33)) (fM := (fun (s33 : (List (List (Option Int)))) => [(slV (rPr (fc rInt (f1 (rTup (rPr (fc rInt (fc rInt (f1 rInt)))))))) a), (slV rInt u_1.1), (slV (rTup (rPr (fc rInt (fc rInt (f1 rInt))))) u_1.2), (slV (rLst Nz.rRef) qs8), (slV rInt y27), (slV rInt y25), slAny, slAny, slAny, (slV rInt y23), slAny, slAny])) (oM := []) (Nz.et_and (Nz.et_B (Nz.ev_notN (Nz.ev_mat rfl (Nz.ev_var rfl) (Nz.ev_var rfl)))) (Nz.et_B (Nz.ev_notN (Nz.ev_mat rfl (Nz.ev_var rfl) (Nz.ev_var rfl))))) (Nz.vj_asg (Nz.ev_I0 (g := fun i j => i + j) (Nz.ev_get (Nz.ev_mat rfl (Nz.ev_var rfl) (Nz.ev_var rfl))) (Nz.ev_get (Nz.ev_mat rfl (Nz.ev_var rfl) (Nz.ev_var rfl)))) (fun told_40 => (Nz.vj_if (EM := (fun (s47 : (List (List (Option Int)))) => Nz.effM _ (rOpt rInt) (Nz.flat_opt Nz.flat_int) qs8 s47)) (fM := (fun (s47 : (List (List (Option Int)))) => [(slV (rPr (fc rInt (f1 (rTup (rPr (fc rInt (fc rInt (f1 rInt)))))))) a), (slV rInt u_1.1), (slV (rTup (rPr (fc rInt (fc rInt (f1 rInt))))) u_1.2), (slV (rLst Nz.rRef) qs8), (slV rInt y27), (slV rInt y25), slAny, slAny, slAny, (slV rInt y23), (slV rInt told_40), slAny])) (oM := []) (Nz.et_or (Nz.et_B (Nz.ev_isN (Nz.ev_mat rfl (Nz.ev_var rfl) (Nz.ev_var rfl)))) (Nz.et_T (Nz.ev_B0 (g := fun i j => decide (i < j)) (Nz.ev_var rfl) (Nz.ev_get (Nz.ev_mat rfl (Nz.ev_var rfl) (Nz.ev_var rfl)))))) (Nz.vj_put rfl (Nz.ev_some Nz.nn_int (Nz.ev_var rfl)) (Nz.ev_var rfl) (Nz.ev_var rfl) (fun c51 => (Nz.vj_nx (s := c51) rfl (Nz.wk_k rfl (Nz.wk_k rfl (Nz.wk_k rfl (Nz.wk_k rfl (Nz.wk_k rfl (Nz.wk_k rfl (Nz.wk_a (Nz.wk_a (Nz.wk_a (Nz.wk_k rfl (Nz.wk_k rfl (Nz.wk_a Nz.Wks.nil)))))))))))) (by decide)))) (Nz.vj_nx (s := s26) rfl (Nz.wk_k rfl (Nz.wk_k rfl (Nz.wk_k rfl (Nz.wk_k rfl (Nz.wk_k rfl (Nz.wk_k rfl (Nz.wk_a (Nz.wk_a (Nz.wk_a (Nz.wk_k rfl (Nz.wk_k rfl (Nz.wk_a Nz.Wks.nil)))))))))))) (by decide)) (fun s47 => (Nz.vj_nx (s := s47) rfl (Nz.wk_k rfl (Nz.wk_k rfl (Nz.wk_k rfl (Nz.wk_k rfl (Nz.wk_k rfl (Nz.wk_k rfl (Nz.wk_a (Nz.wk_a (Nz.wk_a (Nz.wk_k rfl (Nz.wk_a (Nz.wk_a Nz.Wks.nil)))))))))))) (by decide)))))) (Nz.vj_nx (s := s26) rfl (Nz.wk_k rfl (Nz.wk_k rfl (Nz.wk_k rfl (Nz.wk_k rfl (Nz.wk_k rfl (Nz.wk_k rfl (Nz.wk_a (Nz.wk_a (Nz.wk_a (Nz.wk_k rfl (Nz.wk_a (Nz.wk_a Nz.Wks.nil)))))))))))) (by decide)) (fun s33 => (Nz.vj_nx (s := s33) rfl (Nz.wk_k rfl (Nz.wk_k rfl (Nz.wk_k rfl (Nz.wk_k rfl (Nz.wk_a (Nz.wk_k rfl (Nz.wk_a (Nz.wk_a (Nz.wk_a (Nz.wk_k rfl (Nz.wk_a (Nz.wk_a Nz.Wks.nil)))))))))))) (by decide))))) (fun s26 => (Nz.vj_nx (s := s26) rfl (Nz.wk_k rfl (Nz.wk_k rfl (Nz.wk_k rfl (Nz.wk_k rfl (Nz.wk_a (Nz.wk_a (Nz.wk_a (Nz.wk_a (Nz.wk_a (Nz.wk_k rfl (Nz.wk_a (Nz.wk_a Nz.Wks.nil)))))))))))) (by decide))))) (fun s24 => (Nz.vj_nx (s := s24) rfl (Nz.wk_k rfl (Nz.wk_k rfl (Nz.wk_k rfl (Nz.wk_k rfl (Nz.wk_a (Nz.wk_a (Nz.wk_a (Nz.wk_a (Nz.wk_a (Nz.wk_a (Nz.wk_a (Nz.wk_a Nz.Wks.nil)))))))))))) (by decide))))) (fun s22 => (Nz.vj_nx (s := s22) rfl (Nz.wk_k rfl (Nz.wk_k rfl (Nz.wk_k rfl (Nz.wk_k rfl (Nz.wk_a (Nz.wk_a (Nz.wk_a (Nz.wk_a (Nz.wk_a (Nz.wk_a (Nz.wk_a (Nz.wk_a Nz.Wks.nil)))))))))))) (by decide))))))) (fun c52 => (Nz.bj_ret (Nz.ev_tupL (Nz.rl_l (Nz.el_lc (Nz.ir_iv (Nz.iv_list (Nz.ev_var rfl))) Nz.gt_name (by decide) (fun y53 => Nz.et_yes) (fun y53 => (Nz.ev_tupL (Nz.rl_ev (Nz.ev_var rfl))))))))))))) (fun a k => Eq.mp (by kernel_rfl)) h
abbrev s_closed_net : Stmt := topS 6
theorem sc_closed_net : FnScope ["net"] ["net"] (defScope s_closed_net) := ⟨rfl, rfl, rfl, by decide +kernel, rfl, by decide +kernel, by decide +kernel⟩
def m_closed_net (a : (Int × (List (Int × Int × Int)))) : Pg (List (List (Option Int))) := Pg.outG (m_check_net a >>= fun r1 => (m_closed_of a >>= fun r2 => (pure (Ctl.rt r2))))
set_option maxHeartbeats 4000000 in
theorem cal_closed_net (D : Nz.DefK K mg "closed_net" s_closed_net ["net"]) (md : Md mg) (c_check_net : Nz.Cal P w K mg base 1 "check_net" (Nz.spP (K := K) (f1 (rPr (fc rInt (f1 (rTup (rPr (fc rInt (fc rInt (f1 rInt))))))))) rNon (fun a => (m_check_net a).wp)) []) (c_closed_of : Nz.Cal P w K mg base 1 "closed_of" (Nz.spP (K := K) (f1 (rPr (fc rInt (f1 (rTup (rPr (fc rInt (fc rInt (f1 rInt))))))))) (rTup (rTup (rOpt rInt))) (fun a => (m_closed_of a).wp)) []) : Nz.Cal P w K mg base 2 "closed_net" (Nz.spP (K := K) (f1 (rPr (fc rInt (f1 (rTup (rPr (fc rInt (fc rInt (f1 rInt))))))))) (rTup (rTup (rOpt rInt))) (fun a => (m_closed_net a).wp)) [] := by
  refine D.cal fun f fd F => F.ok sc_closed_net (fun vs H Q E h => Nz.spP_len h) (fun cdv A outer s H vs Q E hr h => ?_)
  refine ⟨_, (pss_cons (ps_expr (Nz.pe_c c_check_net hr (by decide) (by rfl) (pa_cons (pv 0) pa_nil))) (pss_cons (ps_ret (Nz.pe_c c_closed_of hr (by decide) (by rfl) (pa_cons (pv 0) pa_nil))) pss_nil)), ?_⟩
  exact Nz.fnP (n := 0) Nz.prm_1 rfl (fun a => (Nz.bj_drop (Nz.ev_call (Nz.ea_1 (Nz.ev_var rfl))) (fun _ => (Nz.bj_ret (Nz.ev_call (Nz.ea_1 (Nz.ev_var rfl))))))) (fun a k => Eq.mp (by kernel_rfl)) h
abbrev s_fits : Stmt := topS 8
theorem sc_fits : FnScope ["net", "told", "k"] ["net"] (defScope s_fits) := ⟨rfl, rfl, rfl, by decide +kernel, rfl, by decide +kernel, by decide +kernel⟩
def m_fits (a : (Int × (List (Int × Int × Int)))) : Pg Bool := Pg.outG (m_closed_net a >>= fun r1 => ((pure r1 : Pg (List (List (Option Int)))) >>= fun told_2 => (Pg.ask (-100000 ≤ a.1 ∧ a.1 ≤ 100000) >>= fun _ => (Pg.comp (rg a.1) (fun y3 => pure true) (fun y3 => (Pg.opt (atI told_2 y3) >>= fun e4 => (Pg.opt (atI e4 y3) >>= fun e5 => (Pg.opt e5 >>= fun o6 => (pure ((decide ((0 : Int) ≤ o6)))))))) >>= fun l7 => (pure (Ctl.rt ((l7).all id)))))))
set_option maxHeartbeats 4000000 in
theorem cal_fits (D : Nz.DefK K mg "fits" s_fits ["net"]) (md : Md mg) (c_closed_net : Nz.Cal P w K mg base 2 "closed_net" (Nz.spP (K := K) (f1 (rPr (fc rInt (f1 (rTup (rPr (fc rInt (fc rInt (f1 rInt))))))))) (rTup (rTup (rOpt rInt))) (fun a => (m_closed_net a).wp)) []) : Nz.Cal P w K mg base 3 "fits" (Nz.spP (K := K) (f1 (rPr (fc rInt (f1 (rTup (rPr (fc rInt (fc rInt (f1 rInt))))))))) rBl (fun a => (m_fits a).wp)) [] := by
  refine D.cal fun f fd F => F.ok sc_fits (fun vs H Q E h => Nz.spP_len h) (fun cdv A outer s H vs Q E hr h => ?_)
  refine ⟨_, (pss_cons (ps_set (i := 1) sc_fits.nd rfl (Or.inr rfl) (Nz.pe_c c_closed_net hr (by decide) (by rfl) (pa_cons (pv 0) pa_nil))) (pss_cons (ps_ret (pe_callB (cr_allK K) (by rfl) md.all (by decide +kernel) (pa_cons (pe_lc (own := [("k", 2)]) rfl sc_fits.nd (pi_range1 (by rfl) md.range (pa_cons (pe_ix (ix_tK K) (pv 0) pe_int (fun _ _ => rfl)) pa_nil)) (blkOk_by (N := ["net", "told", "k"]) (sc := (defScope s_fits)) (by decide +kernel)) (fun _ _ _ _ _ => (pg_name (i := 2) sc_fits.nd rfl (Or.inl rfl) (Or.inr rfl))) (fun _ _ _ _ _ => pts_nil) (fun _ _ _ _ _ => (pe_cmpR op_ge (pe_ix (ix_tK K) (pe_ix (ix_tK K) (pv 1) (pv 2) (fun _ _ => rfl)) (pv 2) (fun _ _ => rfl)) pe_int (by rfl)))) pa_nil))) pss_nil)), ?_⟩
  exact Nz.fnP (n := 2) Nz.prm_1 rfl (fun a => (Nz.bj_asg (Nz.ev_call (Nz.ea_1 (Nz.ev_var rfl))) (fun told_2 => (Nz.bj_ret (Nz.ev_all (Nz.rl_l (Nz.el_lc (Nz.ir_iv (Nz.iv_rng1 (Nz.ev_fld (i := 0) Nz.fld_0 (Nz.ev_var rfl)))) Nz.gt_name (by decide) (fun y3 => Nz.et_yes) (fun y3 => (Nz.ev_B0 (g := fun i j => decide (j ≤ i)) (Nz.ev_get (Nz.ev_ixT (Nz.rt_ev (Nz.ev_ixT (Nz.rt_ev (Nz.ev_var rfl)) (Nz.ev_var rfl))) (Nz.ev_var rfl))) (Nz.ev_int (i := 0))))))))))) (fun a k => Eq.mp (by kernel_rfl)) h
abbrev s_keeps : Stmt := topS 9
theorem sc_keeps : FnScope ["net", "times", "a", "b", "most"] ["net", "times"] (defScope s_keeps) := ⟨rfl, rfl, rfl, by decide +kernel, rfl, by decide +kernel, by decide +kernel⟩
def m_keeps (a : ((Int × (List (Int × Int × Int))) × (List Int))) : Pg Bool := Pg.outG (m_check_net a.1 >>= fun r1 => (Pg.andG (pure ((decide (((a.2).length : Int) = a.1.1)))) (Pg.comp a.1.2 (fun y2 => pure true) (fun y2 => (Pg.opt (atI a.2 y2.2.1) >>= fun e3 => (Pg.opt (atI a.2 y2.1) >>= fun e4 => (pure ((decide ((e3 - e4) ≤ y2.2.2))))))) >>= fun l5 => (pure (((l5).all id)))) >>= fun b6 => (pure (Ctl.rt b6))))
set_option maxHeartbeats 4000000 in
theorem cal_keeps (D : Nz.DefK K mg "keeps" s_keeps ["net", "times"]) (md : Md mg) (c_check_net : Nz.Cal P w K mg base 1 "check_net" (Nz.spP (K := K) (f1 (rPr (fc rInt (f1 (rTup (rPr (fc rInt (fc rInt (f1 rInt))))))))) rNon (fun a => (m_check_net a).wp)) []) : Nz.Cal P w K mg base 2 "keeps" (Nz.spP (K := K) (fc (rPr (fc rInt (f1 (rTup (rPr (fc rInt (fc rInt (f1 rInt)))))))) (f1 (rTup rInt))) rBl (fun a => (m_keeps a).wp)) [] := by
  refine D.cal fun f fd F => F.ok sc_keeps (fun vs H Q E h => Nz.spP_len h) (fun cdv A outer s H vs Q E hr h => ?_)
  refine ⟨_, (pss_cons (ps_expr (Nz.pe_c c_check_net hr (by decide) (by rfl) (pa_cons (pv 0) pa_nil))) (pss_cons (ps_ret (pe_and (pe_cmpR op_eq (pe_callB (cr_lenK K) (by rfl) md.len (by decide +kernel) (pa_cons (pv 1) pa_nil)) (pe_ix (ix_tK K) (pv 0) pe_int (fun _ _ => rfl)) (by rfl)) (pe_one (pe_callB (cr_allK K) (by rfl) md.all (by decide +kernel) (pa_cons (pe_lc (own := [("a", 2), ("b", 3), ("most", 4)]) rfl sc_keeps.nd (pi_tK K (pe_ix (ix_tK K) (pv 0) pe_int (fun _ _ => rfl))) (blkOk_by (N := ["net", "times", "a", "b", "most"]) (sc := (defScope s_keeps)) (by decide +kernel)) (fun _ _ _ _ _ => (Nz.pg_tupK K 3 rfl (pgs_cons (pg_name (i := 2) sc_keeps.nd rfl (Or.inl rfl) (Or.inr rfl)) (pgs_cons (pg_name (i := 3) sc_keeps.nd rfl (Or.inl rfl) (Or.inr rfl)) (pgs_cons (pg_name (i := 4) sc_keeps.nd rfl (Or.inl rfl) (Or.inr rfl)) pgs_nil))))) (fun _ _ _ _ _ => pts_nil) (fun _ _ _ _ _ => (pe_cmpR op_le (pe_op op_sub (pe_ix (ix_tK K) (pv 1) (pv 3) (fun _ _ => rfl)) (pe_ix (ix_tK K) (pv 1) (pv 2) (fun _ _ => rfl))) (pv 4) (by rfl)))) pa_nil))))) pss_nil)), ?_⟩
  exact Nz.fnP (n := 3) (Nz.prm_c Nz.prm_1) rfl (fun a => (Nz.bj_drop (Nz.ev_call (Nz.ea_1 (Nz.ev_var rfl))) (fun _ => (Nz.bj_ret (Nz.ev_and (Nz.ev_eqI (Nz.ev_lenS (Nz.rs_t (Nz.rt_ev (Nz.ev_var rfl)))) (Nz.ev_fld (i := 0) Nz.fld_0 (Nz.ev_var rfl))) (Nz.ev_all (Nz.rl_l (Nz.el_lc (Nz.ir_iv (Nz.iv_tup (Nz.ev_fld (i := 1) (Nz.fld_s (n := 0) Nz.fld_one) (Nz.ev_var rfl)))) (Nz.gt_tup rfl (Nz.gts_cons Nz.gt_name (fun _ => (Nz.gts_cons Nz.gt_name (fun _ => (Nz.gts_nil Nz.gt_name)))))) (by decide) (fun y2 => Nz.et_yes) (fun y2 => (Nz.ev_B0 (g := fun i j => decide (i ≤ j)) (Nz.ev_I0 (g := fun i j => i - j) (Nz.ev_ixT (Nz.rt_ev (Nz.ev_var rfl)) (Nz.ev_var rfl)) (Nz.ev_ixT (Nz.rt_ev (Nz.ev_var rfl)) (Nz.ev_var rfl))) (Nz.ev_var rfl))))))))))) (fun a k => Eq.mp (by kernel_rfl)) h
abbrev s_bad_circle : Stmt := topS 10
theorem sc_bad_circle : FnScope ["net", "level", "k", "_", "row", "total", "fresh", "a", "b", "most"] ["net"] (defScope s_bad_circle) := ⟨rfl, rfl, rfl, by decide +kernel, rfl, by decide +kernel, by decide +kernel⟩
def m_bad_circle (a : (Int × (List (Int × Int × Int)))) : Pg (Option (List Int)) := Pg.outG (m_check_net a >>= fun r1 => (m_fits a >>= fun r2 => (Pg.ifG (pure (r2)) (pure (Ctl.rt (none : (Option (List Int))))) (Pg.ask (-100000 ≤ ((a.2).length : Int) ∧ ((a.2).length : Int) ≤ 100000) >>= fun _ => (Pg.comp (rg ((a.2).length : Int)) (fun y3 => pure true) (fun y3 => (Pg.ask (([y3] : (List Int)).length ≤ big) >>= fun _ => (Pg.opt (atI a.2 y3) >>= fun e4 => (pure ((([y3] : (List Int)), e4.2.2)))))) >>= fun l5 => ((pure l5 : Pg (List ((List Int) × Int))) >>= fun level_6 => (Pg.ask (-100000 ≤ a.1 ∧ a.1 ≤ 100000) >>= fun _ => ((Pg.forc (rg a.1) level_6 (fun y8 s7 => ((Pg.forc s7 () (fun y10 s9 => (Pg.andG (Pg.opt (atI y10.1 (0 : Int)) >>= fun e11 => (Pg.opt (atI a.2 e11) >>= fun e12 => (Pg.opt (atI y10.1 (-(1 : Int))) >>= fun e13 => (Pg.opt (atI a.2 e13) >>= fun e14 => (pure ((decide (e12.1 = e14.2.1)))))))) (pure ((decide (y10.2 < (0 : Int))))) >>= fun b15 => (Pg.ifG (pure (b15)) (pure (Ctl.rt (some y10.1))) (pure (Ctl.nx ())) : Pg (Ctl (Option (List Int)) Unit Unit)))) : Pg (Ctl (Option (List Int)) (List ((List Int) × Int)) Unit)) >>= Pg.seqG (fun s9 => ((pure ([] : (List ((List Int) × Int))) : Pg (List ((List Int) × Int))) >>= fun fresh_16 => ((Pg.forc s7 fresh_16 (fun y18 s17 => ((Pg.forc (enumZ a.2) s17 (fun y20 s19 => (Pg.andG (Pg.opt (atI y18.1 (-(1 : Int))) >>= fun e21 => (Pg.opt (atI a.2 e21) >>= fun e22 => (pure ((decide (y20.2.1 = e22.2.1)))))) (pure ((!decide (y20.1 ∈ y18.1)))) >>= fun b23 => (Pg.iteG (pure (b23)) ((Pg.ask (([y20.1] : (List Int)).length ≤ big) >>= fun _ => (Pg.ask ((y18.1 ++ ([y20.1] : (List Int))).length ≤ big) >>= fun _ => (Pg.ask ((s19).length < big) >>= fun _ => ((pure (s19 ++ [((y18.1 ++ ([y20.1] : (List Int))), (y18.2 + y20.2.2.2))]) : Pg (List ((List Int) × Int))) >>= fun fresh_25 => (pure (Ctl.nx fresh_25)))))) : Pg (Ctl (Option (List Int)) (List ((List Int) × Int)) (List ((List Int) × Int)))) (pure (Ctl.nx s19)) (fun s24 => (pure (Ctl.nx s24)))))) : Pg (Ctl (Option (List Int)) (List ((List Int) × Int)) (List ((List Int) × Int)))) >>= Pg.seqG (fun s19 => (pure (Ctl.nx s19))))) : Pg (Ctl (Option (List Int)) (List ((List Int) × Int)) (List ((List Int) × Int)))) >>= Pg.seqG (fun s17 => (Pg.ask (PySem.W.AllAlike ((s17).map ((fun p => PyData.tuple [(fun xs => PyData.tuple (List.map PyData.int xs)) p.1, PyData.int p.2]) : (((List Int) × Int) → PyData))) ∧ PySem.W.Sortable ((s17).map ((fun p => PyData.tuple [(fun xs => PyData.tuple (List.map PyData.int xs)) p.1, PyData.int p.2]) : (((List Int) × Int) → PyData))) ∧ ∀ x ∈ s17, (((fun p => PyData.tuple [(fun xs => PyData.tuple (List.map PyData.int xs)) p.1, PyData.int p.2]) : (((List Int) × Int) → PyData)) x).depth ≤ 60) >>= fun _ => ((pure (List.mergeSort s17 (PySem.W.dataLe false ((fun p => PyData.tuple [(fun xs => PyData.tuple (List.map PyData.int xs)) p.1, PyData.int p.2]) : (((List Int) × Int) → PyData)))) : Pg (List ((List Int) × Int))) >>= fun level_26 => (pure (Ctl.nx level_26)))))))))) : Pg (Ctl (Option (List Int)) Empty (List ((List Int) × Int)))) >>= Pg.seqG (fun s7 => Pg.fail)))))) : Pg (Ctl (Option (List Int)) Empty Unit))))
set_option maxHeartbeats 4000000 in
theorem cal_bad_circle (D : Nz.DefK K mg "bad_circle" s_bad_circle ["net"]) (md : Md mg) (c_check_net : Nz.Cal P w K mg base 1 "check_net" (Nz.spP (K := K) (f1 (rPr (fc rInt (f1 (rTup (rPr (fc rInt (fc rInt (f1 rInt))))))))) rNon (fun a => (m_check_net a).wp)) []) (c_fits : Nz.Cal P w K mg base 3 "fits" (Nz.spP (K := K) (f1 (rPr (fc rInt (f1 (rTup (rPr (fc rInt (fc rInt (f1 rInt))))))))) rBl (fun a => (m_fits a).wp)) []) : Nz.Cal P w K mg base 4 "bad_circle" (Nz.spP (K := K) (f1 (rPr (fc rInt (f1 (rTup (rPr (fc rInt (fc rInt (f1 rInt))))))))) (rOpt (rTup rInt)) (fun a => (m_bad_circle a).wp)) [] := by
  refine D.cal fun f fd F => F.ok sc_bad_circle (fun vs H Q E h => Nz.spP_len h) (fun cdv A outer s H vs Q E hr h => ?_)
  refine ⟨_, (pss_cons (ps_expr (Nz.pe_c c_check_net hr (by decide) (by rfl) (pa_cons (pv 0) pa_nil))) (pss_cons (ps_if (pt_val (Nz.pe_c c_fits hr (by decide) (by rfl) (pa_cons (pv 0) pa_nil))) (pss_cons (ps_ret pe_non) pss_nil) pss_nil) (pss_cons (ps_setLc (i := 1) rfl sc_bad_circle.nd rfl rfl (sw_true rfl rfl rfl rfl) (own := [("k", 2)]) (pi_range1 (by rfl) md.range (pa_cons (pe_callB (cr_lenK K) (by rfl) md.len (by decide +kernel) (pa_cons (pe_ix (ix_tK K) (pv 0) pe_int (fun _ _ => rfl)) pa_nil)) pa_nil)) (blkOk_by (N := ["net", "level", "k", "_", "row", "total", "fresh", "a", "b", "most"]) (sc := (defScope s_bad_circle)) (by decide +kernel)) (fun _ _ _ _ _ => (pg_name (i := 2) sc_bad_circle.nd rfl (Or.inl rfl) (Or.inr rfl))) (fun _ _ _ _ _ => pts_nil) (fun _ _ _ _ _ => (pe_tup (pa_cons (pe_tup (pa_cons (pv 2) pa_nil)) (pa_cons (pe_ix (ix_tK K) (pe_ix (ix_tK K) (pe_ix (ix_tK K) (pv 0) pe_int (fun _ _ => rfl)) (pv 2) (fun _ _ => rfl)) pe_int (fun _ _ => rfl)) pa_nil))))) (pss_cons (ps_for PassesOwn.never rfl (pi_range1 (by rfl) md.range (pa_cons (pe_ix (ix_tK K) (pv 0) pe_int (fun _ _ => rfl)) pa_nil)) (pg_name (i := 3) sc_bad_circle.nd rfl (Or.inl rfl) (Or.inr rfl)) (pss_cons (ps_for PassesOwn.never rfl (pi_lK K (pv 1)) (Nz.pg_tupK K 2 rfl (pgs_cons (pg_name (i := 4) sc_bad_circle.nd rfl (Or.inl rfl) (Or.inr rfl)) (pgs_cons (pg_name (i := 5) sc_bad_circle.nd rfl (Or.inl rfl) (Or.inr rfl)) pgs_nil))) (pss_cons (ps_if (PW.pt (pw_and (pt_cmpR op_eq (pe_ix (ix_tK K) (pe_ix (ix_tK K) (pe_ix (ix_tK K) (pv 0) pe_int (fun _ _ => rfl)) (pe_ix (ix_tK K) (pv 4) pe_int (fun _ _ => rfl)) (fun _ _ => rfl)) pe_int (fun _ _ => rfl)) (pe_ix (ix_tK K) (pe_ix (ix_tK K) (pe_ix (ix_tK K) (pv 0) pe_int (fun _ _ => rfl)) (pe_ix (ix_tK K) (pv 4) (pe_un un_neg pe_int) (fun _ _ => rfl)) (fun _ _ => rfl)) pe_int (fun _ _ => rfl)) (by rfl)) (pw_and1 (pt_cmpR op_lt (pv 5) pe_int (by rfl))))) (pss_cons (ps_ret (pv 4)) pss_nil) pss_nil) pss_nil)) (pss_cons (ps_set (i := 6) sc_bad_circle.nd rfl (Or.inl rfl) (pe_lst pa_nil)) (pss_cons (ps_for PassesOwn.never rfl (pi_lK K (pv 1)) (Nz.pg_tupK K 2 rfl (pgs_cons (pg_name (i := 4) sc_bad_circle.nd rfl (Or.inl rfl) (Or.inr rfl)) (pgs_cons (pg_name (i := 5) sc_bad_circle.nd rfl (Or.inl rfl) (Or.inr rfl)) pgs_nil))) (pss_cons (ps_for PassesOwn.never rfl (pi_eTK K (by rfl) md.enumerate (pa_cons (pe_ix (ix_tK K) (pv 0) pe_int (fun _ _ => rfl)) pa_nil)) (Nz.pg_tupK K 2 rfl (pgs_cons (pg_name (i := 2) sc_bad_circle.nd rfl (Or.inl rfl) (Or.inr rfl)) (pgs_cons (Nz.pg_tupK K 3 rfl (pgs_cons (pg_name (i := 7) sc_bad_circle.nd rfl (Or.inl rfl) (Or.inr rfl)) (pgs_cons (pg_name (i := 8) sc_bad_circle.nd rfl (Or.inl rfl) (Or.inr rfl)) (pgs_cons (pg_name (i := 9) sc_bad_circle.nd rfl (Or.inl rfl) (Or.inr rfl)) pgs_nil)))) pgs_nil))) (pss_cons (ps_if (PW.pt (pw_and (pt_cmpR op_eq (pv 7) (pe_ix (ix_tK K) (pe_ix (ix_tK K) (pe_ix (ix_tK K) (pv 0) pe_int (fun _ _ => rfl)) (pe_ix (ix_tK K) (pv 4) (pe_un un_neg pe_int) (fun _ _ => rfl)) (fun _ _ => rfl)) pe_int (fun _ _ => rfl)) (by rfl)) (pw_and1 (pt_cmpR (op_niK K) (pv 2) (pv 4) (by rfl))))) (pss_cons (ps_expr (pe_bm PySem.F.plainAttrs_list PySem.F.slot_list_append PySem.F.type_list_append mt_append (pv 6) (pa_cons (pe_tup (pa_cons (pe_op (op_catK K) (pv 4) (pe_tup (pa_cons (pv 2) pa_nil))) (pa_cons (pe_op op_add (pv 5) (pv 9)) pa_nil))) pa_nil))) pss_nil) pss_nil) pss_nil)) pss_nil)) (pss_cons (ps_set (i := 1) sc_bad_circle.nd rfl (Or.inl rfl) (pe_callB (Nz.cr_sortDK K hr.units) (by rfl) md.sorted (by decide +kernel) (pa_cons (pv 6) pa_nil))) pss_nil))))) (pss_cons ps_never pss_nil))))), ?_⟩
  exact Nz.fnP (n := 9) Nz.prm_1 rfl (fun a => (Nz.bj_drop (Nz.ev_call (Nz.ea_1 (Nz.ev_var rfl))) (fun _ => (Nz.bj_ifD (Nz.et_B (Nz.ev_call (Nz.ea_1 (Nz.ev_var rfl)))) (Nz.bj_seq (Nz.bj_ret (Nz.ev_none (r := (rTup rInt))))) (Nz.bj_seq0 (Nz.bj_asg (Nz.ev_l (Nz.el_lc (Nz.ir_iv (Nz.iv_rng1 (Nz.ev_lenS (Nz.rs_t (Nz.rt_ev (Nz.ev_fld (i := 1) (Nz.fld_s (n := 0) Nz.fld_one) (Nz.ev_var rfl))))))) Nz.gt_name (by decide) (fun y3 => Nz.et_yes) (fun y3 => (Nz.ev_pr (Nz.ea_c (Nz.ev_tup (r := rInt) (Nz.as_c (Nz.ev_var rfl) Nz.as_nil)) (Nz.ea_1 (Nz.ev_fld (i := 2) (Nz.fld_s (n := 1) (Nz.fld_s (n := 0) Nz.fld_one)) (Nz.ev_ixT (Nz.rt_ev (Nz.ev_fld (i := 1) (Nz.fld_s (n := 0) Nz.fld_one) (Nz.ev_var rfl))) (Nz.ev_var rfl))))))))) (fun level_6 => (Nz.bj_for (fS := (fun (s7 : (List ((List Int) × Int))) => [(slV (rPr (fc rInt (f1 (rTup (rPr (fc rInt (fc rInt (f1 rInt)))))))) a), (slV (rLst (rPr (fc (rTup rInt) (f1 rInt)))) s7), slAny, slAny, slAny, slAny, slAny, slAny, slAny, slAny])) (oS := []) (s0 := level_6) (Nz.iv_rng1 (Nz.ev_fld (i := 0) Nz.fld_0 (Nz.ev_var rfl))) (Nz.wk_k rfl (Nz.wk_k rfl (Nz.wk_a (Nz.wk_a (Nz.wk_a (Nz.wk_a (Nz.wk_a (Nz.wk_a (Nz.wk_a (Nz.wk_a Nz.Wks.nil)))))))))) (by decide) (fun s7 => Nz.gt_name) (by decide) (fun s7 y8 => (Nz.bj_for (fS := (fun (s9 : Unit) => [(slV (rPr (fc rInt (f1 (rTup (rPr (fc rInt (fc rInt (f1 rInt)))))))) a), (slV (rLst (rPr (fc (rTup rInt) (f1 rInt)))) s7), slAny, (slV rInt y8), slAny, slAny, slAny, slAny, slAny, slAny])) (oS := []) (s0 := ()) (Nz.iv_list (Nz.ev_var rfl)) (Nz.wk_k rfl (Nz.wk_k rfl (Nz.wk_a (Nz.wk_k rfl (Nz.wk_a (Nz.wk_a (Nz.wk_a (Nz.wk_a (Nz.wk_a (Nz.wk_a Nz.Wks.nil)))))))))) (by decide) (fun s9 => (Nz.gt_tup rfl (Nz.gts_cons Nz.gt_name (fun _ => (Nz.gts_nil Nz.gt_name))))) (by decide) (fun s9 y10 => (Nz.bj_ifD (Nz.et_and (Nz.et_T (Nz.ev_eqI (Nz.ev_fld (i := 0) Nz.fld_0 (Nz.ev_ixT (Nz.rt_ev (Nz.ev_fld (i := 1) (Nz.fld_s (n := 0) Nz.fld_one) (Nz.ev_var rfl))) (Nz.ev_ixT (Nz.rt_ev (Nz.ev_var rfl)) (Nz.ev_int (i := 0))))) (Nz.ev_fld (i := 1) (Nz.fld_s (n := 0) Nz.fld_0) (Nz.ev_ixT (Nz.rt_ev (Nz.ev_fld (i := 1) (Nz.fld_s (n := 0) Nz.fld_one) (Nz.ev_var rfl))) (Nz.ev_ixT (Nz.rt_ev (Nz.ev_var rfl)) (Nz.ev_neg (Nz.ev_int (i := 1)))))))) (Nz.et_T (Nz.ev_B0 (g := fun i j => decide (i < j)) (Nz.ev_var rfl) (Nz.ev_int (i := 0))))) (Nz.bj_seq (Nz.bj_ret (Nz.ev_some Nz.nn_tup (Nz.ev_var rfl)))) (Nz.bj_seq0 (Nz.bj_nx (s := ()) (Nz.wk_k rfl (Nz.wk_k rfl (Nz.wk_a (Nz.wk_k rfl (Nz.wk_a (Nz.wk_a (Nz.wk_a (Nz.wk_a (Nz.wk_a (Nz.wk_a Nz.Wks.nil)))))))))) (by decide))))) (fun s9 => (Nz.bj_asgL (Nz.el_nil (r := (rPr (fc (rTup rInt) (f1 rInt))))) (of_decide_eq_true rfl) (fun fresh_16 => (Nz.bj_for (fS := (fun (s17 : (List ((List Int) × Int))) => [(slV (rPr (fc rInt (f1 (rTup (rPr (fc rInt (fc rInt (f1 rInt)))))))) a), (slV (rLst (rPr (fc (rTup rInt) (f1 rInt)))) s7), slAny, (slV rInt y8), slAny, slAny, (slL (rPr (fc (rTup rInt) (f1 rInt))) s17), slAny, slAny, slAny])) (oS := [6]) (s0 := fresh_16) (Nz.iv_list (Nz.ev_var rfl)) (Nz.wk_k rfl (Nz.wk_k rfl (Nz.wk_a (Nz.wk_k rfl (Nz.wk_a (Nz.wk_a (Nz.wk_o (by decide) (Nz.wk_a (Nz.wk_a (Nz.wk_a Nz.Wks.nil)))))))))) (by decide) (fun s17 => (Nz.gt_tup rfl (Nz.gts_cons Nz.gt_name (fun _ => (Nz.gts_nil Nz.gt_name))))) (by decide) (fun s17 y18 => (Nz.bj_for (fS := (fun (s19 : (List ((List Int) × Int))) => [(slV (rPr (fc rInt (f1 (rTup (rPr (fc rInt (fc rInt (f1 rInt)))))))) a), (slV (rLst (rPr (fc (rTup rInt) (f1 rInt)))) s7), slAny, (slV rInt y8), (slV (rTup rInt) y18.1), (slV rInt y18.2), (slL (rPr (fc (rTup rInt) (f1 rInt))) s19), slAny, slAny, slAny])) (oS := [6]) (s0 := s17) (Nz.iv_enumT (Nz.ev_fld (i := 1) (Nz.fld_s (n := 0) Nz.fld_one) (Nz.ev_var rfl))) (Nz.wk_k rfl (Nz.wk_k rfl (Nz.wk_a (Nz.wk_k rfl (Nz.wk_k rfl (Nz.wk_k rfl (Nz.wk_o (by decide) (Nz.wk_a (Nz.wk_a (Nz.wk_a Nz.Wks.nil)))))))))) (by decide) (fun s19 => (Nz.gt_tup rfl (Nz.gts_cons Nz.gt_name (fun _ => (Nz.gts_nil (Nz.gt_tup rfl (Nz.gts_cons Nz.gt_name (fun _ => (Nz.gts_cons Nz.gt_name (fun _ => (Nz.gts_nil Nz.gt_name))))))))))) (by decide) (fun s19 y20 => (Nz.bj_if (fM := (fun (s24 : (List ((List Int) × Int))) => [(slV (rPr (fc rInt (f1 (rTup (rPr (fc rInt (fc rInt (f1 rInt)))))))) a), (slV (rLst (rPr (fc (rTup rInt) (f1 rInt)))) s7), (slV rInt y20.1), (slV rInt y8), (slV (rTup rInt) y18.1), (slV rInt y18.2), (slL (rPr (fc (rTup rInt) (f1 rInt))) s24), (slV rInt y20.2.1), (slV rInt y20.2.2.1), (slV rInt y20.2.2.2)])) (oM := [6]) (Nz.et_and (Nz.et_T (Nz.ev_eqI (Nz.ev_var rfl) (Nz.ev_fld (i := 1) (Nz.fld_s (n := 0) Nz.fld_0) (Nz.ev_ixT (Nz.rt_ev (Nz.ev_fld (i := 1) (Nz.fld_s (n := 0) Nz.fld_one) (Nz.ev_var rfl))) (Nz.ev_ixT (Nz.rt_ev (Nz.ev_var rfl)) (Nz.ev_neg (Nz.ev_int (i := 1)))))))) (Nz.et_T (Nz.ev_niS Nz.fe_int (Nz.ev_var rfl) (Nz.rs_t (Nz.rt_ev (Nz.ev_var rfl)))))) (Nz.bj_app (by decide) rfl (Nz.ev_pr (Nz.ea_c (Nz.ev_catT (Nz.ev_var rfl) (Nz.ev_tup (r := rInt) (Nz.as_c (Nz.ev_var rfl) Nz.as_nil))) (Nz.ea_1 (Nz.ev_I0 (g := fun i j => i + j) (Nz.ev_var rfl) (Nz.ev_var rfl))))) (fun fresh_25 => (Nz.bj_nx (s := fresh_25) (Nz.wk_k rfl (Nz.wk_k rfl (Nz.wk_k rfl (Nz.wk_k rfl (Nz.wk_k rfl (Nz.wk_k rfl (Nz.wk_o (by decide) (Nz.wk_k rfl (Nz.wk_k rfl (Nz.wk_k rfl Nz.Wks.nil)))))))))) (by decide)))) (Nz.bj_nx (s := s19) (Nz.wk_k rfl (Nz.wk_k rfl (Nz.wk_k rfl (Nz.wk_k rfl (Nz.wk_k rfl (Nz.wk_k rfl (Nz.wk_o (by decide) (Nz.wk_k rfl (Nz.wk_k rfl (Nz.wk_k rfl Nz.Wks.nil)))))))))) (by decide)) (fun s24 => (Nz.bj_nx (s := s24) (Nz.wk_k rfl (Nz.wk_k rfl (Nz.wk_a (Nz.wk_k rfl (Nz.wk_k rfl (Nz.wk_k rfl (Nz.wk_o (by decide) (Nz.wk_a (Nz.wk_a (Nz.wk_a Nz.Wks.nil)))))))))) (by decide))))) (fun s19 => (Nz.bj_nx (s := s19) (Nz.wk_k rfl (Nz.wk_k rfl (Nz.wk_a (Nz.wk_k rfl (Nz.wk_a (Nz.wk_a (Nz.wk_o (by decide) (Nz.wk_a (Nz.wk_a (Nz.wk_a Nz.Wks.nil)))))))))) (by decide))))) (fun s17 => (Nz.bj_frzL (i := 6) (by decide) rfl (Nz.bj_asg (Nz.ev_l (Nz.el_sortD (Nz.da_pr (Nz.das_c (Nz.da_tup Nz.da_int) (Nz.das_1 Nz.da_int))) (Nz.rl_ev (Nz.ev_var rfl)))) (fun level_26 => (Nz.bj_nx (s := level_26) (Nz.wk_k rfl (Nz.wk_k rfl (Nz.wk_a (Nz.wk_a (Nz.wk_a (Nz.wk_a (Nz.wk_a (Nz.wk_a (Nz.wk_a (Nz.wk_a Nz.Wks.nil)))))))))) (by decide)))))))))))) (fun s7 => Nz.bj_never))))))))) (fun a k => Eq.mp (by kernel_rfl)) h
abbrev s_takes_circle : Stmt := topS 11
theorem sc_takes_circle : FnScope ["net", "row", "k", "told", "one", "other", "_", "most"] ["net", "row"] (defScope s_takes_circle) := ⟨rfl, rfl, rfl, by decide +kernel, rfl, by decide +kernel, by decide +kernel⟩
def m_takes_circle (a : ((Int × (List (Int × Int × Int))) × (List Int))) : Pg Bool := Pg.outG (m_check_net a.1 >>= fun r1 => (Pg.orG (pure ((!(!(a.2).isEmpty)))) (Pg.comp a.2 (fun y2 => pure true) (fun y2 => (Pg.andG (pure (decide ((0 : Int) ≤ y2))) (pure (decide (y2 < ((a.1.2).length : Int)))) >>= fun b3 => (pure (b3)))) >>= fun l4 => (pure ((!((l4).all id))))) >>= fun b5 => (Pg.ifG (pure (b5)) (pure (Ctl.rt false)) (Pg.comp a.2 (fun y6 => pure true) (fun y6 => (Pg.opt (atI a.1.2 y6) >>= fun e7 => (pure (e7)))) >>= fun l8 => ((pure l8 : Pg (List (Int × Int × Int))) >>= fun told_9 => (Pg.ask (((cut told_9 (some (1 : Int)) none) ++ (cut told_9 none (some (1 : Int)))).length ≤ big) >>= fun _ => (Pg.comp (List.zip told_9 ((cut told_9 (some (1 : Int)) none) ++ (cut told_9 none (some (1 : Int))))) (fun y10 => pure true) (fun y10 => (pure ((decide (y10.1.2.1 = y10.2.1))))) >>= fun l11 => (Pg.ifG (pure ((!((l11).all id)))) (pure (Ctl.rt false)) (Pg.comp told_9 (fun y12 => pure true) (fun y12 => (pure (y12.2.2))) >>= fun l13 => (pure (Ctl.rt (decide ((l13).sum < (0 : Int)))))) : Pg (Ctl Bool Empty Unit)))))) : Pg (Ctl Bool Empty Unit))))
set_option maxHeartbeats 4000000 in
theorem cal_takes_circle (D : Nz.DefK K mg "takes_circle" s_takes_circle ["net", "row"]) (md : Md mg) (c_check_net : Nz.Cal P w K mg base 1 "check_net" (Nz.spP (K := K) (f1 (rPr (fc rInt (f1 (rTup (rPr (fc rInt (fc rInt (f1 rInt))))))))) rNon (fun a => (m_check_net a).wp)) []) : Nz.Cal P w K mg base 2 "takes_circle" (Nz.spP (K := K) (fc (rPr (fc rInt (f1 (rTup (rPr (fc rInt (fc rInt (f1 rInt)))))))) (f1 (rTup rInt))) rBl (fun a => (m_takes_circle a).wp)) [] := by
  refine D.cal fun f fd F => F.ok sc_takes_circle (fun vs H Q E h => Nz.spP_len h) (fun cdv A outer s H vs Q E hr h => ?_)
  refine ⟨_, (pss_cons (ps_expr (Nz.pe_c c_check_net hr (by decide) (by rfl) (pa_cons (pv 0) pa_nil))) (pss_cons (ps_if (PW.pt (pw_or (pt_not (Nz.pt_truK K (pv 1))) (pw_or1 (pt_not (pt_val (pe_callB (cr_allK K) (by rfl) md.all (by decide +kernel) (pa_cons (pe_lc (own := [("k", 2)]) rfl sc_takes_circle.nd (pi_tK K (pv 1)) (blkOk_by (N := ["net", "row", "k", "told", "one", "other", "_", "most"]) (sc := (defScope s_takes_circle)) (by decide +kernel)) (fun _ _ _ _ _ => (pg_name (i := 2) sc_takes_circle.nd rfl (Or.inl rfl) (Or.inr rfl))) (fun _ _ _ _ _ => pts_nil) (fun _ _ _ _ _ => (pe_chain op_le op_lt pe_int (pv 2) (pe_callB (cr_lenK K) (by rfl) md.len (by decide +kernel) (pa_cons (pe_ix (ix_tK K) (pv 0) pe_int (fun _ _ => rfl)) pa_nil))))) pa_nil))))))) (pss_cons (ps_ret pe_bl) pss_nil) pss_nil) (pss_cons (ps_setLc (i := 3) rfl sc_takes_circle.nd rfl rfl (sw_true rfl rfl rfl rfl) (own := [("k", 2)]) (pi_tK K (pv 1)) (blkOk_by (N := ["net", "row", "k", "told", "one", "other", "_", "most"]) (sc := (defScope s_takes_circle)) (by decide +kernel)) (fun _ _ _ _ _ => (pg_name (i := 2) sc_takes_circle.nd rfl (Or.inl rfl) (Or.inr rfl))) (fun _ _ _ _ _ => pts_nil) (fun _ _ _ _ _ => (pe_ix (ix_tK K) (pe_ix (ix_tK K) (pv 0) pe_int (fun _ _ => rfl)) (pv 2) (fun _ _ => rfl)))) (pss_cons (ps_if (pt_not (pt_val (pe_callB (cr_allK K) (by rfl) md.all (by decide +kernel) (pa_cons (pe_lc (own := [("one", 4), ("other", 5)]) rfl sc_takes_circle.nd (pi_zK K (by rfl) md.zip (pa_cons (pv 3) (pa_cons (pe_op op_catR (pe_slice (sl_lK K) (pv 3) (po_some pe_int) po_none) (pe_slice (sl_lK K) (pv 3) po_none (po_some pe_int))) pa_nil))) (blkOk_by (N := ["net", "row", "k", "told", "one", "other", "_", "most"]) (sc := (defScope s_takes_circle)) (by decide +kernel)) (fun _ _ _ _ _ => (Nz.pg_tupK K 2 rfl (pgs_cons (pg_name (i := 4) sc_takes_circle.nd rfl (Or.inl rfl) (Or.inr rfl)) (pgs_cons (pg_name (i := 5) sc_takes_circle.nd rfl (Or.inl rfl) (Or.inr rfl)) pgs_nil)))) (fun _ _ _ _ _ => pts_nil) (fun _ _ _ _ _ => (pe_cmpR op_eq (pe_ix (ix_tK K) (pv 4) pe_int (fun _ _ => rfl)) (pe_ix (ix_tK K) (pv 5) pe_int (fun _ _ => rfl)) (by rfl)))) pa_nil)))) (pss_cons (ps_ret pe_bl) pss_nil) pss_nil) (pss_cons (ps_ret (pe_cmpR op_lt (pe_callB (cr_sumK K) (by rfl) md.sum (by decide +kernel) (pa_cons (pe_lc (own := [("_", 6), ("most", 7)]) rfl sc_takes_circle.nd (pi_lK K (pv 3)) (blkOk_by (N := ["net", "row", "k", "told", "one", "other", "_", "most"]) (sc := (defScope s_takes_circle)) (by decide +kernel)) (fun _ _ _ _ _ => (Nz.pg_tupK K 3 rfl (pgs_cons (pg_name (i := 6) sc_takes_circle.nd rfl (Or.inl rfl) (Or.inr rfl)) (pgs_cons (pg_name (i := 6) sc_takes_circle.nd rfl (Or.inl rfl) (Or.inr rfl)) (pgs_cons (pg_name (i := 7) sc_takes_circle.nd rfl (Or.inl rfl) (Or.inr rfl)) pgs_nil))))) (fun _ _ _ _ _ => pts_nil) (fun _ _ _ _ _ => (pv 7))) pa_nil)) pe_int (by rfl))) pss_nil))))), ?_⟩
  exact Nz.fnP (n := 6) (Nz.prm_c Nz.prm_1) rfl (fun a => (Nz.bj_drop (Nz.ev_call (Nz.ea_1 (Nz.ev_var rfl))) (fun _ => (Nz.bj_ifD (Nz.et_or (Nz.et_not (Nz.et_truS (Nz.rs_t (Nz.rt_ev (Nz.ev_var rfl))))) (Nz.et_not (Nz.et_B (Nz.ev_all (Nz.rl_l (Nz.el_lc (Nz.ir_iv (Nz.iv_tup (Nz.ev_var rfl))) Nz.gt_name (by decide) (fun y2 => Nz.et_yes) (fun y2 => (Nz.ev_chain (g := fun i j => decide (i ≤ j)) (g' := fun i j => decide (i < j)) (Nz.ev_int (i := 0)) (Nz.ev_var rfl) (Nz.ev_lenS (Nz.rs_t (Nz.rt_ev (Nz.ev_fld (i := 1) (Nz.fld_s (n := 0) Nz.fld_one) (Nz.ev_var rfl))))))))))))) (Nz.bj_seq (Nz.bj_ret Nz.ev_bl)) (Nz.bj_seq0 (Nz.bj_asg (Nz.ev_l (Nz.el_lc (Nz.ir_iv (Nz.iv_tup (Nz.ev_var rfl))) Nz.gt_name (by decide) (fun y6 => Nz.et_yes) (fun y6 => (Nz.ev_ixT (Nz.rt_ev (Nz.ev_fld (i := 1) (Nz.fld_s (n := 0) Nz.fld_one) (Nz.ev_var rfl))) (Nz.ev_var rfl))))) (fun told_9 => (Nz.bj_ifD (Nz.et_not (Nz.et_B (Nz.ev_all (Nz.rl_l (Nz.el_lc (Nz.ir_iv (Nz.iv_zipL (Nz.ev_var rfl) (Nz.ev_l (Nz.el_catL (Nz.rl_l (Nz.el_slL (Nz.rl_ev (Nz.ev_var rfl)) (Nz.po_yes (Nz.ev_int (i := 1))) Nz.po_no)) (Nz.rl_l (Nz.el_slL (Nz.rl_ev (Nz.ev_var rfl)) Nz.po_no (Nz.po_yes (Nz.ev_int (i := 1))))))))) (Nz.gt_tup rfl (Nz.gts_cons Nz.gt_name (fun _ => (Nz.gts_nil Nz.gt_name)))) (by decide) (fun y10 => Nz.et_yes) (fun y10 => (Nz.ev_eqI (Nz.ev_fld (i := 1) (Nz.fld_s (n := 0) Nz.fld_0) (Nz.ev_var rfl)) (Nz.ev_fld (i := 0) Nz.fld_0 (Nz.ev_var rfl))))))))) (Nz.bj_seq (Nz.bj_ret Nz.ev_bl)) (Nz.bj_seq0 (Nz.bj_ret (Nz.ev_B0 (g := fun i j => decide (i < j)) (Nz.ev_sum (Nz.rl_l (Nz.el_lc (Nz.ir_iv (Nz.iv_list (Nz.ev_var rfl))) (Nz.gt_tup rfl (Nz.gts_cons Nz.gt_name (fun _ => (Nz.gts_cons Nz.gt_name (fun _ => (Nz.gts_nil Nz.gt_name)))))) (by decide) (fun y12 => Nz.et_yes) (fun y12 => (Nz.ev_var rfl))))) (Nz.ev_int (i := 0))))))))))))) (fun a k => Eq.mp (by kernel_rfl)) h
abbrev s_earliest_of : Stmt := topS 13
theorem sc_earliest_of : FnScope ["net", "told", "k", "j"] ["net"] (defScope s_earliest_of) := ⟨rfl, rfl, rfl, by decide +kernel, rfl, by decide +kernel, by decide +kernel⟩
def m_earliest_of (a : (Int × (List (Int × Int × Int)))) : Pg (Option (List Int)) := Pg.outG (m_closed_of a >>= fun r1 => ((pure r1 : Pg (List (List (Option Int)))) >>= fun told_2 => (Pg.ask (-100000 ≤ a.1 ∧ a.1 ≤ 100000) >>= fun _ => (Pg.comp (rg a.1) (fun y3 => pure true) (fun y3 => (Pg.opt (atI told_2 y3) >>= fun e4 => (Pg.opt (atI e4 y3) >>= fun e5 => (Pg.opt e5 >>= fun o6 => (pure ((decide (o6 < (0 : Int))))))))) >>= fun l7 => (Pg.ifG (pure (((l7).any id))) (pure (Ctl.rt (none : (Option (List Int))))) (Pg.ask (-100000 ≤ a.1 ∧ a.1 ≤ 100000) >>= fun _ => (Pg.comp (rg a.1) (fun y8 => pure true) (fun y8 => (Pg.ask (([(0 : Int)] : (List Int)).length ≤ big) >>= fun _ => (Pg.ask (-100000 ≤ a.1 ∧ a.1 ≤ 100000) >>= fun _ => (Pg.comp (rg a.1) (fun y9 => (Pg.opt (atI told_2 y8) >>= fun e10 => (Pg.opt (atI e10 y9) >>= fun e11 => pure ((e11).isSome)))) (fun y9 => (Pg.opt (atI told_2 y8) >>= fun e12 => (Pg.opt (atI e12 y9) >>= fun e13 => (Pg.opt e13 >>= fun o14 => (pure ((-o14))))))) >>= fun l15 => (Pg.ask ((([(0 : Int)] : (List Int)) ++ l15).length ≤ big) >>= fun _ => (Pg.ask ((([(0 : Int)] : (List Int)) ++ l15) ≠ []) >>= fun _ => (pure ((maxL (([(0 : Int)] : (List Int)) ++ l15)))))))))) >>= fun l16 => (pure (Ctl.rt (some l16))))) : Pg (Ctl (Option (List Int)) Empty Unit))))))
set_option maxHeartbeats 4000000 in
theorem cal_earliest_of (D : Nz.DefK K mg "earliest_of" s_earliest_of ["net"]) (md : Md mg) (c_closed_of : Nz.Cal P w K mg base 1 "closed_of" (Nz.spP (K := K) (f1 (rPr (fc rInt (f1 (rTup (rPr (fc rInt (fc rInt (f1 rInt))))))))) (rTup (rTup (rOpt rInt))) (fun a => (m_closed_of a).wp)) []) : Nz.Cal P w K mg base 2 "earliest_of" (Nz.spP (K := K) (f1 (rPr (fc rInt (f1 (rTup (rPr (fc rInt (fc rInt (f1 rInt))))))))) (rOpt (rTup rInt)) (fun a => (m_earliest_of a).wp)) [] := by
  refine D.cal fun f fd F => F.ok sc_earliest_of (fun vs H Q E h => Nz.spP_len h) (fun cdv A outer s H vs Q E hr h => ?_)
  refine ⟨_, (pss_cons (ps_set (i := 1) sc_earliest_of.nd rfl (Or.inr rfl) (Nz.pe_c c_closed_of hr (by decide) (by rfl) (pa_cons (pv 0) pa_nil))) (pss_cons (ps_if (pt_val (pe_callB (cr_anyK K) (by rfl) md.any (by decide +kernel) (pa_cons (pe_lc (own := [("k", 2)]) rfl sc_earliest_of.nd (pi_range1 (by rfl) md.range (pa_cons (pe_ix (ix_tK K) (pv 0) pe_int (fun _ _ => rfl)) pa_nil)) (blkOk_by (N := ["net", "told", "k", "j"]) (sc := (defScope s_earliest_of)) (by decide +kernel)) (fun _ _ _ _ _ => (pg_name (i := 2) sc_earliest_of.nd rfl (Or.inl rfl) (Or.inr rfl))) (fun _ _ _ _ _ => pts_nil) (fun _ _ _ _ _ => (pe_cmpR op_lt (pe_ix (ix_tK K) (pe_ix (ix_tK K) (pv 1) (pv 2) (fun _ _ => rfl)) (pv 2) (fun _ _ => rfl)) pe_int (by rfl)))) pa_nil))) (pss_cons (ps_ret pe_non) pss_nil) pss_nil) (pss_cons (ps_ret (pe_callTy (cr_tupK K) (by rfl) md.tuple (by decide +kernel) (pa_cons (pe_lc (own := [("k", 2)]) rfl sc_earliest_of.nd (pi_range1 (by rfl) md.range (pa_cons (pe_ix (ix_tK K) (pv 0) pe_int (fun _ _ => rfl)) pa_nil)) (blkOk_by (N := ["net", "told", "k", "j"]) (sc := (defScope s_earliest_of)) (by decide +kernel)) (fun _ _ _ _ _ => (pg_name (i := 2) sc_earliest_of.nd rfl (Or.inr rfl) (Or.inl rfl))) (fun _ _ _ _ _ => pts_nil) (fun _ _ _ _ _ => (pe_callB (cr_maxK K) (by rfl) md.max (by decide +kernel) (pa_cons (pe_op op_catR (pe_lst (pa_cons pe_int pa_nil)) (pe_lc (own := [("j", 3)]) rfl sc_earliest_of.nd (pi_range1 (by rfl) md.range (pa_cons (pe_ix (ix_tK K) (pv 0) pe_int (fun _ _ => rfl)) pa_nil)) (blkOk_by (N := ["net", "told", "k", "j"]) (sc := ⟨.function, [(Str.ofString ".0", NameKind.local), (Str.ofString "k", NameKind.cell), (Str.ofString "max", NameKind.globalImplicit), (Str.ofString "range", NameKind.globalImplicit), (Str.ofString "net", NameKind.cell), (Str.ofString "told", NameKind.cell)], false, false, []⟩) (by decide +kernel)) (fun _ _ _ _ _ => (pg_name (i := 3) sc_earliest_of.nd rfl (Or.inl rfl) (Or.inr rfl))) (fun _ _ _ _ _ => (pts_one (pt_cmp (pc_notN (pe_ix (ix_tK K) (pe_ix (ix_tK K) (pv 1) (pv 2) (fun _ _ => rfl)) (pv 3) (fun _ _ => rfl)))))) (fun _ _ _ _ _ => (pe_un un_neg (pe_ix (ix_tK K) (pe_ix (ix_tK K) (pv 1) (pv 2) (fun _ _ => rfl)) (pv 3) (fun _ _ => rfl)))))) pa_nil)))) pa_nil))) pss_nil))), ?_⟩
  exact Nz.fnP (n := 3) Nz.prm_1 rfl (fun a => (Nz.bj_asg (Nz.ev_call (Nz.ea_1 (Nz.ev_var rfl))) (fun told_2 => (Nz.bj_ifD (Nz.et_B (Nz.ev_any (Nz.rl_l (Nz.el_lc (Nz.ir_iv (Nz.iv_rng1 (Nz.ev_fld (i := 0) Nz.fld_0 (Nz.ev_var rfl)))) Nz.gt_name (by decide) (fun y3 => Nz.et_yes) (fun y3 => (Nz.ev_B0 (g := fun i j => decide (i < j)) (Nz.ev_get (Nz.ev_ixT (Nz.rt_ev (Nz.ev_ixT (Nz.rt_ev (Nz.ev_var rfl)) (Nz.ev_var rfl))) (Nz.ev_var rfl))) (Nz.ev_int (i := 0)))))))) (Nz.bj_seq (Nz.bj_ret (Nz.ev_none (r := (rTup rInt))))) (Nz.bj_seq0 (Nz.bj_ret (Nz.ev_some Nz.nn_tup (Nz.ev_tupL (Nz.rl_l (Nz.el_lc (Nz.ir_iv (Nz.iv_rng1 (Nz.ev_fld (i := 0) Nz.fld_0 (Nz.ev_var rfl)))) Nz.gt_name (by decide) (fun y8 => Nz.et_yes) (fun y8 => (Nz.ev_max (Nz.rl_l (Nz.el_catL (Nz.rl_l (Nz.el_lst (r := rInt) (Nz.as_c (Nz.ev_int (i := 0)) Nz.as_nil))) (Nz.rl_l (Nz.el_lc (Nz.ir_iv (Nz.iv_rng1 (Nz.ev_fld (i := 0) Nz.fld_0 (Nz.ev_var rfl)))) Nz.gt_name (by decide) (fun y9 => (Nz.et_B (Nz.ev_notN (Nz.ev_ixT (Nz.rt_ev (Nz.ev_ixT (Nz.rt_ev (Nz.ev_var rfl)) (Nz.ev_var rfl))) (Nz.ev_var rfl))))) (fun y9 => (Nz.ev_neg (Nz.ev_get (Nz.ev_ixT (Nz.rt_ev (Nz.ev_ixT (Nz.rt_ev (Nz.ev_var rfl)) (Nz.ev_var rfl))) (Nz.ev_var rfl))))))))))))))))))))) (fun a k => Eq.mp (by kernel_rfl)) h
abbrev s_earliest : Stmt := topS 12
theorem sc_earliest : FnScope ["net"] ["net"] (defScope s_earliest) := ⟨rfl, rfl, rfl, by decide +kernel, rfl, by decide +kernel, by decide +kernel⟩
def m_earliest (a : (Int × (List (Int × Int × Int)))) : Pg (Option (List Int)) := Pg.outG (m_check_net a >>= fun r1 => (m_earliest_of a >>= fun r2 => (pure (Ctl.rt r2))))
set_option maxHeartbeats 4000000 in
theorem cal_earliest (D : Nz.DefK K mg "earliest" s_earliest ["net"]) (md : Md mg) (c_check_net : Nz.Cal P w K mg base 1 "check_net" (Nz.spP (K := K) (f1 (rPr (fc rInt (f1 (rTup (rPr (fc rInt (fc rInt (f1 rInt))))))))) rNon (fun a => (m_check_net a).wp)) []) (c_earliest_of : Nz.Cal P w K mg base 2 "earliest_of" (Nz.spP (K := K) (f1 (rPr (fc rInt (f1 (rTup (rPr (fc rInt (fc rInt (f1 rInt))))))))) (rOpt (rTup rInt)) (fun a => (m_earliest_of a).wp)) []) : Nz.Cal P w K mg base 3 "earliest" (Nz.spP (K := K) (f1 (rPr (fc rInt (f1 (rTup (rPr (fc rInt (fc rInt (f1 rInt))))))))) (rOpt (rTup rInt)) (fun a => (m_earliest a).wp)) [] := by
  refine D.cal fun f fd F => F.ok sc_earliest (fun vs H Q E h => Nz.spP_len h) (fun cdv A outer s H vs Q E hr h => ?_)
  refine ⟨_, (pss_cons (ps_expr (Nz.pe_c c_check_net hr (by decide) (by rfl) (pa_cons (pv 0) pa_nil))) (pss_cons (ps_ret (Nz.pe_c c_earliest_of hr (by decide) (by rfl) (pa_cons (pv 0) pa_nil))) pss_nil)), ?_⟩
  exact Nz.fnP (n := 0) Nz.prm_1 rfl (fun a => (Nz.bj_drop (Nz.ev_call (Nz.ea_1 (Nz.ev_var rfl))) (fun _ => (Nz.bj_ret (Nz.ev_call (Nz.ea_1 (Nz.ev_var rfl))))))) (fun a k => Eq.mp (by kernel_rfl)) h
abbrev s_range_of : Stmt := topS 14
theorem sc_range_of : FnScope ["net", "one", "other", "told", "back"] ["net", "one", "other"] (defScope s_range_of) := ⟨rfl, rfl, rfl, by decide +kernel, rfl, by decide +kernel, by decide +kernel⟩
def m_range_of (a : ((Int × (List (Int × Int × Int))) × Int × Int)) : Pg ((Option Int) × (Option Int)) := Pg.outG (m_fits a.1 >>= fun r1 => (Pg.ifG (pure ((!r1))) Pg.fail (m_closed_net a.1 >>= fun r2 => ((pure r2 : Pg (List (List (Option Int)))) >>= fun told_3 => (Pg.opt (atI told_3 a.2.2) >>= fun e4 => (Pg.opt (atI e4 a.2.1) >>= fun e5 => ((pure e5 : Pg (Option Int)) >>= fun back_6 => ((Pg.ifG (Pg.opt (atI told_3 a.2.1) >>= fun e7 => (Pg.opt (atI e7 a.2.2) >>= fun e8 => (pure ((e8).isNone)))) (pure ((none : (Option Int)))) (Pg.opt (atI told_3 a.2.1) >>= fun e9 => (Pg.opt (atI e9 a.2.2) >>= fun e10 => (Pg.opt e10 >>= fun o11 => (pure ((some (-o11))))))) : Pg (Option Int)) >>= fun c12 => (pure (Ctl.rt (c12, back_6))))))))) : Pg (Ctl ((Option Int) × (Option Int)) Empty Unit)))
set_option maxHeartbeats 4000000 in
theorem cal_range_of (D : Nz.DefK K mg "range_of" s_range_of ["net", "one", "other"]) (md : Md mg) (c_closed_net : Nz.Cal P w K mg base 2 "closed_net" (Nz.spP (K := K) (f1 (rPr (fc rInt (f1 (rTup (rPr (fc rInt (fc rInt (f1 rInt))))))))) (rTup (rTup (rOpt rInt))) (fun a => (m_closed_net a).wp)) []) (c_fits : Nz.Cal P w K mg base 3 "fits" (Nz.spP (K := K) (f1 (rPr (fc rInt (f1 (rTup (rPr (fc rInt (fc rInt (f1 rInt))))))))) rBl (fun a => (m_fits a).wp)) []) : Nz.Cal P w K mg base 4 "range_of" (Nz.spP (K := K) (fc (rPr (fc rInt (f1 (rTup (rPr (fc rInt (fc rInt (f1 rInt)))))))) (fc rInt (f1 rInt))) (rPr (fc (rOpt rInt) (f1 (rOpt rInt)))) (fun a => (m_range_of a).wp)) [] := by
  refine D.cal fun f fd F => F.ok sc_range_of (fun vs H Q E h => Nz.spP_len h) (fun cdv A outer s H vs Q E hr h => ?_)
  refine ⟨_, (pss_cons (ps_if (pt_not (pt_val (Nz.pe_c c_fits hr (by decide) (by rfl) (pa_cons (pv 0) pa_nil)))) (pss_cons ps_never pss_nil) pss_nil) (pss_cons (ps_set (i := 3) sc_range_of.nd rfl (Or.inl rfl) (Nz.pe_c c_closed_net hr (by decide) (by rfl) (pa_cons (pv 0) pa_nil))) (pss_cons (ps_set (i := 4) sc_range_of.nd rfl (Or.inl rfl) (pe_ix (ix_tK K) (pe_ix (ix_tK K) (pv 3) (pv 2) (fun _ _ => rfl)) (pv 1) (fun _ _ => rfl))) (pss_cons (ps_ret (pe_tup (pa_cons (pe_ifExp (pt_cmp (pc_isN (pe_ix (ix_tK K) (pe_ix (ix_tK K) (pv 3) (pv 1) (fun _ _ => rfl)) (pv 2) (fun _ _ => rfl)))) pe_non (pe_un un_neg (pe_ix (ix_tK K) (pe_ix (ix_tK K) (pv 3) (pv 1) (fun _ _ => rfl)) (pv 2) (fun _ _ => rfl)))) (pa_cons (pv 4) pa_nil)))) pss_nil)))), ?_⟩
  exact Nz.fnP (n := 2) (Nz.prm_c (Nz.prm_c Nz.prm_1)) rfl (fun a => (Nz.bj_ifD (Nz.et_not (Nz.et_B (Nz.ev_call (Nz.ea_1 (Nz.ev_var rfl))))) (Nz.bj_seq Nz.bj_never) (Nz.bj_seq0 (Nz.bj_asg (Nz.ev_call (Nz.ea_1 (Nz.ev_var rfl))) (fun told_3 => (Nz.bj_asg (Nz.ev_ixT (Nz.rt_ev (Nz.ev_ixT (Nz.rt_ev (Nz.ev_var rfl)) (Nz.ev_var rfl))) (Nz.ev_var rfl)) (fun back_6 => (Nz.bj_ret (Nz.ev_pr (Nz.ea_c (Nz.ev_if (Nz.et_B (Nz.ev_isN (Nz.ev_ixT (Nz.rt_ev (Nz.ev_ixT (Nz.rt_ev (Nz.ev_var rfl)) (Nz.ev_var rfl))) (Nz.ev_var rfl)))) (Nz.ev_none (r := rInt)) (Nz.ev_some Nz.nn_int (Nz.ev_neg (Nz.ev_get (Nz.ev_ixT (Nz.rt_ev (Nz.ev_ixT (Nz.rt_ev (Nz.ev_var rfl)) (Nz.ev_var rfl))) (Nz.ev_var rfl)))))) (Nz.ea_1 (Nz.ev_var rfl)))))))))))) (fun a k => Eq.mp (by kernel_rfl)) h
abbrev s_strong_times : Stmt := topS 15
theorem sc_strong_times : FnScope ["net", "chosen", "many", "ends", "start", "end", "low", "high", "good", "_", "bounds", "a", "b", "most", "one", "other", "slack", "told", "k", "time"] ["net", "chosen"] (defScope s_strong_times) := ⟨rfl, rfl, rfl, by decide +kernel, rfl, by decide +kernel, by decide +kernel⟩
def m_strong_times (a : ((Int × (List (Int × Int × Int))) × (List (Int × Int × Int × Int)))) : Pg (Option (List (Option Int))) := Pg.outG (m_check_net a.1 >>= fun r1 => ((pure a.1.1 : Pg Int) >>= fun many_2 => (Pg.dict a.2 (fun y3 => pure true) (fun y3 => (pure (y3.2.1))) (fun y3 => (pure ((y3.1, y3.2.2.1, y3.2.2.2)))) >>= fun d4 => ((pure d4 : Pg (List (Int × (Int × Int × Int)))) >>= fun ends_5 => (Pg.comp a.2 (fun y6 => pure true) (fun y6 => (Pg.andG (pure ((!(dget ends_5 y6.1).isSome))) (Pg.andG (Pg.andG (pure (decide ((0 : Int) ≤ y6.1))) (pure (decide (y6.1 < many_2))) >>= fun b7 => (pure (b7))) (Pg.andG (pure (decide ((0 : Int) ≤ y6.2.1))) (pure (decide (y6.2.1 < many_2))) >>= fun b8 => (pure (b8)))) >>= fun b9 => (pure (b9)))) >>= fun l10 => ((pure l10 : Pg (List Bool)) >>= fun good_11 => (Pg.orG (pure ((!decide (((ends_5).length : Int) = ((a.2).length : Int))))) (pure ((!((good_11).all id)))) >>= fun b12 => (Pg.ifG (pure (b12)) Pg.fail (Pg.comp a.2 (fun y13 => pure true) (fun y13 => (Pg.andG (pure (decide ((0 : Int) ≤ y13.2.2.1))) (Pg.andG (pure (decide (y13.2.2.1 ≤ y13.2.2.2))) (pure (decide (y13.2.2.2 ≤ (99 : Int))))) >>= fun b14 => (pure ((!b14))))) >>= fun l15 => (Pg.ifG (pure (((l15).any id))) Pg.fail ((pure ([] : (List (Int × Int × Int))) : Pg (List (Int × Int × Int))) >>= fun bounds_16 => ((Pg.forc a.1.2 bounds_16 (fun y18 s17 => (Pg.andG (pure ((dget ends_5 y18.1).isSome)) (Pg.andG (pure ((dget ends_5 y18.2.1).isSome)) (pure ((decide (y18.1 = y18.2.1))))) >>= fun b19 => (Pg.ifG (pure (b19)) (Pg.ask ((s17).length < big) >>= fun _ => ((pure (s17 ++ [((0 : Int), (0 : Int), (min y18.2.2 (0 : Int)))]) : Pg (List (Int × Int × Int))) >>= fun bounds_20 => (pure (Ctl.ct bounds_20)))) ((pure y18.1 : Pg Int) >>= fun one_21 => ((pure y18.2.1 : Pg Int) >>= fun other_22 => ((pure y18.2.2 : Pg Int) >>= fun slack_23 => (Pg.iteG (pure ((dget ends_5 y18.1).isSome)) ((Pg.opt (dget ends_5 y18.1) >>= fun e25 => ((pure e25.1 : Pg Int) >>= fun one_26 => (Pg.opt (dget ends_5 y18.1) >>= fun e27 => ((pure (slack_23 + e27.2.1) : Pg Int) >>= fun slack_28 => (pure (Ctl.nx (one_26, slack_28))))))) : Pg (Ctl (Option (List (Option Int))) (List (Int × Int × Int)) (Int × Int))) (pure (Ctl.nx (one_21, slack_23))) (fun s24 => (Pg.iteG (pure ((dget ends_5 y18.2.1).isSome)) ((Pg.opt (dget ends_5 y18.2.1) >>= fun e30 => ((pure e30.1 : Pg Int) >>= fun other_31 => (Pg.opt (dget ends_5 y18.2.1) >>= fun e32 => ((pure (s24.2 - e32.2.2) : Pg Int) >>= fun slack_33 => (pure (Ctl.nx (other_31, slack_33))))))) : Pg (Ctl (Option (List (Option Int))) (List (Int × Int × Int)) (Int × Int))) (pure (Ctl.nx (other_22, s24.2))) (fun s29 => (Pg.ask ((s17).length < big) >>= fun _ => ((pure (s17 ++ [(s24.1, s29.1, s29.2)]) : Pg (List (Int × Int × Int))) >>= fun bounds_34 => (pure (Ctl.nx bounds_34))))))))))) : Pg (Ctl (Option (List (Option Int))) (List (Int × Int × Int)) (List (Int × Int × Int)))))) : Pg (Ctl (Option (List (Option Int))) Empty (List (Int × Int × Int)))) >>= Pg.seqG (fun s17 => (m_earliest_of (many_2, s17) >>= fun r35 => ((pure r35 : Pg (Option (List Int))) >>= fun told_36 => ((Pg.ifG (pure ((told_36).isNone)) (pure ((none : (Option (List (Option Int)))))) (Pg.opt told_36 >>= fun o37 => (Pg.comp (enumZ o37) (fun y38 => pure true) (fun y38 => ((Pg.ifG (pure ((dget ends_5 y38.1).isSome)) (pure ((none : (Option Int)))) (pure ((some y38.2))) : Pg (Option Int)) >>= fun c39 => (pure (c39)))) >>= fun l40 => (pure ((some l40))))) : Pg (Option (List (Option Int)))) >>= fun c41 => (pure (Ctl.rt c41)))))))) : Pg (Ctl (Option (List (Option Int))) Empty Unit))) : Pg (Ctl (Option (List (Option Int))) Empty Unit)))))))))
set_option maxHeartbeats 4000000 in
theorem cal_strong_times (D : Nz.DefK K mg "strong_times" s_strong_times ["net", "chosen"]) (md : Md mg) (c_check_net : Nz.Cal P w K mg base 1 "check_net" (Nz.spP (K := K) (f1 (rPr (fc rInt (f1 (rTup (rPr (fc rInt (fc rInt (f1 rInt))))))))) rNon (fun a => (m_check_net a).wp)) []) (c_earliest_of : Nz.Cal P w K mg base 2 "earliest_of" (Nz.spP (K := K) (f1 (rPr (fc rInt (f1 (rTup (rPr (fc rInt (fc rInt (f1 rInt))))))))) (rOpt (rTup rInt)) (fun a => (m_earliest_of a).wp)) []) : Nz.Cal P w K mg base 3 "strong_times" (Nz.spP (K := K) (fc (rPr (fc rInt (f1 (rTup (rPr (fc rInt (fc rInt (f1 rInt)))))))) (f1 (rTup (rPr (fc rInt (fc rInt (fc rInt (f1 rInt)))))))) (rOpt (rTup (rOpt rInt))) (fun a => (m_strong_times a).wp)) [] := by
  refine D.cal fun f fd F => F.ok sc_strong_times (fun vs H Q E h => Nz.spP_len h) (fun cdv A outer s H vs Q E hr h => ?_)
  refine ⟨_, (pss_cons (ps_expr (Nz.pe_c c_check_net hr (by decide) (by rfl) (pa_cons (pv 0) pa_nil))) (pss_cons (ps_set (i := 2) sc_strong_times.nd rfl (Or.inr rfl) (pe_ix (ix_tK K) (pv 0) pe_int (fun _ _ => rfl))) (pss_cons (ps_set (i := 3) sc_strong_times.nd rfl (Or.inr rfl) (pe_dc (own := [("start", 4), ("end", 5), ("low", 6), ("high", 7)]) rfl sc_strong_times.nd (pi_tK K (pv 1)) (blkOk_by (N := ["net", "chosen", "many", "ends", "start", "end", "low", "high", "good", "_", "bounds", "a", "b", "most", "one", "other", "slack", "told", "k", "time"]) (sc := (defScope s_strong_times)) (by decide +kernel)) (fun _ _ _ _ _ => (Nz.pg_tupK K 4 rfl (pgs_cons (pg_name (i := 4) sc_strong_times.nd rfl (Or.inl rfl) (Or.inr rfl)) (pgs_cons (pg_name (i := 5) sc_strong_times.nd rfl (Or.inl rfl) (Or.inr rfl)) (pgs_cons (pg_name (i := 6) sc_strong_times.nd rfl (Or.inl rfl) (Or.inr rfl)) (pgs_cons (pg_name (i := 7) sc_strong_times.nd rfl (Or.inl rfl) (Or.inr rfl)) pgs_nil)))))) (fun _ _ _ _ _ => pts_nil) (fun _ _ _ _ _ => (pv 5)) (fun _ _ _ _ _ => (pe_tup (pa_cons (pv 4) (pa_cons (pv 6) (pa_cons (pv 7) pa_nil))))))) (pss_cons (ps_setLc (i := 8) rfl sc_strong_times.nd rfl rfl (sw_true rfl rfl rfl rfl) (own := [("start", 4), ("end", 5), ("_", 9)]) (pi_tK K (pv 1)) (blkOk_by (N := ["net", "chosen", "many", "ends", "start", "end", "low", "high", "good", "_", "bounds", "a", "b", "most", "one", "other", "slack", "told", "k", "time"]) (sc := (defScope s_strong_times)) (by decide +kernel)) (fun _ _ _ _ _ => (Nz.pg_tupK K 4 rfl (pgs_cons (pg_name (i := 4) sc_strong_times.nd rfl (Or.inl rfl) (Or.inr rfl)) (pgs_cons (pg_name (i := 5) sc_strong_times.nd rfl (Or.inl rfl) (Or.inr rfl)) (pgs_cons (pg_name (i := 9) sc_strong_times.nd rfl (Or.inl rfl) (Or.inr rfl)) (pgs_cons (pg_name (i := 9) sc_strong_times.nd rfl (Or.inl rfl) (Or.inr rfl)) pgs_nil)))))) (fun _ _ _ _ _ => pts_nil) (fun _ _ _ _ _ => (pe_and (pe_cmp (pc_dnotin (hu_of hr) (pv 4) (pv 3))) (pe_and (pe_chain op_le op_lt pe_int (pv 4) (pv 2)) (pe_one (pe_chain op_le op_lt pe_int (pv 5) (pv 2))))))) (pss_cons (ps_if (PW.pt (pw_or (pt_cmpR op_ne (pe_callB call_lenDR (by rfl) md.len (by decide +kernel) (pa_cons (pv 3) pa_nil)) (pe_callB (cr_lenK K) (by rfl) md.len (by decide +kernel) (pa_cons (pv 1) pa_nil)) (by rfl)) (pw_or1 (pt_not (pt_val (pe_callB (cr_allK K) (by rfl) md.all (by decide +kernel) (pa_cons (pv 8) pa_nil))))))) (pss_cons ps_never pss_nil) pss_nil) (pss_cons (ps_if (pt_val (pe_callB (cr_anyK K) (by rfl) md.any (by decide +kernel) (pa_cons (pe_lc (own := [("_", 9), ("low", 6), ("high", 7)]) rfl sc_strong_times.nd (pi_tK K (pv 1)) (blkOk_by (N := ["net", "chosen", "many", "ends", "start", "end", "low", "high", "good", "_", "bounds", "a", "b", "most", "one", "other", "slack", "told", "k", "time"]) (sc := (defScope s_strong_times)) (by decide +kernel)) (fun _ _ _ _ _ => (Nz.pg_tupK K 4 rfl (pgs_cons (pg_name (i := 9) sc_strong_times.nd rfl (Or.inl rfl) (Or.inr rfl)) (pgs_cons (pg_name (i := 9) sc_strong_times.nd rfl (Or.inl rfl) (Or.inr rfl)) (pgs_cons (pg_name (i := 6) sc_strong_times.nd rfl (Or.inl rfl) (Or.inr rfl)) (pgs_cons (pg_name (i := 7) sc_strong_times.nd rfl (Or.inl rfl) (Or.inr rfl)) pgs_nil)))))) (fun _ _ _ _ _ => pts_nil) (fun _ _ _ _ _ => (pe_not (Nz.pe_chain3 op_le op_le op_le pe_int (pv 6) (pv 7) pe_int)))) pa_nil))) (pss_cons ps_never pss_nil) pss_nil) (pss_cons (ps_set (i := 10) sc_strong_times.nd rfl (Or.inl rfl) (pe_lst pa_nil)) (pss_cons (ps_for PassesOwn.never rfl (pi_tK K (pe_ix (ix_tK K) (pv 0) pe_int (fun _ _ => rfl))) (Nz.pg_tupK K 3 rfl (pgs_cons (pg_name (i := 11) sc_strong_times.nd rfl (Or.inl rfl) (Or.inr rfl)) (pgs_cons (pg_name (i := 12) sc_strong_times.nd rfl (Or.inl rfl) (Or.inr rfl)) (pgs_cons (pg_name (i := 13) sc_strong_times.nd rfl (Or.inl rfl) (Or.inr rfl)) pgs_nil)))) (pss_cons (ps_if (PW.pt (pw_and (pt_cmp (pc_din (hu_of hr) (pv 11) (pv 3))) (pw_and (pt_cmp (pc_din (hu_of hr) (pv 12) (pv 3))) (pw_and1 (pt_cmpR op_eq (pv 11) (pv 12) (by rfl)))))) (pss_cons (ps_expr (pe_bm PySem.F.plainAttrs_list PySem.F.slot_list_append PySem.F.type_list_append mt_append (pv 10) (pa_cons (pe_tup (pa_cons pe_int (pa_cons pe_int (pa_cons (pe_callB Nz.call_min2K (by rfl) md.min (by decide +kernel) (pa_cons (pv 13) (pa_cons pe_int pa_nil))) pa_nil)))) pa_nil))) (pss_cons ps_continue pss_nil)) pss_nil) (pss_cons (ps_par3 (i := 14) (j := 15) (l := 16) rfl sc_strong_times.nd rfl rfl rfl (by decide) (by decide) (by decide) rfl rfl rfl (pa_cons (pv 11) (pa_cons (pv 12) (pa_cons (pv 13) pa_nil))) (by rfl)) (pss_cons (ps_if (pt_cmp (pc_din (hu_of hr) (pv 11) (pv 3))) (pss_cons (ps_par (i := 14) (j := 16) rfl sc_strong_times.nd rfl rfl (by decide) rfl rfl (pa_cons (pe_ix (ix_tK K) (pe_dget (hu_of hr) (pv 3) (pv 11) (fun _ _ => rfl)) pe_int (fun _ _ => rfl)) (pa_cons (pe_op op_add (pv 16) (pe_ix (ix_tK K) (pe_dget (hu_of hr) (pv 3) (pv 11) (fun _ _ => rfl)) pe_int (fun _ _ => rfl))) pa_nil)) (by rfl)) pss_nil) pss_nil) (pss_cons (ps_if (pt_cmp (pc_din (hu_of hr) (pv 12) (pv 3))) (pss_cons (ps_par (i := 15) (j := 16) rfl sc_strong_times.nd rfl rfl (by decide) rfl rfl (pa_cons (pe_ix (ix_tK K) (pe_dget (hu_of hr) (pv 3) (pv 12) (fun _ _ => rfl)) pe_int (fun _ _ => rfl)) (pa_cons (pe_op op_sub (pv 16) (pe_ix (ix_tK K) (pe_dget (hu_of hr) (pv 3) (pv 12) (fun _ _ => rfl)) pe_int (fun _ _ => rfl))) pa_nil)) (by rfl)) pss_nil) pss_nil) (pss_cons (ps_expr (pe_bm PySem.F.plainAttrs_list PySem.F.slot_list_append PySem.F.type_list_append mt_append (pv 10) (pa_cons (pe_tup (pa_cons (pv 14) (pa_cons (pv 15) (pa_cons (pv 16) pa_nil)))) pa_nil))) pss_nil)))))) (pss_cons (ps_set (i := 17) sc_strong_times.nd rfl (Or.inl rfl) (Nz.pe_c c_earliest_of hr (by decide) (by rfl) (pa_cons (pe_tup (pa_cons (pv 2) (pa_cons (pe_callTy (cr_tupK K) (by rfl) md.tuple (by decide +kernel) (pa_cons (pv 10) pa_nil)) pa_nil))) pa_nil))) (pss_cons (ps_ret (pe_ifExp (pt_cmp (pc_isN (pv 17))) pe_non (pe_callTy (cr_tupK K) (by rfl) md.tuple (by decide +kernel) (pa_cons (pe_lc (own := [("k", 18), ("time", 19)]) rfl sc_strong_times.nd (pi_eTK K (by rfl) md.enumerate (pa_cons (pv 17) pa_nil)) (blkOk_by (N := ["net", "chosen", "many", "ends", "start", "end", "low", "high", "good", "_", "bounds", "a", "b", "most", "one", "other", "slack", "told", "k", "time"]) (sc := (defScope s_strong_times)) (by decide +kernel)) (fun _ _ _ _ _ => (Nz.pg_tupK K 2 rfl (pgs_cons (pg_name (i := 18) sc_strong_times.nd rfl (Or.inl rfl) (Or.inr rfl)) (pgs_cons (pg_name (i := 19) sc_strong_times.nd rfl (Or.inl rfl) (Or.inr rfl)) pgs_nil)))) (fun _ _ _ _ _ => pts_nil) (fun _ _ _ _ _ => (pe_ifExp (pt_cmp (pc_din (hu_of hr) (pv 18) (pv 3))) pe_non (pv 19)))) pa_nil)))) pss_nil)))))))))), ?_⟩
  exact Nz.fnP (n := 18) (Nz.prm_c Nz.prm_1) rfl (fun a => (Nz.bj_drop (Nz.ev_call (Nz.ea_1 (Nz.ev_var rfl))) (fun _ => (Nz.bj_asg (Nz.ev_fld (i := 0) Nz.fld_0 (Nz.ev_var rfl)) (fun many_2 => (Nz.bj_asg (Nz.ev_d (Nz.ed_dc Nz.kyr_int (Nz.ir_iv (Nz.iv_tup (Nz.ev_var rfl))) (Nz.gt_tup rfl (Nz.gts_cons Nz.gt_name (fun _ => (Nz.gts_cons Nz.gt_name (fun _ => (Nz.gts_cons Nz.gt_name (fun _ => (Nz.gts_nil Nz.gt_name)))))))) (by decide) (fun y3 => Nz.et_yes) (fun y3 => (Nz.ev_var rfl)) (fun y3 => (Nz.ev_pr (Nz.ea_c (Nz.ev_var rfl) (Nz.ea_c (Nz.ev_var rfl) (Nz.ea_1 (Nz.ev_var rfl)))))))) (fun ends_5 => (Nz.bj_asg (Nz.ev_l (Nz.el_lc (Nz.ir_iv (Nz.iv_tup (Nz.ev_var rfl))) (Nz.gt_tup rfl (Nz.gts_cons Nz.gt_name (fun _ => (Nz.gts_cons Nz.gt_name (fun _ => (Nz.gts_cons Nz.gt_name (fun _ => (Nz.gts_nil Nz.gt_name)))))))) (by decide) (fun y6 => Nz.et_yes) (fun y6 => (Nz.ev_and (Nz.ev_dni Nz.kyr_int (Nz.ev_var rfl) (Nz.rd_ev (Nz.ev_var rfl))) (Nz.ev_and (Nz.ev_chain (g := fun i j => decide (i ≤ j)) (g' := fun i j => decide (i < j)) (Nz.ev_int (i := 0)) (Nz.ev_var rfl) (Nz.ev_var rfl)) (Nz.ev_chain (g := fun i j => decide (i ≤ j)) (g' := fun i j => decide (i < j)) (Nz.ev_int (i := 0)) (Nz.ev_var rfl) (Nz.ev_var rfl))))))) (fun good_11 => (Nz.bj_ifD (Nz.et_or (Nz.et_T (Nz.ev_neI (Nz.ev_lenD (Nz.rd_ev (Nz.ev_var rfl))) (Nz.ev_lenS (Nz.rs_t (Nz.rt_ev (Nz.ev_var rfl)))))) (Nz.et_not (Nz.et_B (Nz.ev_all (Nz.rl_ev (Nz.ev_var rfl)))))) (Nz.bj_seq Nz.bj_never) (Nz.bj_seq0 (Nz.bj_ifD (Nz.et_B (Nz.ev_any (Nz.rl_l (Nz.el_lc (Nz.ir_iv (Nz.iv_tup (Nz.ev_var rfl))) (Nz.gt_tup rfl (Nz.gts_cons Nz.gt_name (fun _ => (Nz.gts_cons Nz.gt_name (fun _ => (Nz.gts_cons Nz.gt_name (fun _ => (Nz.gts_nil Nz.gt_name)))))))) (by decide) (fun y13 => Nz.et_yes) (fun y13 => (Nz.ev_not (Nz.ev_chain3 (g := fun i j => decide (i ≤ j)) (g' := fun i j => decide (i ≤ j)) (g2 := fun i j => decide (i ≤ j)) (Nz.ev_int (i := 0)) (Nz.ev_var rfl) (Nz.ev_var rfl) (Nz.ev_int (i := 99))))))))) (Nz.bj_seq Nz.bj_never) (Nz.bj_seq0 (Nz.bj_asgL (Nz.el_nil (r := (rPr (fc rInt (fc rInt (f1 rInt)))))) (of_decide_eq_true rfl) (fun bounds_16 => (Nz.bj_for (fS := (fun (s17 : (List (Int × Int × Int))) => [(slV (rPr (fc rInt (f1 (rTup (rPr (fc rInt (fc rInt (f1 rInt)))))))) a.1), (slV (rTup (rPr (fc rInt (fc rInt (fc rInt (f1 rInt)))))) a.2), (slV rInt many_2), (slV (rDk kyI (rPr (fc rInt (fc rInt (f1 rInt))))) ends_5), slAny, slAny, slAny, slAny, (slV (rLst rBl) good_11), slAny, (slL (rPr (fc rInt (fc rInt (f1 rInt)))) s17), slAny, slAny, slAny, slAny, slAny, slAny, slAny, slAny, slAny])) (oS := [10]) (s0 := bounds_16) (Nz.iv_tup (Nz.ev_fld (i := 1) (Nz.fld_s (n := 0) Nz.fld_one) (Nz.ev_var rfl))) (Nz.wk_k rfl (Nz.wk_k rfl (Nz.wk_k rfl (Nz.wk_k rfl (Nz.wk_a (Nz.wk_a (Nz.wk_a (Nz.wk_a (Nz.wk_k rfl (Nz.wk_a (Nz.wk_o (by decide) (Nz.wk_a (Nz.wk_a (Nz.wk_a (Nz.wk_a (Nz.wk_a (Nz.wk_a (Nz.wk_a (Nz.wk_a (Nz.wk_a Nz.Wks.nil)))))))))))))))))))) (by decide) (fun s17 => (Nz.gt_tup rfl (Nz.gts_cons Nz.gt_name (fun _ => (Nz.gts_cons Nz.gt_name (fun _ => (Nz.gts_nil Nz.gt_name))))))) (by decide) (fun s17 y18 => (Nz.bj_ifD (Nz.et_and (Nz.et_B (Nz.ev_din Nz.kyr_int (Nz.ev_var rfl) (Nz.rd_ev (Nz.ev_var rfl)))) (Nz.et_and (Nz.et_B (Nz.ev_din Nz.kyr_int (Nz.ev_var rfl) (Nz.rd_ev (Nz.ev_var rfl)))) (Nz.et_T (Nz.ev_eqI (Nz.ev_var rfl) (Nz.ev_var rfl))))) (Nz.bj_seq (Nz.bj_app (by decide) rfl (Nz.ev_pr (Nz.ea_c (Nz.ev_int (i := 0)) (Nz.ea_c (Nz.ev_int (i := 0)) (Nz.ea_1 (Nz.ev_min2 (Nz.ev_var rfl) (Nz.ev_int (i := 0))))))) (fun bounds_20 => (Nz.bj_seq (Nz.bj_cnt (s := bounds_20) (Nz.wk_k rfl (Nz.wk_k rfl (Nz.wk_k rfl (Nz.wk_k rfl (Nz.wk_a (Nz.wk_a (Nz.wk_a (Nz.wk_a (Nz.wk_k rfl (Nz.wk_a (Nz.wk_o (by decide) (Nz.wk_a (Nz.wk_a (Nz.wk_a (Nz.wk_a (Nz.wk_a (Nz.wk_a (Nz.wk_a (Nz.wk_a (Nz.wk_a Nz.Wks.nil)))))))))))))))))))) (by decide)))))) (Nz.bj_seq0 (Nz.bj_par3 (Nz.us_v (Nz.ev_var rfl)) (Nz.us_v (Nz.ev_var rfl)) (Nz.us_v (Nz.ev_var rfl)) (of_decide_eq_true rfl) (of_decide_eq_true rfl) (of_decide_eq_true rfl) (fun one_21 other_22 slack_23 => (Nz.bj_if (fM := (fun (s24 : (Int × Int)) => [(slV (rPr (fc rInt (f1 (rTup (rPr (fc rInt (fc rInt (f1 rInt)))))))) a.1), (slV (rTup (rPr (fc rInt (fc rInt (fc rInt (f1 rInt)))))) a.2), (slV rInt many_2), (slV (rDk kyI (rPr (fc rInt (fc rInt (f1 rInt))))) ends_5), slAny, slAny, slAny, slAny, (slV (rLst rBl) good_11), slAny, (slL (rPr (fc rInt (fc rInt (f1 rInt)))) s17), (slV rInt y18.1), (slV rInt y18.2.1), (slV rInt y18.2.2), (slV rInt s24.1), (slV rInt other_22), (slV rInt s24.2), slAny, slAny, slAny])) (oM := [10]) (Nz.et_B (Nz.ev_din Nz.kyr_int (Nz.ev_var rfl) (Nz.rd_ev (Nz.ev_var rfl)))) (Nz.bj_par (Nz.us_v (Nz.ev_fld (i := 0) Nz.fld_0 (Nz.ev_dget Nz.kyr_int (Nz.rd_ev (Nz.ev_var rfl)) (Nz.ev_var rfl)))) (Nz.us_v (Nz.ev_I0 (g := fun i j => i + j) (Nz.ev_var rfl) (Nz.ev_fld (i := 1) (Nz.fld_s (n := 0) Nz.fld_0) (Nz.ev_dget Nz.kyr_int (Nz.rd_ev (Nz.ev_var rfl)) (Nz.ev_var rfl))))) (of_decide_eq_true rfl) (of_decide_eq_true rfl) (fun one_26 slack_28 => (Nz.bj_nx (s := (one_26, slack_28)) (Nz.wk_k rfl (Nz.wk_k rfl (Nz.wk_k rfl (Nz.wk_k rfl (Nz.wk_a (Nz.wk_a (Nz.wk_a (Nz.wk_a (Nz.wk_k rfl (Nz.wk_a (Nz.wk_o (by decide) (Nz.wk_k rfl (Nz.wk_k rfl (Nz.wk_k rfl (Nz.wk_k rfl (Nz.wk_k rfl (Nz.wk_k rfl (Nz.wk_a (Nz.wk_a (Nz.wk_a Nz.Wks.nil)))))))))))))))))))) (by decide)))) (Nz.bj_nx (s := (one_21, slack_23)) (Nz.wk_k rfl (Nz.wk_k rfl (Nz.wk_k rfl (Nz.wk_k rfl (Nz.wk_a (Nz.wk_a (Nz.wk_a (Nz.wk_a (Nz.wk_k rfl (Nz.wk_a (Nz.wk_o (by decide) (Nz.wk_k rfl (Nz.wk_k rfl (Nz.wk_k rfl (Nz.wk_k rfl (Nz.wk_k rfl (Nz.wk_k rfl (Nz.wk_a (Nz.wk_a (Nz.wk_a Nz.Wks.nil)))))))))))))))))))) (by decide)) (fun s24 => (Nz.bj_if (fM := (fun (s29 : (Int × Int)) => [(slV (rPr (fc rInt (f1 (rTup (rPr (fc rInt (fc rInt (f1 rInt)))))))) a.1), (slV (rTup (rPr (fc rInt (fc rInt (fc rInt (f1 rInt)))))) a.2), (slV rInt many_2), (slV (rDk kyI (rPr (fc rInt (fc rInt (f1 rInt))))) ends_5), slAny, slAny, slAny, slAny, (slV (rLst rBl) good_11), slAny, (slL (rPr (fc rInt (fc rInt (f1 rInt)))) s17), (slV rInt y18.1), (slV rInt y18.2.1), (slV rInt y18.2.2), (slV rInt s24.1), (slV rInt s29.1), (slV rInt s29.2), slAny, slAny, slAny])) (oM := [10]) (Nz.et_B (Nz.ev_din Nz.kyr_int (Nz.ev_var rfl) (Nz.rd_ev (Nz.ev_var rfl)))) (Nz.bj_par (Nz.us_v (Nz.ev_fld (i := 0) Nz.fld_0 (Nz.ev_dget Nz.kyr_int (Nz.rd_ev (Nz.ev_var rfl)) (Nz.ev_var rfl)))) (Nz.us_v (Nz.ev_I0 (g := fun i j => i - j) (Nz.ev_var rfl) (Nz.ev_fld (i := 2) (Nz.fld_s (n := 1) (Nz.fld_s (n := 0) Nz.fld_one)) (Nz.ev_dget Nz.kyr_int (Nz.rd_ev (Nz.ev_var rfl)) (Nz.ev_var rfl))))) (of_decide_eq_true rfl) (of_decide_eq_true rfl) (fun other_31 slack_33 => (Nz.bj_nx (s := (other_31, slack_33)) (Nz.wk_k rfl (Nz.wk_k rfl (Nz.wk_k rfl (Nz.wk_k rfl (Nz.wk_a (Nz.wk_a (Nz.wk_a (Nz.wk_a (Nz.wk_k rfl (Nz.wk_a (Nz.wk_o (by decide) (Nz.wk_k rfl (Nz.wk_k rfl (Nz.wk_k rfl (Nz.wk_k rfl (Nz.wk_k rfl (Nz.wk_k rfl (Nz.wk_a (Nz.wk_a (Nz.wk_a Nz.Wks.nil)))))))))))))))))))) (by decide)))) (Nz.bj_nx (s := (other_22, s24.2)) (Nz.wk_k rfl (Nz.wk_k rfl (Nz.wk_k rfl (Nz.wk_k rfl (Nz.wk_a (Nz.wk_a (Nz.wk_a (Nz.wk_a (Nz.wk_k rfl (Nz.wk_a (Nz.wk_o (by decide) (Nz.wk_k rfl (Nz.wk_k rfl (Nz.wk_k rfl (Nz.wk_k rfl (Nz.wk_k rfl (Nz.wk_k rfl (Nz.wk_a (Nz.wk_a (Nz.wk_a Nz.Wks.nil)))))))))))))))))))) (by decide)) (fun s29 => (Nz.bj_app (by decide) rfl (Nz.ev_pr (Nz.ea_c (Nz.ev_var rfl) (Nz.ea_c (Nz.ev_var rfl) (Nz.ea_1 (Nz.ev_var rfl))))) (fun bounds_34 => (Nz.bj_nx (s := bounds_34) (Nz.wk_k rfl (Nz.wk_k rfl (Nz.wk_k rfl (Nz.wk_k rfl (Nz.wk_a (Nz.wk_a (Nz.wk_a (Nz.wk_a (Nz.wk_k rfl (Nz.wk_a (Nz.wk_o (by decide) (Nz.wk_a (Nz.wk_a (Nz.wk_a (Nz.wk_a (Nz.wk_a (Nz.wk_a (Nz.wk_a (Nz.wk_a (Nz.wk_a Nz.Wks.nil)))))))))))))))))))) (by decide))))))))))))) (fun s17 => (Nz.bj_frzL (i := 10) (by decide) rfl (Nz.bj_asg (Nz.ev_call (Nz.ea_1 (Nz.ev_pr (Nz.ea_c (Nz.ev_var rfl) (Nz.ea_1 (Nz.ev_tupL (Nz.rl_ev (Nz.ev_var rfl)))))))) (fun told_36 => (Nz.bj_ret (Nz.ev_if (Nz.et_B (Nz.ev_isN (Nz.ev_var rfl))) (Nz.ev_none (r := (rTup (rOpt rInt)))) (Nz.ev_some Nz.nn_tup (Nz.ev_tupL (Nz.rl_l (Nz.el_lc (Nz.ir_iv (Nz.iv_enumT (Nz.ev_get (Nz.ev_var rfl)))) (Nz.gt_tup rfl (Nz.gts_cons Nz.gt_name (fun _ => (Nz.gts_nil Nz.gt_name)))) (by decide) (fun y38 => Nz.et_yes) (fun y38 => (Nz.ev_if (Nz.et_B (Nz.ev_din Nz.kyr_int (Nz.ev_var rfl) (Nz.rd_ev (Nz.ev_var rfl)))) (Nz.ev_none (r := rInt)) (Nz.ev_some Nz.nn_int (Nz.ev_var rfl)))))))))))))))))))))))))))))) (fun a k => Eq.mp (by kernel_rfl)) h
abbrev s_law_net : Stmt := topS 19
theorem sc_law_net : FnScope ["tape", "most", "many", "bounds", "k"] ["tape", "most"] (defScope s_law_net) := ⟨rfl, rfl, rfl, by decide +kernel, rfl, by decide +kernel, by decide +kernel⟩
def m_law_net (a : Int) : Pg (Int × (List (Int × Int × Int))) := Pg.outG (m_law_take a >>= fun r1 => ((pure ((1 : Int) + r1) : Pg Int) >>= fun many_2 => ((pure ([] : (List (Int × Int × Int))) : Pg (List (Int × Int × Int))) >>= fun bounds_3 => (m_law_take (8 : Int) >>= fun r4 => (Pg.ask (-100000 ≤ r4 ∧ r4 ≤ 100000) >>= fun _ => ((Pg.forc (rg r4) bounds_3 (fun y6 s5 => (m_law_take many_2 >>= fun r8 => (m_law_take many_2 >>= fun r9 => (m_law_take (23 : Int) >>= fun r10 => (Pg.ask ((s5).length < big) >>= fun _ => ((pure (s5 ++ [(r8, r9, (r10 - (6 : Int)))]) : Pg (List (Int × Int × Int))) >>= fun bounds_7 => (pure (Ctl.nx bounds_7)))))))) : Pg (Ctl (Int × (List (Int × Int × Int))) Empty (List (Int × Int × Int)))) >>= Pg.seqG (fun s5 => (pure (Ctl.rt (many_2, s5))))))))))
set_option maxHeartbeats 4000000 in
theorem cal_law_net (D : Nz.DefK K mg "_law_net" s_law_net ["tape", "most"]) (md : Md mg) (c__law_take : Nz.Cal P w K mg base 1 "_law_take" (Nz.spTX (K := K) effT (f1 rInt) rInt (fun a => (m_law_take a).wp)) []) : Nz.Cal P w K mg base 2 "_law_net" (Nz.spTX (K := K) effT (f1 rInt) (rPr (fc rInt (f1 (rTup (rPr (fc rInt (fc rInt (f1 rInt)))))))) (fun a => (m_law_net a).wp)) [] := by
  refine D.cal fun f fd F => F.ok sc_law_net (fun vs H Q E h => Nz.spTX_len h) (fun cdv A outer s H vs Q E hr h => ?_)
  refine ⟨_, (pss_cons (ps_set (i := 2) sc_law_net.nd rfl (Or.inl rfl) (pe_op op_add pe_int (Nz.pe_c c__law_take hr (by decide) (by rfl) (pa_cons (pv 0) (pa_cons (pv 1) pa_nil))))) (pss_cons (ps_set (i := 3) sc_law_net.nd rfl (Or.inl rfl) (pe_lst pa_nil)) (pss_cons (ps_for PassesOwn.never rfl (pi_range1 (by rfl) md.range (pa_cons (Nz.pe_c c__law_take hr (by decide) (by rfl) (pa_cons (pv 0) (pa_cons pe_int pa_nil))) pa_nil)) (pg_name (i := 4) sc_law_net.nd rfl (Or.inl rfl) (Or.inr rfl)) (pss_cons (ps_expr (pe_bm PySem.F.plainAttrs_list PySem.F.slot_list_append PySem.F.type_list_append mt_append (pv 3) (pa_cons (pe_tup (pa_cons (Nz.pe_c c__law_take hr (by decide) (by rfl) (pa_cons (pv 0) (pa_cons (pv 2) pa_nil))) (pa_cons (Nz.pe_c c__law_take hr (by decide) (by rfl) (pa_cons (pv 0) (pa_cons (pv 2) pa_nil))) (pa_cons (pe_op op_sub (Nz.pe_c c__law_take hr (by decide) (by rfl) (pa_cons (pv 0) (pa_cons pe_int pa_nil))) pe_int) pa_nil)))) pa_nil))) pss_nil)) (pss_cons (ps_ret (pe_tup (pa_cons (pv 2) (pa_cons (pe_callTy (cr_tupK K) (by rfl) md.tuple (by decide +kernel) (pa_cons (pv 3) pa_nil)) pa_nil)))) pss_nil)))), ?_⟩
  exact Nz.fnTX (n := 3) Nz.prm_1 rfl (fun pt c a => (Nz.bj_asg (Nz.ev_I0 (g := fun i j => i + j) (Nz.ev_int (i := 1)) (Nz.ev_callTX (Nz.EffIn.refl _) rfl (Nz.ea_1 (Nz.ev_var rfl)))) (fun many_2 => (Nz.bj_asgL (Nz.el_nil (r := (rPr (fc rInt (fc rInt (f1 rInt)))))) (of_decide_eq_true rfl) (fun bounds_3 => (Nz.bj_for (fS := (fun (s5 : (List (Int × Int × Int))) => [(slAt pt), (slV rInt a), (slV rInt many_2), (slL (rPr (fc rInt (fc rInt (f1 rInt)))) s5), slAny])) (oS := [3]) (s0 := bounds_3) (Nz.iv_rng1 (Nz.ev_callTX (Nz.EffIn.refl _) rfl (Nz.ea_1 (Nz.ev_int (i := 8))))) (Nz.wk_k rfl (Nz.wk_k rfl (Nz.wk_k rfl (Nz.wk_o (by decide) (Nz.wk_a Nz.Wks.nil))))) (by decide) (fun s5 => Nz.gt_name) (by decide) (fun s5 y6 => (Nz.bj_app (by decide) rfl (Nz.ev_pr (Nz.ea_c (Nz.ev_callTX (Nz.EffIn.refl _) rfl (Nz.ea_1 (Nz.ev_var rfl))) (Nz.ea_c (Nz.ev_callTX (Nz.EffIn.refl _) rfl (Nz.ea_1 (Nz.ev_var rfl))) (Nz.ea_1 (Nz.ev_I0 (g := fun i j => i - j) (Nz.ev_callTX (Nz.EffIn.refl _) rfl (Nz.ea_1 (Nz.ev_int (i := 23)))) (Nz.ev_int (i := 6))))))) (fun bounds_7 => (Nz.bj_nx (s := bounds_7) (Nz.wk_k rfl (Nz.wk_k rfl (Nz.wk_k rfl (Nz.wk_o (by decide) (Nz.wk_a Nz.Wks.nil))))) (by decide))))) (fun s5 => (Nz.bj_frzL (i := 3) (by decide) rfl (Nz.bj_ret (Nz.ev_pr (Nz.ea_c (Nz.ev_var rfl) (Nz.ea_1 (Nz.ev_tupL (Nz.rl_ev (Nz.ev_var rfl))))))))))))))) (fun a k => Eq.mp (by kernel_rfl)) h
abbrev s_law_sum : Stmt := topS 20
theorem sc_law_sum : FnScope ["one", "other"] ["one", "other"] (defScope s_law_sum) := ⟨rfl, rfl, rfl, by decide +kernel, rfl, by decide +kernel, by decide +kernel⟩
def m_law_sum (a : ((Option Int) × (Option Int))) : Pg (Option Int) := Pg.outG ((Pg.ifG (Pg.orG (pure ((a.1).isNone)) (pure ((a.2).isNone)) >>= fun b1 => (pure (b1))) (pure ((none : (Option Int)))) (Pg.opt a.1 >>= fun o2 => (Pg.opt a.2 >>= fun o3 => (pure ((some (o2 + o3)))))) : Pg (Option Int)) >>= fun c4 => (pure (Ctl.rt c4)))
set_option maxHeartbeats 4000000 in
theorem cal_law_sum (D : Nz.DefK K mg "_law_sum" s_law_sum ["one", "other"]) (md : Md mg) : Nz.Cal P w K mg base 1 "_law_sum" (Nz.spP (K := K) (fc (rOpt rInt) (f1 (rOpt rInt))) (rOpt rInt) (fun a => (m_law_sum a).wp)) [] := by
  refine D.cal fun f fd F => F.ok sc_law_sum (fun vs H Q E h => Nz.spP_len h) (fun cdv A outer s H vs Q E hr h => ?_)
  refine ⟨_, (pss_cons (ps_ret (pe_ifExp (PW.pt (pw_or (pt_cmp (pc_isN (pv 0))) (pw_or1 (pt_cmp (pc_isN (pv 1)))))) pe_non (pe_op op_add (pv 0) (pv 1)))) pss_nil), ?_⟩
  exact Nz.fnP (n := 0) (Nz.prm_c Nz.prm_1) rfl (fun a => (Nz.bj_ret (Nz.ev_if (Nz.et_or (Nz.et_B (Nz.ev_isN (Nz.ev_var rfl))) (Nz.et_B (Nz.ev_isN (Nz.ev_var rfl)))) (Nz.ev_none (r := rInt)) (Nz.ev_some Nz.nn_int (Nz.ev_I0 (g := fun i j => i + j) (Nz.ev_get (Nz.ev_var rfl)) (Nz.ev_get (Nz.ev_var rfl))))))) (fun a k => Eq.mp (by kernel_rfl)) h
abbrev s_law_least : Stmt := topS 21
theorem sc_law_least : FnScope ["row", "told", "a"] ["row"] (defScope s_law_least) := ⟨rfl, rfl, rfl, by decide +kernel, rfl, by decide +kernel, by decide +kernel⟩
def m_law_least (a : (List (Option Int))) : Pg (Option Int) := Pg.outG (Pg.comp a (fun y1 => pure ((y1).isSome)) (fun y1 => (Pg.opt y1 >>= fun o2 => (pure (o2)))) >>= fun l3 => ((pure l3 : Pg (List Int)) >>= fun told_4 => ((Pg.ifG (pure ((decide ((0 : Int) < ((told_4).length : Int))))) (Pg.ask (told_4 ≠ []) >>= fun _ => (pure ((some (minL told_4))))) (pure ((none : (Option Int)))) : Pg (Option Int)) >>= fun c5 => (pure (Ctl.rt c5)))))
set_option maxHeartbeats 4000000 in
theorem cal_law_least (D : Nz.DefK K mg "_law_least" s_law_least ["row"]) (md : Md mg) : Nz.Cal P w K mg base 1 "_law_least" (Nz.spP (K := K) (f1 (rLst (rOpt rInt))) (rOpt rInt) (fun a => (m_law_least a).wp)) [] := by
  refine D.cal fun f fd F => F.ok sc_law_least (fun vs H Q E h => Nz.spP_len h) (fun cdv A outer s H vs Q E hr h => ?_)
  refine ⟨_, (pss_cons (ps_setLc (i := 1) rfl sc_law_least.nd rfl rfl (sw_true rfl rfl rfl rfl) (own := [("a", 2)]) (pi_lK K (pv 0)) (blkOk_by (N := ["row", "told", "a"]) (sc := (defScope s_law_least)) (by decide +kernel)) (fun _ _ _ _ _ => (pg_name (i := 2) sc_law_least.nd rfl (Or.inl rfl) (Or.inr rfl))) (fun _ _ _ _ _ => (pts_one (pt_cmp (pc_notN (pv 2))))) (fun _ _ _ _ _ => (pv 2))) (pss_cons (ps_ret (pe_ifExp (pt_cmpR op_gt (pe_callB (cr_lenK K) (by rfl) md.len (by decide +kernel) (pa_cons (pv 1) pa_nil)) pe_int (by rfl)) (pe_callB (cr_minK K) (by rfl) md.min (by decide +kernel) (pa_cons (pv 1) pa_nil)) pe_non)) pss_nil)), ?_⟩
  exact Nz.fnP (n := 2) Nz.prm_1 rfl (fun a => (Nz.bj_asg (Nz.ev_l (Nz.el_lc (Nz.ir_iv (Nz.iv_list (Nz.ev_var rfl))) Nz.gt_name (by decide) (fun y1 => (Nz.et_B (Nz.ev_notN (Nz.ev_var rfl)))) (fun y1 => (Nz.ev_get (Nz.ev_var rfl))))) (fun told_4 => (Nz.bj_ret (Nz.ev_if (Nz.et_T (Nz.ev_B0 (g := fun i j => decide (j < i)) (Nz.ev_lenS (Nz.rs_l (Nz.rl_ev (Nz.ev_var rfl)))) (Nz.ev_int (i := 0)))) (Nz.ev_some Nz.nn_int (Nz.ev_min (Nz.rl_ev (Nz.ev_var rfl)))) (Nz.ev_none (r := rInt))))))) (fun a k => Eq.mp (by kernel_rfl)) h
abbrev s_law_closed : Stmt := topS 22
theorem sc_law_closed : FnScope ["net", "many", "bounds", "found", "j", "i", "a", "b", "most", "k", "row"] ["net"] (defScope s_law_closed) := ⟨rfl, rfl, rfl, by decide +kernel, rfl, by decide +kernel, by decide +kernel⟩
def m_law_closed (a : (Int × (List (Int × Int × Int)))) : Pg (List (List (Option Int))) := Pg.outG ((pure a : Pg (Int × (List (Int × Int × Int)))) >>= fun u_1 => (Pg.ask (-100000 ≤ u_1.1 ∧ u_1.1 ≤ 100000) >>= fun _ => (Pg.comp (rg u_1.1) (fun y2 => pure true) (fun y2 => (Pg.ask (-100000 ≤ u_1.1 ∧ u_1.1 ≤ 100000) >>= fun _ => (Pg.comp (rg u_1.1) (fun y3 => pure true) (fun y3 => ((Pg.ifG (pure ((decide (y2 = y3)))) (pure ((some (0 : Int)))) (pure ((none : (Option Int)))) : Pg (Option Int)) >>= fun c4 => (pure (c4)))) >>= fun l5 => (pure (l5))))) >>= fun c7 => (((Pg.forc u_1.2 c7 (fun y10 s9 => (Pg.opt (atI s9 y10.1) >>= fun row12 => (Pg.opt (atI row12 y10.2.1) >>= fun e13 => (Pg.ask (([e13, (some y10.2.2)] : (List (Option Int))).length ≤ big) >>= fun _ => (m_law_least ([e13, (some y10.2.2)] : (List (Option Int))) >>= fun r11 => (Pg.opt (atI s9 y10.1) >>= fun row14 => (Pg.opt (ixN (s9).length y10.1) >>= fun i15 => (Pg.opt (ixN (row14).length y10.2.1) >>= fun i16 => ((pure ((s9).set i15 ((row14).set i16 r11)) : Pg (List (List (Option Int)))) >>= fun c17 => (pure (Ctl.nx c17))))))))))) : Pg (Ctl (List (List (Option Int))) Empty (List (List (Option Int))))) >>= Pg.seqG (fun s9 => (pure (Ctl.nx s9)))) >>= Pg.seqEG (fun c18 => (Pg.ask (-100000 ≤ u_1.1 ∧ u_1.1 ≤ 100000) >>= fun _ => ((Pg.forc (rg u_1.1) c18 (fun y20 s19 => (Pg.ask (-100000 ≤ u_1.1 ∧ u_1.1 ≤ 100000) >>= fun _ => (Pg.comp (rg u_1.1) (fun y21 => pure true) (fun y21 => (Pg.ask (-100000 ≤ u_1.1 ∧ u_1.1 ≤ 100000) >>= fun _ => (Pg.comp (rg u_1.1) (fun y22 => pure true) (fun y22 => (Pg.opt (atI s19 y21) >>= fun e24 => (Pg.opt (atI e24 y22) >>= fun e25 => (Pg.opt (atI s19 y21) >>= fun e27 => (Pg.opt (atI e27 y20) >>= fun e28 => (Pg.opt (atI s19 y20) >>= fun e29 => (Pg.opt (atI e29 y22) >>= fun e30 => (m_law_sum (e28, e30) >>= fun r26 => (Pg.ask (([e25, r26] : (List (Option Int))).length ≤ big) >>= fun _ => (m_law_least ([e25, r26] : (List (Option Int))) >>= fun r23 => (pure (r23)))))))))))) >>= fun l31 => (pure (l31))))) >>= fun l32 => ((pure l32 : Pg (List (List (Option Int)))) >>= fun found_33 => (pure (Ctl.nx found_33)))))) : Pg (Ctl (List (List (Option Int))) Empty (List (List (Option Int))))) >>= Pg.seqG (fun s19 => (Pg.comp s19 (fun y34 => pure true) (fun y34 => (pure (y34))) >>= fun l35 => (pure (Ctl.rt l35)))))))))))
set_option maxHeartbeats 4000000 in
theorem cal_law_closed (D : Nz.DefK K mg "_law_closed" s_law_closed ["net"]) (md : Md mg) (c__law_least : Nz.Cal P w K mg base 1 "_law_least" (Nz.spP (K := K) (f1 (rLst (rOpt rInt))) (rOpt rInt) (fun a => (m_law_least a).wp)) []) (c__law_sum : Nz.Cal P w K mg base 1 "_law_sum" (Nz.spP (K := K) (fc (rOpt rInt) (f1 (rOpt rInt))) (rOpt rInt) (fun a => (m_law_sum a).wp)) []) : Nz.Cal P w K mg base 2 "_law_closed" (Nz.spP (K := K) (f1 (rPr (fc rInt (f1 (rTup (rPr (fc rInt (fc rInt (f1 rInt))))))))) (rTup (rTup (rOpt rInt))) (fun a => (m_law_closed a).wp)) [] := by
  refine D.cal fun f fd F => F.ok sc_law_closed (fun vs H Q E h => Nz.spP_len h) (fun cdv A outer s H vs Q E hr h => ?_)
  refine ⟨_, (pss_cons (ps_asg (pv 0) (Nz.pg_tupK K 2 rfl (pgs_cons (pg_name (i := 1) sc_law_closed.nd rfl (Or.inr rfl) (Or.inl rfl)) (pgs_cons (pg_name (i := 2) sc_law_closed.nd rfl (Or.inl rfl) (Or.inr rfl)) pgs_nil)))) (pss_cons (ps_set (i := 3) sc_law_closed.nd rfl (Or.inr rfl) (pe_lc (own := [("i", 5)]) rfl sc_law_closed.nd (pi_range1 (by rfl) md.range (pa_cons (pv 1) pa_nil)) (blkOk_by (N := ["net", "many", "bounds", "found", "j", "i", "a", "b", "most", "k", "row"]) (sc := (defScope s_law_closed)) (by decide +kernel)) (fun _ _ _ _ _ => (pg_name (i := 5) sc_law_closed.nd rfl (Or.inr rfl) (Or.inl rfl))) (fun _ _ _ _ _ => pts_nil) (fun _ _ _ _ _ => (pe_lc (own := [("j", 4)]) rfl sc_law_closed.nd (pi_range1 (by rfl) md.range (pa_cons (pv 1) pa_nil)) (blkOk_by (N := ["net", "many", "bounds", "found", "j", "i", "a", "b", "most", "k", "row"]) (sc := ⟨.function, [(Str.ofString ".0", NameKind.local), (Str.ofString "i", NameKind.cell), (Str.ofString "range", NameKind.globalImplicit), (Str.ofString "many", NameKind.cell)], false, false, []⟩) (by decide +kernel)) (fun _ _ _ _ _ => (pg_name (i := 4) sc_law_closed.nd rfl (Or.inl rfl) (Or.inr rfl))) (fun _ _ _ _ _ => pts_nil) (fun _ _ _ _ _ => (pe_ifExp (pt_cmpR op_eq (pv 5) (pv 4) (by rfl)) pe_int pe_non)))))) (pss_cons (ps_for PassesOwn.never rfl (pi_tK K (pv 2)) (Nz.pg_tupK K 3 rfl (pgs_cons (pg_name (i := 6) sc_law_closed.nd rfl (Or.inl rfl) (Or.inr rfl)) (pgs_cons (pg_name (i := 7) sc_law_closed.nd rfl (Or.inl rfl) (Or.inr rfl)) (pgs_cons (pg_name (i := 8) sc_law_closed.nd rfl (Or.inl rfl) (Or.inr rfl)) pgs_nil)))) (pss_cons (ps_asg (Nz.pe_c c__law_least hr (by decide) (by rfl) (pa_cons (pe_lst (pa_cons (pe_ix (ix_lK K) (pe_ix (ix_lK K) (pv 3) (pv 6) (fun _ _ => rfl)) (pv 7) (fun _ _ => rfl)) (pa_cons (pv 8) pa_nil))) pa_nil)) (pg_sub (pe_ix (ix_lK K) (pv 3) (pv 6) (fun _ _ => rfl)) (pv 7) set_list)) pss_nil)) (pss_cons (ps_for PassesOwn.never rfl (pi_range1 (by rfl) md.range (pa_cons (pv 1) pa_nil)) (pg_name (i := 9) sc_law_closed.nd rfl (Or.inr rfl) (Or.inl rfl)) (pss_cons (ps_set (i := 3) sc_law_closed.nd rfl (Or.inr rfl) (pe_lc (own := [("i", 5)]) rfl sc_law_closed.nd (pi_range1 (by rfl) md.range (pa_cons (pv 1) pa_nil)) (blkOk_by (N := ["net", "many", "bounds", "found", "j", "i", "a", "b", "most", "k", "row"]) (sc := (defScope s_law_closed)) (by decide +kernel)) (fun _ _ _ _ _ => (pg_name (i := 5) sc_law_closed.nd rfl (Or.inr rfl) (Or.inl rfl))) (fun _ _ _ _ _ => pts_nil) (fun _ _ _ _ _ => (pe_lc (own := [("j", 4)]) rfl sc_law_closed.nd (pi_range1 (by rfl) md.range (pa_cons (pv 1) pa_nil)) (blkOk_by (N := ["net", "many", "bounds", "found", "j", "i", "a", "b", "most", "k", "row"]) (sc := ⟨.function, [(Str.ofString ".0", NameKind.local), (Str.ofString "i", NameKind.cell), (Str.ofString "range", NameKind.globalImplicit), (Str.ofString "found", NameKind.cell), (Str.ofString "k", NameKind.cell), (Str.ofString "many", NameKind.cell)], false, false, []⟩) (by decide +kernel)) (fun _ _ _ _ _ => (pg_name (i := 4) sc_law_closed.nd rfl (Or.inl rfl) (Or.inr rfl))) (fun _ _ _ _ _ => pts_nil) (fun _ _ _ _ _ => (Nz.pe_c c__law_least hr (by decide) (by rfl) (pa_cons (pe_lst (pa_cons (pe_ix (ix_lK K) (pe_ix (ix_lK K) (pv 3) (pv 5) (fun _ _ => rfl)) (pv 4) (fun _ _ => rfl)) (pa_cons (Nz.pe_c c__law_sum hr (by decide) (by rfl) (pa_cons (pe_ix (ix_lK K) (pe_ix (ix_lK K) (pv 3) (pv 5) (fun _ _ => rfl)) (pv 9) (fun _ _ => rfl)) (pa_cons (pe_ix (ix_lK K) (pe_ix (ix_lK K) (pv 3) (pv 9) (fun _ _ => rfl)) (pv 4) (fun _ _ => rfl)) pa_nil))) pa_nil))) pa_nil))))))) pss_nil)) (pss_cons (ps_ret (pe_callTy (cr_tupK K) (by rfl) md.tuple (by decide +kernel) (pa_cons (pe_lc (own := [("row", 10)]) rfl sc_law_closed.nd (pi_lK K (pv 3)) (blkOk_by (N := ["net", "many", "bounds", "found", "j", "i", "a", "b", "most", "k", "row"]) (sc := (defScope s_law_closed)) (by decide +kernel)) (fun _ _ _ _ _ => (pg_name (i := 10) sc_law_closed.nd rfl (Or.inl rfl) (Or.inr rfl))) (fun _ _ _ _ _ => pts_nil) (fun _ _ _ _ _ => (pe_callTy (cr_tupK K) (by rfl) md.tuple (by decide +kernel) (pa_cons (pv 10) pa_nil)))) pa_nil))) pss_nil))))), ?_⟩
  exact Nz.fnP (n := 10) Nz.prm_1 rfl (fun a => (Nz.bj_asgG (Nz.ev_var rfl) (Nz.gt_tup rfl (Nz.gts_cons Nz.gt_name (fun _ => (Nz.gts_nil Nz.gt_name)))) (by decide) (fun u_1 => (Nz.bj_mat1 (i := 3) (sl0 := [(slV (rPr (fc rInt (f1 (rTup (rPr (fc rInt (fc rInt (f1 rInt)))))))) a), (slV rInt u_1.1), (slV (rTup (rPr (fc rInt (fc rInt (f1 rInt))))) u_1.2), slAny, slAny, slAny, slAny, slAny, slAny, slAny, slAny]) (oM := []) (Nz.flat_opt Nz.flat_int) (Nz.el_lcM (Nz.flat_opt Nz.flat_int) (Nz.ir_iv (Nz.iv_rng1 (Nz.ev_var rfl))) Nz.gt_name (by decide) (fun y2 => (Nz.el_lc (Nz.ir_iv (Nz.iv_rng1 (Nz.ev_var rfl))) Nz.gt_name (by decide) (fun y3 => Nz.et_yes) (fun y3 => (Nz.ev_if (Nz.et_T (Nz.ev_eqI (Nz.ev_var rfl) (Nz.ev_var rfl))) (Nz.ev_some Nz.nn_int (Nz.ev_int (i := 0))) (Nz.ev_none (r := rInt))))))) (of_decide_eq_true rfl) (of_decide_eq_true rfl) (fun qs8 c7 => (Nz.vj_for (ES := (fun (s9 : (List (List (Option Int)))) => Nz.effM _ (rOpt rInt) (Nz.flat_opt Nz.flat_int) qs8 s9)) (fS := (fun (s9 : (List (List (Option Int)))) => [(slV (rPr (fc rInt (f1 (rTup (rPr (fc rInt (fc rInt (f1 rInt)))))))) a), (slV rInt u_1.1), (slV (rTup (rPr (fc rInt (fc rInt (f1 rInt))))) u_1.2), (slV (rLst Nz.rRef) qs8), slAny, slAny, slAny, slAny, slAny, slAny, slAny])) (oS := []) (s0 := c7) (Nz.iv_tup (Nz.ev_var rfl)) rfl (Nz.wk_k rfl (Nz.wk_k rfl (Nz.wk_k rfl (Nz.wk_k rfl (Nz.wk_a (Nz.wk_a (Nz.wk_a (Nz.wk_a (Nz.wk_a (Nz.wk_a (Nz.wk_a Nz.Wks.nil))))))))))) (by decide) (fun s9 => (Nz.gt_tup rfl (Nz.gts_cons Nz.gt_name (fun _ => (Nz.gts_cons Nz.gt_name (fun _ => (Nz.gts_nil Nz.gt_name))))))) (by decide) (fun s9 y10 => (Nz.vj_put rfl (Nz.ev_call (Nz.ea_1 (Nz.ev_l (Nz.el_lst (r := (rOpt rInt)) (Nz.as_c (Nz.ev_mat rfl (Nz.ev_var rfl) (Nz.ev_var rfl)) (Nz.as_c (Nz.ev_some Nz.nn_int (Nz.ev_var rfl)) Nz.as_nil)))))) (Nz.ev_var rfl) (Nz.ev_var rfl) (fun c17 => (Nz.vj_nx (s := c17) rfl (Nz.wk_k rfl (Nz.wk_k rfl (Nz.wk_k rfl (Nz.wk_k rfl (Nz.wk_a (Nz.wk_a (Nz.wk_a (Nz.wk_a (Nz.wk_a (Nz.wk_a (Nz.wk_a Nz.Wks.nil))))))))))) (by decide))))) (fun s9 => (Nz.vj_nx (s := s9) rfl (Nz.wk_k rfl (Nz.wk_k rfl (Nz.wk_k rfl (Nz.wk_k rfl (Nz.wk_a (Nz.wk_a (Nz.wk_a (Nz.wk_a (Nz.wk_a (Nz.wk_a (Nz.wk_a Nz.Wks.nil))))))))))) (by decide))))) (fun c18 => (Nz.bj_for (fS := (fun (s19 : (List (List (Option Int)))) => [(slV (rPr (fc rInt (f1 (rTup (rPr (fc rInt (fc rInt (f1 rInt)))))))) a), (slV rInt u_1.1), (slV (rTup (rPr (fc rInt (fc rInt (f1 rInt))))) u_1.2), (slV (rLst (rLst (rOpt rInt))) s19), slAny, slAny, slAny, slAny, slAny, slAny, slAny])) (oS := []) (s0 := c18) (Nz.iv_rng1 (Nz.ev_var rfl)) (Nz.wk_k rfl (Nz.wk_k rfl (Nz.wk_k rfl (Nz.wk_k rfl (Nz.wk_a (Nz.wk_a (Nz.wk_a (Nz.wk_a (Nz.wk_a (Nz.wk_a (Nz.wk_a Nz.Wks.nil))))))))))) (by decide) (fun s19 => Nz.gt_name) (by decide) (fun s19 y20 => (Nz.bj_asg (Nz.ev_l (Nz.el_lc (Nz.ir_iv (Nz.iv_rng1 (Nz.ev_var rfl))) Nz.gt_name (by decide) (fun y21 => Nz.et_yes) (fun y21 => (Nz.ev_l (Nz.el_lc (Nz.ir_iv (Nz.iv_rng1 (Nz.ev_var rfl))) Nz.gt_name (by decide) (fun y22 => Nz.et_yes) (fun y22 => (Nz.ev_call (Nz.ea_1 (Nz.ev_l (Nz.el_lst (r := (rOpt rInt)) (Nz.as_c (Nz.ev_ixL (Nz.rl_ev (Nz.ev_ixL (Nz.rl_ev (Nz.ev_var rfl)) (Nz.ev_var rfl))) (Nz.ev_var rfl)) (Nz.as_c (Nz.ev_call (Nz.ea_c (Nz.ev_ixL (Nz.rl_ev (Nz.ev_ixL (Nz.rl_ev (Nz.ev_var rfl)) (Nz.ev_var rfl))) (Nz.ev_var rfl)) (Nz.ea_1 (Nz.ev_ixL (Nz.rl_ev (Nz.ev_ixL (Nz.rl_ev (Nz.ev_var rfl)) (Nz.ev_var rfl))) (Nz.ev_var rfl))))) Nz.as_nil)))))))))))) (fun found_33 => (Nz.bj_nx (s := found_33) (Nz.wk_k rfl (Nz.wk_k rfl (Nz.wk_k rfl (Nz.wk_k rfl (Nz.wk_a (Nz.wk_a (Nz.wk_a (Nz.wk_a (Nz.wk_a (Nz.wk_a (Nz.wk_a Nz.Wks.nil))))))))))) (by decide))))) (fun s19 => (Nz.bj_ret (Nz.ev_tupL (Nz.rl_l (Nz.el_lc (Nz.ir_iv (Nz.iv_list (Nz.ev_var rfl))) Nz.gt_name (by decide) (fun y34 => Nz.et_yes) (fun y34 => (Nz.ev_tupL (Nz.rl_ev (Nz.ev_var rfl))))))))))))))) (fun a k => Eq.mp (by kernel_rfl)) h
abbrev s_law_turns_right : Stmt := topS 23
theorem sc_law_turns_right : FnScope ["tape", "net", "many", "bounds", "is_fit", "told", "back", "a", "b", "most", "left", "names", "k", "other", "by", "great", "row", "count", "j", "i", "bent", "more", "times", "time"] ["tape", "net"] (defScope s_law_turns_right) := ⟨rfl, rfl, rfl, by decide +kernel, rfl, by decide +kernel, by decide +kernel⟩
def m_law_turns_right (a : (Int × (List (Int × Int × Int)))) : Pg Bool := Pg.outG ((pure a : Pg (Int × (List (Int × Int × Int)))) >>= fun u_1 => (m_fits a >>= fun r2 => ((pure r2 : Pg Bool) >>= fun is_fit_3 => (m_closed_net a >>= fun r4 => ((pure r4 : Pg (List (List (Option Int)))) >>= fun told_5 => (Pg.comp (u_1.2).reverse (fun y6 => pure true) (fun y6 => (pure ((y6.2.1, y6.1, y6.2.2)))) >>= fun l7 => ((pure (u_1.1, l7) : Pg (Int × (List (Int × Int × Int)))) >>= fun back_8 => (Pg.ask (-100000 ≤ u_1.1 ∧ u_1.1 ≤ 100000) >>= fun _ => ((pure (rg u_1.1) : Pg (List Int)) >>= fun left_9 => ((pure ([] : (List Int)) : Pg (List Int)) >>= fun names_10 => (Pg.ask (-100000 ≤ u_1.1 ∧ u_1.1 ≤ 100000) >>= fun _ => ((Pg.forc (rg u_1.1) (left_9, names_10) (fun y12 s11 => (m_law_take ((s11.1).length : Int) >>= fun r14 => (Pg.ask (0 ≤ r14 ∧ r14 ≤ 100000 ∧ (s11.2).length < big) >>= fun _ => (Pg.opt (s11.1)[(r14).toNat]? >>= fun a17 => ((pure (s11.2 ++ [a17]) : Pg (List Int)) >>= fun names_15 => ((pure ((s11.1).eraseIdx (r14).toNat) : Pg (List Int)) >>= fun left_16 => (pure (Ctl.nx (left_16, names_15))))))))) : Pg (Ctl Bool Empty ((List Int) × (List Int)))) >>= Pg.seqG (fun s11 => (Pg.comp u_1.2 (fun y18 => pure true) (fun y18 => (Pg.opt (atI s11.2 y18.1) >>= fun e19 => (Pg.opt (atI s11.2 y18.2.1) >>= fun e20 => (pure ((e19, e20, y18.2.2)))))) >>= fun l21 => ((pure (u_1.1, l21) : Pg (Int × (List (Int × Int × Int)))) >>= fun other_22 => (m_law_take (5 : Int) >>= fun r23 => ((pure ((1 : Int) + r23) : Pg Int) >>= fun by_24 => (Pg.ask ((u_1.2 ++ u_1.2).length ≤ big) >>= fun _ => (Pg.comp (u_1.2 ++ u_1.2) (fun y25 => pure true) (fun y25 => (Pg.ask (CMul by_24 y25.2.2) >>= fun _ => (pure ((y25.1, y25.2.1, (by_24 * y25.2.2)))))) >>= fun l26 => ((pure (u_1.1, l26) : Pg (Int × (List (Int × Int × Int)))) >>= fun great_27 => (Pg.orG (m_fits back_8 >>= fun r28 => (pure ((!decide (r28 = is_fit_3))))) (Pg.orG (m_fits other_22 >>= fun r29 => (pure ((!decide (r29 = is_fit_3))))) (m_fits great_27 >>= fun r30 => (pure ((!decide (r30 = is_fit_3)))))) >>= fun b31 => (Pg.ifG (pure (b31)) (pure (Ctl.rt false)) (Pg.ifG (pure ((!is_fit_3))) (m_bad_circle a >>= fun r32 => ((pure r32 : Pg (Option (List Int))) >>= fun row_33 => (Pg.orG (Pg.opt row_33 >>= fun o35 => (m_takes_circle (a, o35) >>= fun r34 => (pure ((!decide (r34 = true)))))) (Pg.orG (Pg.opt row_33 >>= fun o37 => (m_takes_circle (great_27, o37) >>= fun r36 => (pure ((!decide (r36 = true)))))) (Pg.opt row_33 >>= fun o39 => (m_takes_circle (other_22, o39) >>= fun r38 => (pure ((!decide (r38 = true))))))) >>= fun b40 => (Pg.ifG (pure (b40)) (pure (Ctl.rt false)) ((pure ((u_1.2).length : Int) : Pg Int) >>= fun count_41 => (Pg.orG (Pg.opt row_33 >>= fun o43 => (Pg.comp (o43).reverse (fun y44 => pure true) (fun y44 => (pure (((count_41 - (1 : Int)) - y44)))) >>= fun l45 => (m_takes_circle (back_8, l45) >>= fun r42 => (pure ((!decide (r42 = true))))))) (m_earliest a >>= fun r46 => (pure ((r46).isSome))) >>= fun b47 => (Pg.ifG (pure (b47)) (pure (Ctl.rt false)) (Pg.andG (Pg.opt row_33 >>= fun o50 => (Pg.opt row_33 >>= fun o51 => (Pg.ask (((cut o50 (some (1 : Int)) none) ++ (cut o51 none (some (1 : Int)))).length ≤ big) >>= fun _ => (m_takes_circle (a, ((cut o50 (some (1 : Int)) none) ++ (cut o51 none (some (1 : Int))))) >>= fun r48 => (pure ((decide (r48 = true)))))))) (m_earliest great_27 >>= fun r52 => (pure ((r52).isNone))) >>= fun b53 => (pure (Ctl.rt b53))) : Pg (Ctl Bool Empty Unit)))) : Pg (Ctl Bool Empty Unit))))) (Pg.orG (m_law_closed a >>= fun r54 => (pure ((!decide (told_5 = r54))))) (m_bad_circle a >>= fun r55 => (pure ((r55).isSome))) >>= fun b56 => (Pg.ifG (pure (b56)) (pure (Ctl.rt false)) (m_closed_net back_8 >>= fun r57 => (Pg.ask (-100000 ≤ u_1.1 ∧ u_1.1 ≤ 100000) >>= fun _ => (Pg.comp (rg u_1.1) (fun y58 => pure true) (fun y58 => (Pg.ask (-100000 ≤ u_1.1 ∧ u_1.1 ≤ 100000) >>= fun _ => (Pg.comp (rg u_1.1) (fun y59 => pure true) (fun y59 => (Pg.opt (atI told_5 y59) >>= fun e60 => (Pg.opt (atI e60 y58) >>= fun e61 => (pure (e61))))) >>= fun l62 => (pure (l62))))) >>= fun l63 => (Pg.ifG (pure ((!decide (r57 = l63)))) (pure (Ctl.rt false)) (m_closed_net other_22 >>= fun r64 => ((pure r64 : Pg (List (List (Option Int)))) >>= fun bent_65 => (m_closed_net great_27 >>= fun r66 => ((pure r66 : Pg (List (List (Option Int)))) >>= fun more_67 => (Pg.ask (-100000 ≤ u_1.1 ∧ u_1.1 ≤ 100000) >>= fun _ => ((Pg.forc (rg u_1.1) () (fun y69 s68 => (Pg.ask (-100000 ≤ u_1.1 ∧ u_1.1 ≤ 100000) >>= fun _ => ((Pg.forc (rg u_1.1) () (fun y71 s70 => (Pg.orG (Pg.opt (atI s11.2 y69) >>= fun e72 => (Pg.opt (atI bent_65 e72) >>= fun e73 => (Pg.opt (atI s11.2 y71) >>= fun e74 => (Pg.opt (atI e73 e74) >>= fun e75 => (Pg.opt (atI told_5 y69) >>= fun e76 => (Pg.opt (atI e76 y71) >>= fun e77 => (pure ((!decide (e75 = e77)))))))))) (Pg.opt (atI more_67 y69) >>= fun e78 => (Pg.opt (atI e78 y71) >>= fun e79 => ((Pg.ifG (Pg.opt (atI told_5 y69) >>= fun e80 => (Pg.opt (atI e80 y71) >>= fun e81 => (pure ((e81).isNone)))) (pure ((none : (Option Int)))) (Pg.opt (atI told_5 y69) >>= fun e82 => (Pg.opt (atI e82 y71) >>= fun e83 => (Pg.opt e83 >>= fun o84 => (Pg.ask (CMul by_24 o84) >>= fun _ => (pure ((some (by_24 * o84)))))))) : Pg (Option Int)) >>= fun c85 => (pure ((!decide (e79 = c85))))))) >>= fun b86 => (Pg.ifG (pure (b86)) (pure (Ctl.rt false)) (m_range_of (a, y69, y71) >>= fun r87 => ((Pg.ifG (Pg.opt (atI told_5 y69) >>= fun e96 => (Pg.opt (atI e96 y71) >>= fun e97 => (pure ((e97).isNone)))) (pure ((none : (Option Int)))) (Pg.opt (atI told_5 y69) >>= fun e98 => (Pg.opt (atI e98 y71) >>= fun e99 => (Pg.opt e99 >>= fun o100 => (pure ((some ((0 : Int) - o100))))))) : Pg (Option Int)) >>= fun c101 => (Pg.opt (atI told_5 y71) >>= fun e102 => (Pg.opt (atI e102 y69) >>= fun e103 => (Pg.ifG (pure ((!decide (r87 = (c101, e103))))) (pure (Ctl.rt false)) (pure (Ctl.nx ())) : Pg (Ctl Bool Unit Unit)))))) : Pg (Ctl Bool Unit Unit)))) : Pg (Ctl Bool Unit Unit)) >>= Pg.seqG (fun s70 => (pure (Ctl.nx ())))))) : Pg (Ctl Bool Empty Unit)) >>= Pg.seqG (fun s68 => (m_earliest a >>= fun r104 => ((pure r104 : Pg (Option (List Int))) >>= fun times_105 => (Pg.orG (m_earliest great_27 >>= fun r106 => (Pg.opt times_105 >>= fun o110 => (Pg.comp o110 (fun y111 => pure true) (fun y111 => (Pg.ask (CMul by_24 y111) >>= fun _ => (pure ((by_24 * y111))))) >>= fun l112 => (pure ((!decide (r106 = (some l112)))))))) (m_earliest other_22 >>= fun r113 => (Pg.ask (-100000 ≤ u_1.1 ∧ u_1.1 ≤ 100000) >>= fun _ => (Pg.comp (rg u_1.1) (fun y119 => pure true) (fun y119 => (Pg.opt times_105 >>= fun o120 => (Pg.opt ((s11.2).findIdx? (fun x => decide (x = y119))) >>= fun j121 => (Pg.opt (atI o120 ((j121 : Nat) : Int)) >>= fun e122 => (pure (e122)))))) >>= fun l123 => (pure ((!decide (r113 = (some l123)))))))) >>= fun b124 => (Pg.ifG (pure (b124)) (pure (Ctl.rt false)) (Pg.andG (Pg.opt times_105 >>= fun o126 => (m_keeps (a, o126) >>= fun r125 => (pure ((decide (r125 = true)))))) (Pg.andG (Pg.opt times_105 >>= fun o127 => (Pg.ask (o127 ≠ []) >>= fun _ => (pure ((decide ((0 : Int) ≤ (minL o127))))))) (Pg.opt times_105 >>= fun o129 => (Pg.comp o129 (fun y130 => pure true) (fun y130 => (pure (((0 : Int) - y130)))) >>= fun l131 => (m_keeps (back_8, l131) >>= fun r128 => (pure ((decide (r128 = true)))))))) >>= fun b132 => (pure (Ctl.rt b132))) : Pg (Ctl Bool Empty Unit)))))))))))) : Pg (Ctl Bool Empty Unit))))) : Pg (Ctl Bool Empty Unit))) : Pg (Ctl Bool Empty Unit)) : Pg (Ctl Bool Empty Unit)))))))))))))))))))))))
set_option maxHeartbeats 4000000 in
theorem cal_law_turns_right (D : Nz.DefK K mg "_law_turns_right" s_law_turns_right ["tape", "net"]) (md : Md mg) (c__law_closed : Nz.Cal P w K mg base 2 "_law_closed" (Nz.spP (K := K) (f1 (rPr (fc rInt (f1 (rTup (rPr (fc rInt (fc rInt (f1 rInt))))))))) (rTup (rTup (rOpt rInt))) (fun a => (m_law_closed a).wp)) []) (c__law_take : Nz.Cal P w K mg base 1 "_law_take" (Nz.spTX (K := K) effT (f1 rInt) rInt (fun a => (m_law_take a).wp)) []) (c_bad_circle : Nz.Cal P w K mg base 4 "bad_circle" (Nz.spP (K := K) (f1 (rPr (fc rInt (f1 (rTup (rPr (fc rInt (fc rInt (f1 rInt))))))))) (rOpt (rTup rInt)) (fun a => (m_bad_circle a).wp)) []) (c_closed_net : Nz.Cal P w K mg base 2 "closed_net" (Nz.spP (K := K) (f1 (rPr (fc rInt (f1 (rTup (rPr (fc rInt (fc rInt (f1 rInt))))))))) (rTup (rTup (rOpt rInt))) (fun a => (m_closed_net a).wp)) []) (c_earliest : Nz.Cal P w K mg base 3 "earliest" (Nz.spP (K := K) (f1 (rPr (fc rInt (f1 (rTup (rPr (fc rInt (fc rInt (f1 rInt))))))))) (rOpt (rTup rInt)) (fun a => (m_earliest a).wp)) []) (c_fits : Nz.Cal P w K mg base 3 "fits" (Nz.spP (K := K) (f1 (rPr (fc rInt (f1 (rTup (rPr (fc rInt (fc rInt (f1 rInt))))))))) rBl (fun a => (m_fits a).wp)) []) (c_keeps : Nz.Cal P w K mg base 2 "keeps" (Nz.spP (K := K) (fc (rPr (fc rInt (f1 (rTup (rPr (fc rInt (fc rInt (f1 rInt)))))))) (f1 (rTup rInt))) rBl (fun a => (m_keeps a).wp)) []) (c_range_of : Nz.Cal P w K mg base 4 "range_of" (Nz.spP (K := K) (fc (rPr (fc rInt (f1 (rTup (rPr (fc rInt (fc rInt (f1 rInt)))))))) (fc rInt (f1 rInt))) (rPr (fc (rOpt rInt) (f1 (rOpt rInt)))) (fun a => (m_range_of a).wp)) []) (c_takes_circle : Nz.Cal P w K mg base 2 "takes_circle" (Nz.spP (K := K) (fc (rPr (fc rInt (f1 (rTup (rPr (fc rInt (fc rInt (f1 rInt)))))))) (f1 (rTup rInt))) rBl (fun a => (m_takes_circle a).wp)) []) : Nz.Cal P w K mg base 5 "_law_turns_right" (Nz.spTX (K := K) effT (f1 (rPr (fc rInt (f1 (rTup (rPr (fc rInt (fc rInt (f1 rInt))))))))) rBl (fun a => (m_law_turns_right a).wp)) [] := by
  refine D.cal fun f fd F => F.ok sc_law_turns_right (fun vs H Q E h => Nz.spTX_len h) (fun cdv A outer s H vs Q E hr h => ?_)
  refine ⟨_, (pss_cons (ps_asg (pv 1) (Nz.pg_tupK K 2 rfl (pgs_cons (pg_name (i := 2) sc_law_turns_right.nd rfl (Or.inr rfl) (Or.inl rfl)) (pgs_cons (pg_name (i := 3) sc_law_turns_right.nd rfl (Or.inl rfl) (Or.inr rfl)) pgs_nil)))) (pss_cons (ps_asg (pe_tup (pa_cons (Nz.pe_c c_fits hr (by decide) (by rfl) (pa_cons (pv 1) pa_nil)) (pa_cons (Nz.pe_c c_closed_net hr (by decide) (by rfl) (pa_cons (pv 1) pa_nil)) pa_nil))) (Nz.pg_tupK K 2 rfl (pgs_cons (pg_name (i := 4) sc_law_turns_right.nd rfl (Or.inl rfl) (Or.inr rfl)) (pgs_cons (pg_name (i := 5) sc_law_turns_right.nd rfl (Or.inr rfl) (Or.inl rfl)) pgs_nil)))) (pss_cons (ps_set (i := 6) sc_law_turns_right.nd rfl (Or.inl rfl) (pe_tup (pa_cons (pv 2) (pa_cons (pe_callTy (cr_tupK K) (by rfl) md.tuple (by decide +kernel) (pa_cons (pe_lc (own := [("a", 7), ("b", 8), ("most", 9)]) rfl sc_law_turns_right.nd (pi_tK K (Nz.pe_revTK K (pv 3))) (blkOk_by (N := ["tape", "net", "many", "bounds", "is_fit", "told", "back", "a", "b", "most", "left", "names", "k", "other", "by", "great", "row", "count", "j", "i", "bent", "more", "times", "time"]) (sc := (defScope s_law_turns_right)) (by decide +kernel)) (fun _ _ _ _ _ => (Nz.pg_tupK K 3 rfl (pgs_cons (pg_name (i := 7) sc_law_turns_right.nd rfl (Or.inl rfl) (Or.inr rfl)) (pgs_cons (pg_name (i := 8) sc_law_turns_right.nd rfl (Or.inl rfl) (Or.inr rfl)) (pgs_cons (pg_name (i := 9) sc_law_turns_right.nd rfl (Or.inl rfl) (Or.inr rfl)) pgs_nil))))) (fun _ _ _ _ _ => pts_nil) (fun _ _ _ _ _ => (pe_tup (pa_cons (pv 8) (pa_cons (pv 7) (pa_cons (pv 9) pa_nil)))))) pa_nil)) pa_nil)))) (pss_cons (ps_asg (pe_tup (pa_cons (pe_listRg rfl (by rfl) md.list (prg_1 (by rfl) md.range (pv 2))) (pa_cons (pe_lst pa_nil) pa_nil))) (Nz.pg_tupK K 2 rfl (pgs_cons (pg_name (i := 10) sc_law_turns_right.nd rfl (Or.inl rfl) (Or.inr rfl)) (pgs_cons (pg_name (i := 11) sc_law_turns_right.nd rfl (Or.inr rfl) (Or.inl rfl)) pgs_nil)))) (pss_cons (ps_for PassesOwn.never rfl (pi_range1 (by rfl) md.range (pa_cons (pv 2) pa_nil)) (pg_name (i := 12) sc_law_turns_right.nd rfl (Or.inl rfl) (Or.inr rfl)) (pss_cons (ps_expr (pe_bm PySem.F.plainAttrs_list PySem.F.slot_list_append PySem.F.type_list_append mt_append (pv 11) (pa_cons (pe_bm PySem.F.plainAttrs_list PySem.F.slot_list_pop PySem.F.type_list_pop mt_popAt (pv 10) (pa_cons (Nz.pe_c c__law_take hr (by decide) (by rfl) (pa_cons (pv 0) (pa_cons (pe_callB (cr_lenK K) (by rfl) md.len (by decide +kernel) (pa_cons (pv 10) pa_nil)) pa_nil))) pa_nil)) pa_nil))) pss_nil)) (pss_cons (ps_set (i := 13) sc_law_turns_right.nd rfl (Or.inl rfl) (pe_tup (pa_cons (pv 2) (pa_cons (pe_callTy (cr_tupK K) (by rfl) md.tuple (by decide +kernel) (pa_cons (pe_lc (own := [("a", 7), ("b", 8), ("most", 9)]) rfl sc_law_turns_right.nd (pi_tK K (pv 3)) (blkOk_by (N := ["tape", "net", "many", "bounds", "is_fit", "told", "back", "a", "b", "most", "left", "names", "k", "other", "by", "great", "row", "count", "j", "i", "bent", "more", "times", "time"]) (sc := (defScope s_law_turns_right)) (by decide +kernel)) (fun _ _ _ _ _ => (Nz.pg_tupK K 3 rfl (pgs_cons (pg_name (i := 7) sc_law_turns_right.nd rfl (Or.inl rfl) (Or.inr rfl)) (pgs_cons (pg_name (i := 8) sc_law_turns_right.nd rfl (Or.inl rfl) (Or.inr rfl)) (pgs_cons (pg_name (i := 9) sc_law_turns_right.nd rfl (Or.inl rfl) (Or.inr rfl)) pgs_nil))))) (fun _ _ _ _ _ => pts_nil) (fun _ _ _ _ _ => (pe_tup (pa_cons (pe_ix (ix_lK K) (pv 11) (pv 7) (fun _ _ => rfl)) (pa_cons (pe_ix (ix_lK K) (pv 11) (pv 8) (fun _ _ => rfl)) (pa_cons (pv 9) pa_nil)))))) pa_nil)) pa_nil)))) (pss_cons (ps_set (i := 14) sc_law_turns_right.nd rfl (Or.inr rfl) (pe_op op_add pe_int (Nz.pe_c c__law_take hr (by decide) (by rfl) (pa_cons (pv 0) (pa_cons pe_int pa_nil))))) (pss_cons (ps_set (i := 15) sc_law_turns_right.nd rfl (Or.inl rfl) (pe_tup (pa_cons (pv 2) (pa_cons (pe_callTy (cr_tupK K) (by rfl) md.tuple (by decide +kernel) (pa_cons (pe_lc (own := [("a", 7), ("b", 8), ("most", 9)]) rfl sc_law_turns_right.nd (pi_tK K (pe_op (op_catK K) (pv 3) (pv 3))) (blkOk_by (N := ["tape", "net", "many", "bounds", "is_fit", "told", "back", "a", "b", "most", "left", "names", "k", "other", "by", "great", "row", "count", "j", "i", "bent", "more", "times", "time"]) (sc := (defScope s_law_turns_right)) (by decide +kernel)) (fun _ _ _ _ _ => (Nz.pg_tupK K 3 rfl (pgs_cons (pg_name (i := 7) sc_law_turns_right.nd rfl (Or.inl rfl) (Or.inr rfl)) (pgs_cons (pg_name (i := 8) sc_law_turns_right.nd rfl (Or.inl rfl) (Or.inr rfl)) (pgs_cons (pg_name (i := 9) sc_law_turns_right.nd rfl (Or.inl rfl) (Or.inr rfl)) pgs_nil))))) (fun _ _ _ _ _ => pts_nil) (fun _ _ _ _ _ => (pe_tup (pa_cons (pv 7) (pa_cons (pv 8) (pa_cons (pe_op op_mul (pv 14) (pv 9)) pa_nil)))))) pa_nil)) pa_nil)))) (pss_cons (ps_if (PW.pt (pw_or (pt_cmpR op_ne (Nz.pe_c c_fits hr (by decide) (by rfl) (pa_cons (pv 6) pa_nil)) (pv 4) (by rfl)) (pw_or (pt_cmpR op_ne (Nz.pe_c c_fits hr (by decide) (by rfl) (pa_cons (pv 13) pa_nil)) (pv 4) (by rfl)) (pw_or1 (pt_cmpR op_ne (Nz.pe_c c_fits hr (by decide) (by rfl) (pa_cons (pv 15) pa_nil)) (pv 4) (by rfl)))))) (pss_cons (ps_ret pe_bl) pss_nil) pss_nil) (pss_cons (ps_if (pt_not (pt_val (pv 4))) (pss_cons (ps_set (i := 16) sc_law_turns_right.nd rfl (Or.inl rfl) (Nz.pe_c c_bad_circle hr (by decide) (by rfl) (pa_cons (pv 1) pa_nil))) (pss_cons (ps_if (PW.pt (pw_or (pt_cmpR op_notBl (Nz.pe_c c_takes_circle hr (by decide) (by rfl) (pa_cons (pv 1) (pa_cons (pv 16) pa_nil))) pe_bl (by rfl)) (pw_or (pt_cmpR op_notBl (Nz.pe_c c_takes_circle hr (by decide) (by rfl) (pa_cons (pv 15) (pa_cons (pv 16) pa_nil))) pe_bl (by rfl)) (pw_or1 (pt_cmpR op_notBl (Nz.pe_c c_takes_circle hr (by decide) (by rfl) (pa_cons (pv 13) (pa_cons (pv 16) pa_nil))) pe_bl (by rfl)))))) (pss_cons (ps_ret pe_bl) pss_nil) pss_nil) (pss_cons (ps_set (i := 17) sc_law_turns_right.nd rfl (Or.inr rfl) (pe_callB (cr_lenK K) (by rfl) md.len (by decide +kernel) (pa_cons (pv 3) pa_nil))) (pss_cons (ps_if (PW.pt (pw_or (pt_cmpR op_notBl (Nz.pe_c c_takes_circle hr (by decide) (by rfl) (pa_cons (pv 6) (pa_cons (pe_callTy (cr_tupK K) (by rfl) md.tuple (by decide +kernel) (pa_cons (pe_lc (own := [("k", 12)]) rfl sc_law_turns_right.nd (pi_tK K (Nz.pe_revTK K (pv 16))) (blkOk_by (N := ["tape", "net", "many", "bounds", "is_fit", "told", "back", "a", "b", "most", "left", "names", "k", "other", "by", "great", "row", "count", "j", "i", "bent", "more", "times", "time"]) (sc := (defScope s_law_turns_right)) (by decide +kernel)) (fun _ _ _ _ _ => (pg_name (i := 12) sc_law_turns_right.nd rfl (Or.inl rfl) (Or.inr rfl))) (fun _ _ _ _ _ => pts_nil) (fun _ _ _ _ _ => (pe_op op_sub (pe_op op_sub (pv 17) pe_int) (pv 12)))) pa_nil)) pa_nil))) pe_bl (by rfl)) (pw_or1 (pt_cmp (pc_notN (Nz.pe_c c_earliest hr (by decide) (by rfl) (pa_cons (pv 1) pa_nil))))))) (pss_cons (ps_ret pe_bl) pss_nil) pss_nil) (pss_cons (ps_ret (pe_and (pe_cmpR op_isBl (Nz.pe_c c_takes_circle hr (by decide) (by rfl) (pa_cons (pv 1) (pa_cons (pe_op (op_catK K) (pe_slice (sl_tK K) (pv 16) (po_some pe_int) po_none) (pe_slice (sl_tK K) (pv 16) po_none (po_some pe_int))) pa_nil))) pe_bl (by rfl)) (pe_one (pe_cmp (pc_isN (Nz.pe_c c_earliest hr (by decide) (by rfl) (pa_cons (pv 15) pa_nil))))))) pss_nil))))) pss_nil) (pss_cons (ps_if (PW.pt (pw_or (pt_cmpR (op_neK K hr.units) (pv 5) (Nz.pe_c c__law_closed hr (by decide) (by rfl) (pa_cons (pv 1) pa_nil)) (by rfl)) (pw_or1 (pt_cmp (pc_notN (Nz.pe_c c_bad_circle hr (by decide) (by rfl) (pa_cons (pv 1) pa_nil))))))) (pss_cons (ps_ret pe_bl) pss_nil) pss_nil) (pss_cons (ps_if (pt_cmpR (op_neK K hr.units) (Nz.pe_c c_closed_net hr (by decide) (by rfl) (pa_cons (pv 6) pa_nil)) (pe_callTy (cr_tupK K) (by rfl) md.tuple (by decide +kernel) (pa_cons (pe_lc (own := [("i", 19)]) rfl sc_law_turns_right.nd (pi_range1 (by rfl) md.range (pa_cons (pv 2) pa_nil)) (blkOk_by (N := ["tape", "net", "many", "bounds", "is_fit", "told", "back", "a", "b", "most", "left", "names", "k", "other", "by", "great", "row", "count", "j", "i", "bent", "more", "times", "time"]) (sc := (defScope s_law_turns_right)) (by decide +kernel)) (fun _ _ _ _ _ => (pg_name (i := 19) sc_law_turns_right.nd rfl (Or.inr rfl) (Or.inl rfl))) (fun _ _ _ _ _ => pts_nil) (fun _ _ _ _ _ => (pe_callTy (cr_tupK K) (by rfl) md.tuple (by decide +kernel) (pa_cons (pe_lc (own := [("j", 18)]) rfl sc_law_turns_right.nd (pi_range1 (by rfl) md.range (pa_cons (pv 2) pa_nil)) (blkOk_by (N := ["tape", "net", "many", "bounds", "is_fit", "told", "back", "a", "b", "most", "left", "names", "k", "other", "by", "great", "row", "count", "j", "i", "bent", "more", "times", "time"]) (sc := ⟨.function, [(Str.ofString ".0", NameKind.local), (Str.ofString "i", NameKind.cell), (Str.ofString "tuple", NameKind.globalImplicit), (Str.ofString "range", NameKind.globalImplicit), (Str.ofString "many", NameKind.cell), (Str.ofString "told", NameKind.cell)], false, false, []⟩) (by decide +kernel)) (fun _ _ _ _ _ => (pg_name (i := 18) sc_law_turns_right.nd rfl (Or.inl rfl) (Or.inr rfl))) (fun _ _ _ _ _ => pts_nil) (fun _ _ _ _ _ => (pe_ix (ix_tK K) (pe_ix (ix_tK K) (pv 5) (pv 18) (fun _ _ => rfl)) (pv 19) (fun _ _ => rfl)))) pa_nil)))) pa_nil)) (by rfl)) (pss_cons (ps_ret pe_bl) pss_nil) pss_nil) (pss_cons (ps_par (i := 20) (j := 21) rfl sc_law_turns_right.nd rfl rfl (by decide) rfl rfl (pa_cons (Nz.pe_c c_closed_net hr (by decide) (by rfl) (pa_cons (pv 13) pa_nil)) (pa_cons (Nz.pe_c c_closed_net hr (by decide) (by rfl) (pa_cons (pv 15) pa_nil)) pa_nil)) (by rfl)) (pss_cons (ps_for PassesOwn.never rfl (pi_range1 (by rfl) md.range (pa_cons (pv 2) pa_nil)) (pg_name (i := 19) sc_law_turns_right.nd rfl (Or.inl rfl) (Or.inr rfl)) (pss_cons (ps_for PassesOwn.never rfl (pi_range1 (by rfl) md.range (pa_cons (pv 2) pa_nil)) (pg_name (i := 18) sc_law_turns_right.nd rfl (Or.inl rfl) (Or.inr rfl)) (pss_cons (ps_if (PW.pt (pw_or (pt_cmpR (op_neK K hr.units) (pe_ix (ix_tK K) (pe_ix (ix_tK K) (pv 20) (pe_ix (ix_lK K) (pv 11) (pv 19) (fun _ _ => rfl)) (fun _ _ => rfl)) (pe_ix (ix_lK K) (pv 11) (pv 18) (fun _ _ => rfl)) (fun _ _ => rfl)) (pe_ix (ix_tK K) (pe_ix (ix_tK K) (pv 5) (pv 19) (fun _ _ => rfl)) (pv 18) (fun _ _ => rfl)) (by rfl)) (pw_or1 (pt_cmpR (op_neK K hr.units) (pe_ix (ix_tK K) (pe_ix (ix_tK K) (pv 21) (pv 19) (fun _ _ => rfl)) (pv 18) (fun _ _ => rfl)) (pe_ifExp (pt_cmp (pc_isN (pe_ix (ix_tK K) (pe_ix (ix_tK K) (pv 5) (pv 19) (fun _ _ => rfl)) (pv 18) (fun _ _ => rfl)))) pe_non (pe_op op_mul (pv 14) (pe_ix (ix_tK K) (pe_ix (ix_tK K) (pv 5) (pv 19) (fun _ _ => rfl)) (pv 18) (fun _ _ => rfl)))) (by rfl))))) (pss_cons (ps_ret pe_bl) pss_nil) pss_nil) (pss_cons (ps_if (pt_cmpR (op_neK K hr.units) (Nz.pe_c c_range_of hr (by decide) (by rfl) (pa_cons (pv 1) (pa_cons (pv 19) (pa_cons (pv 18) pa_nil)))) (pe_tup (pa_cons (pe_ifExp (pt_cmp (pc_isN (pe_ix (ix_tK K) (pe_ix (ix_tK K) (pv 5) (pv 19) (fun _ _ => rfl)) (pv 18) (fun _ _ => rfl)))) pe_non (pe_op op_sub pe_int (pe_ix (ix_tK K) (pe_ix (ix_tK K) (pv 5) (pv 19) (fun _ _ => rfl)) (pv 18) (fun _ _ => rfl)))) (pa_cons (pe_ix (ix_tK K) (pe_ix (ix_tK K) (pv 5) (pv 18) (fun _ _ => rfl)) (pv 19) (fun _ _ => rfl)) pa_nil))) (by rfl)) (pss_cons (ps_ret pe_bl) pss_nil) pss_nil) pss_nil))) pss_nil)) (pss_cons (ps_set (i := 22) sc_law_turns_right.nd rfl (Or.inr rfl) (Nz.pe_c c_earliest hr (by decide) (by rfl) (pa_cons (pv 1) pa_nil))) (pss_cons (ps_if (PW.pt (pw_or (pt_cmpR (op_neK K hr.units) (Nz.pe_c c_earliest hr (by decide) (by rfl) (pa_cons (pv 15) pa_nil)) (pe_callTy (cr_tupK K) (by rfl) md.tuple (by decide +kernel) (pa_cons (pe_lc (own := [("time", 23)]) rfl sc_law_turns_right.nd (pi_tK K (pv 22)) (blkOk_by (N := ["tape", "net", "many", "bounds", "is_fit", "told", "back", "a", "b", "most", "left", "names", "k", "other", "by", "great", "row", "count", "j", "i", "bent", "more", "times", "time"]) (sc := (defScope s_law_turns_right)) (by decide +kernel)) (fun _ _ _ _ _ => (pg_name (i := 23) sc_law_turns_right.nd rfl (Or.inl rfl) (Or.inr rfl))) (fun _ _ _ _ _ => pts_nil) (fun _ _ _ _ _ => (pe_op op_mul (pv 14) (pv 23)))) pa_nil)) (by rfl)) (pw_or1 (pt_cmpR (op_neK K hr.units) (Nz.pe_c c_earliest hr (by decide) (by rfl) (pa_cons (pv 13) pa_nil)) (pe_callTy (cr_tupK K) (by rfl) md.tuple (by decide +kernel) (pa_cons (pe_lc (own := [("k", 12)]) rfl sc_law_turns_right.nd (pi_range1 (by rfl) md.range (pa_cons (pv 2) pa_nil)) (blkOk_by (N := ["tape", "net", "many", "bounds", "is_fit", "told", "back", "a", "b", "most", "left", "names", "k", "other", "by", "great", "row", "count", "j", "i", "bent", "more", "times", "time"]) (sc := (defScope s_law_turns_right)) (by decide +kernel)) (fun _ _ _ _ _ => (pg_name (i := 12) sc_law_turns_right.nd rfl (Or.inl rfl) (Or.inr rfl))) (fun _ _ _ _ _ => pts_nil) (fun _ _ _ _ _ => (pe_ix (ix_tK K) (pv 22) (Nz.pe_indexK K (pv 11) (pa_cons (pv 12) pa_nil)) (fun _ _ => rfl)))) pa_nil)) (by rfl))))) (pss_cons (ps_ret pe_bl) pss_nil) pss_nil) (pss_cons (ps_ret (pe_and (pe_cmpR op_isBl (Nz.pe_c c_keeps hr (by decide) (by rfl) (pa_cons (pv 1) (pa_cons (pv 22) pa_nil))) pe_bl (by rfl)) (pe_and (pe_cmpR op_ge (pe_callB (Nz.cr_minTIK K hr.units) (by rfl) md.min (by decide +kernel) (pa_cons (pv 22) pa_nil)) pe_int (by rfl)) (pe_one (pe_cmpR op_isBl (Nz.pe_c c_keeps hr (by decide) (by rfl) (pa_cons (pv 6) (pa_cons (pe_callTy (cr_tupK K) (by rfl) md.tuple (by decide +kernel) (pa_cons (pe_lc (own := [("time", 23)]) rfl sc_law_turns_right.nd (pi_tK K (pv 22)) (blkOk_by (N := ["tape", "net", "many", "bounds", "is_fit", "told", "back", "a", "b", "most", "left", "names", "k", "other", "by", "great", "row", "count", "j", "i", "bent", "more", "times", "time"]) (sc := (defScope s_law_turns_right)) (by decide +kernel)) (fun _ _ _ _ _ => (pg_name (i := 23) sc_law_turns_right.nd rfl (Or.inl rfl) (Or.inr rfl))) (fun _ _ _ _ _ => pts_nil) (fun _ _ _ _ _ => (pe_op op_sub pe_int (pv 23)))) pa_nil)) pa_nil))) pe_bl (by rfl)))))) pss_nil))))))))))))))))), ?_⟩
  exact Nz.fnTX (n := 22) Nz.prm_1 rfl (fun pt c a => (Nz.bj_asgG (Nz.ev_var rfl) (Nz.gt_tup rfl (Nz.gts_cons Nz.gt_name (fun _ => (Nz.gts_nil Nz.gt_name)))) (by decide) (fun u_1 => (Nz.bj_tup2 (Nz.us_v (Nz.ev_call (Nz.ea_1 (Nz.ev_var rfl)))) (Nz.us_v (Nz.ev_call (Nz.ea_1 (Nz.ev_var rfl)))) (of_decide_eq_true rfl) (of_decide_eq_true rfl) (fun is_fit_3 told_5 => (Nz.bj_asg (Nz.ev_pr (Nz.ea_c (Nz.ev_var rfl) (Nz.ea_1 (Nz.ev_tupL (Nz.rl_l (Nz.el_lc (Nz.ir_iv (Nz.iv_tup (Nz.ev_revT (Nz.ev_var rfl)))) (Nz.gt_tup rfl (Nz.gts_cons Nz.gt_name (fun _ => (Nz.gts_cons Nz.gt_name (fun _ => (Nz.gts_nil Nz.gt_name)))))) (by decide) (fun y6 => Nz.et_yes) (fun y6 => (Nz.ev_pr (Nz.ea_c (Nz.ev_var rfl) (Nz.ea_c (Nz.ev_var rfl) (Nz.ea_1 (Nz.ev_var rfl)))))))))))) (fun back_8 => (Nz.bj_tup2 (Nz.us_l (Nz.el_listRg1 (Nz.ev_var rfl))) (Nz.us_l (Nz.el_nil (r := rInt))) (of_decide_eq_true rfl) (of_decide_eq_true rfl) (fun left_9 names_10 => (Nz.bj_for (fS := (fun (s11 : ((List Int) × (List Int))) => [(slAt pt), (slV (rPr (fc rInt (f1 (rTup (rPr (fc rInt (fc rInt (f1 rInt)))))))) a), (slV rInt u_1.1), (slV (rTup (rPr (fc rInt (fc rInt (f1 rInt))))) u_1.2), (slV rBl is_fit_3), (slV (rTup (rTup (rOpt rInt))) told_5), (slV (rPr (fc rInt (f1 (rTup (rPr (fc rInt (fc rInt (f1 rInt)))))))) back_8), slAny, slAny, slAny, (slL rInt s11.1), (slL rInt s11.2), slAny, slAny, slAny, slAny, slAny, slAny, slAny, slAny, slAny, slAny, slAny, slAny])) (oS := [10, 11]) (s0 := (left_9, names_10)) (Nz.iv_rng1 (Nz.ev_var rfl)) (Nz.wk_k rfl (Nz.wk_k rfl (Nz.wk_k rfl (Nz.wk_k rfl (Nz.wk_k rfl (Nz.wk_k rfl (Nz.wk_k rfl (Nz.wk_a (Nz.wk_a (Nz.wk_a (Nz.wk_o (by decide) (Nz.wk_o (by decide) (Nz.wk_a (Nz.wk_a (Nz.wk_a (Nz.wk_a (Nz.wk_a (Nz.wk_a (Nz.wk_a (Nz.wk_a (Nz.wk_a (Nz.wk_a (Nz.wk_a (Nz.wk_a Nz.Wks.nil)))))))))))))))))))))))) (by decide) (fun s11 => Nz.gt_name) (by decide) (fun s11 y12 => (Nz.bj_appPop (by decide) (by decide) (by decide) rfl rfl (Nz.ev_callTX (Nz.EffIn.refl _) rfl (Nz.ea_1 (Nz.ev_lenS (Nz.rs_l (Nz.rl_own rfl))))) (fun names_15 left_16 => (Nz.bj_nx (s := (left_16, names_15)) (Nz.wk_k rfl (Nz.wk_k rfl (Nz.wk_k rfl (Nz.wk_k rfl (Nz.wk_k rfl (Nz.wk_k rfl (Nz.wk_k rfl (Nz.wk_a (Nz.wk_a (Nz.wk_a (Nz.wk_o (by decide) (Nz.wk_o (by decide) (Nz.wk_a (Nz.wk_a (Nz.wk_a (Nz.wk_a (Nz.wk_a (Nz.wk_a (Nz.wk_a (Nz.wk_a (Nz.wk_a (Nz.wk_a (Nz.wk_a (Nz.wk_a Nz.Wks.nil)))))))))))))))))))))))) (by decide))))) (fun s11 => (Nz.bj_frzL (i := 11) (by decide) rfl (Nz.bj_asg (Nz.ev_pr (Nz.ea_c (Nz.ev_var rfl) (Nz.ea_1 (Nz.ev_tupL (Nz.rl_l (Nz.el_lc (Nz.ir_iv (Nz.iv_tup (Nz.ev_var rfl))) (Nz.gt_tup rfl (Nz.gts_cons Nz.gt_name (fun _ => (Nz.gts_cons Nz.gt_name (fun _ => (Nz.gts_nil Nz.gt_name)))))) (by decide) (fun y18 => Nz.et_yes) (fun y18 => (Nz.ev_pr (Nz.ea_c (Nz.ev_ixL (Nz.rl_ev (Nz.ev_var rfl)) (Nz.ev_var rfl)) (Nz.ea_c (Nz.ev_ixL (Nz.rl_ev (Nz.ev_var rfl)) (Nz.ev_var rfl)) (Nz.ea_1 (Nz.ev_var rfl)))))))))))) (fun other_22 => (Nz.bj_asg (Nz.ev_I0 (g := fun i j => i + j) (Nz.ev_int (i := 1)) (Nz.ev_callTX (Nz.EffIn.refl _) rfl (Nz.ea_1 (Nz.ev_int (i := 5))))) (fun by_24 => (Nz.bj_asg (Nz.ev_pr (Nz.ea_c (Nz.ev_var rfl) (Nz.ea_1 (Nz.ev_tupL (Nz.rl_l (Nz.el_lc (Nz.ir_iv (Nz.iv_tup (Nz.ev_catT (Nz.ev_var rfl) (Nz.ev_var rfl)))) (Nz.gt_tup rfl (Nz.gts_cons Nz.gt_name (fun _ => (Nz.gts_cons Nz.gt_name (fun _ => (Nz.gts_nil Nz.gt_name)))))) (by decide) (fun y25 => Nz.et_yes) (fun y25 => (Nz.ev_pr (Nz.ea_c (Nz.ev_var rfl) (Nz.ea_c (Nz.ev_var rfl) (Nz.ea_1 (Nz.ev_I (C := CMul) (g := fun i j => i * j) (Nz.ev_var rfl) (Nz.ev_var rfl))))))))))))) (fun great_27 => (Nz.bj_ifD (Nz.et_or (Nz.et_T (Nz.ev_neB (Nz.ev_call (Nz.ea_1 (Nz.ev_var rfl))) (Nz.ev_var rfl))) (Nz.et_or (Nz.et_T (Nz.ev_neB (Nz.ev_call (Nz.ea_1 (Nz.ev_var rfl))) (Nz.ev_var rfl))) (Nz.et_T (Nz.ev_neB (Nz.ev_call (Nz.ea_1 (Nz.ev_var rfl))) (Nz.ev_var rfl))))) (Nz.bj_seq (Nz.bj_ret Nz.ev_bl)) (Nz.bj_seq0 (Nz.bj_ifD (Nz.et_not (Nz.et_B (Nz.ev_var rfl))) (Nz.bj_seq (Nz.bj_asg (Nz.ev_call (Nz.ea_1 (Nz.ev_var rfl))) (fun row_33 => (Nz.bj_seq (Nz.bj_ifD (Nz.et_or (Nz.et_T (Nz.ev_notB (Nz.ev_call (Nz.ea_c (Nz.ev_var rfl) (Nz.ea_1 (Nz.ev_get (Nz.ev_var rfl))))) Nz.ev_bl)) (Nz.et_or (Nz.et_T (Nz.ev_notB (Nz.ev_call (Nz.ea_c (Nz.ev_var rfl) (Nz.ea_1 (Nz.ev_get (Nz.ev_var rfl))))) Nz.ev_bl)) (Nz.et_T (Nz.ev_notB (Nz.ev_call (Nz.ea_c (Nz.ev_var rfl) (Nz.ea_1 (Nz.ev_get (Nz.ev_var rfl))))) Nz.ev_bl)))) (Nz.bj_seq (Nz.bj_ret Nz.ev_bl)) (Nz.bj_seq0 (Nz.bj_seq (Nz.bj_asg (Nz.ev_lenS (Nz.rs_t (Nz.rt_ev (Nz.ev_var rfl)))) (fun count_41 => (Nz.bj_seq (Nz.bj_ifD (Nz.et_or (Nz.et_T (Nz.ev_notB (Nz.ev_call (Nz.ea_c (Nz.ev_var rfl) (Nz.ea_1 (Nz.ev_tupL (Nz.rl_l (Nz.el_lc (Nz.ir_iv (Nz.iv_tup (Nz.ev_revT (Nz.ev_get (Nz.ev_var rfl))))) Nz.gt_name (by decide) (fun y44 => Nz.et_yes) (fun y44 => (Nz.ev_I0 (g := fun i j => i - j) (Nz.ev_I0 (g := fun i j => i - j) (Nz.ev_var rfl) (Nz.ev_int (i := 1))) (Nz.ev_var rfl))))))))) Nz.ev_bl)) (Nz.et_B (Nz.ev_notN (Nz.ev_call (Nz.ea_1 (Nz.ev_var rfl)))))) (Nz.bj_seq (Nz.bj_ret Nz.ev_bl)) (Nz.bj_seq0 (Nz.bj_seq (Nz.bj_ret (Nz.ev_and (Nz.ev_isB (Nz.ev_call (Nz.ea_c (Nz.ev_var rfl) (Nz.ea_1 (Nz.ev_catT (Nz.ev_slT (Nz.ev_get (Nz.ev_var rfl)) (Nz.po_yes (Nz.ev_int (i := 1))) Nz.po_no) (Nz.ev_slT (Nz.ev_get (Nz.ev_var rfl)) Nz.po_no (Nz.po_yes (Nz.ev_int (i := 1)))))))) Nz.ev_bl) (Nz.ev_isN (Nz.ev_call (Nz.ea_1 (Nz.ev_var rfl))))))))))))))))))) (Nz.bj_seq0 (Nz.bj_ifD (Nz.et_or (Nz.et_T (Nz.ev_neD (Nz.da_tup (Nz.da_tup (Nz.da_opt Nz.da_int (fun _ h => nomatch h)))) (Nz.ev_var rfl) (Nz.ev_call (Nz.ea_1 (Nz.ev_var rfl))))) (Nz.et_B (Nz.ev_notN (Nz.ev_call (Nz.ea_1 (Nz.ev_var rfl)))))) (Nz.bj_seq (Nz.bj_ret Nz.ev_bl)) (Nz.bj_seq0 (Nz.bj_ifD (Nz.et_T (Nz.ev_neD (Nz.da_tup (Nz.da_tup (Nz.da_opt Nz.da_int (fun _ h => nomatch h)))) (Nz.ev_call (Nz.ea_1 (Nz.ev_var rfl))) (Nz.ev_tupL (Nz.rl_l (Nz.el_lc (Nz.ir_iv (Nz.iv_rng1 (Nz.ev_var rfl))) Nz.gt_name (by decide) (fun y58 => Nz.et_yes) (fun y58 => (Nz.ev_tupL (Nz.rl_l (Nz.el_lc (Nz.ir_iv (Nz.iv_rng1 (Nz.ev_var rfl))) Nz.gt_name (by decide) (fun y59 => Nz.et_yes) (fun y59 => (Nz.ev_ixT (Nz.rt_ev (Nz.ev_ixT (Nz.rt_ev (Nz.ev_var rfl)) (Nz.ev_var rfl))) (Nz.ev_var rfl)))))))))))) (Nz.bj_seq (Nz.bj_ret Nz.ev_bl)) (Nz.bj_seq0 (Nz.bj_par (Nz.us_v (Nz.ev_call (Nz.ea_1 (Nz.ev_var rfl)))) (Nz.us_v (Nz.ev_call (Nz.ea_1 (Nz.ev_var rfl)))) (of_decide_eq_true rfl) (of_decide_eq_true rfl) (fun bent_65 more_67 => (Nz.bj_for (fS := (fun (s68 : Unit) => [(slAt pt), (slV (rPr (fc rInt (f1 (rTup (rPr (fc rInt (fc rInt (f1 rInt)))))))) a), (slV rInt u_1.1), (slV (rTup (rPr (fc rInt (fc rInt (f1 rInt))))) u_1.2), (slV rBl is_fit_3), (slV (rTup (rTup (rOpt rInt))) told_5), (slV (rPr (fc rInt (f1 (rTup (rPr (fc rInt (fc rInt (f1 rInt)))))))) back_8), slAny, slAny, slAny, (slL rInt s11.1), (slV (rLst rInt) s11.2), slAny, (slV (rPr (fc rInt (f1 (rTup (rPr (fc rInt (fc rInt (f1 rInt)))))))) other_22), (slV rInt by_24), (slV (rPr (fc rInt (f1 (rTup (rPr (fc rInt (fc rInt (f1 rInt)))))))) great_27), slAny, slAny, slAny, slAny, (slV (rTup (rTup (rOpt rInt))) bent_65), (slV (rTup (rTup (rOpt rInt))) more_67), slAny, slAny])) (oS := [10]) (s0 := ()) (Nz.iv_rng1 (Nz.ev_var rfl)) (Nz.wk_k rfl (Nz.wk_k rfl (Nz.wk_k rfl (Nz.wk_k rfl (Nz.wk_k rfl (Nz.wk_k rfl (Nz.wk_k rfl (Nz.wk_a (Nz.wk_a (Nz.wk_a (Nz.wk_o (by decide) (Nz.wk_k rfl (Nz.wk_a (Nz.wk_k rfl (Nz.wk_k rfl (Nz.wk_k rfl (Nz.wk_a (Nz.wk_a (Nz.wk_a (Nz.wk_a (Nz.wk_k rfl (Nz.wk_k rfl (Nz.wk_a (Nz.wk_a Nz.Wks.nil)))))))))))))))))))))))) (by decide) (fun s68 => Nz.gt_name) (by decide) (fun s68 y69 => (Nz.bj_for (fS := (fun (s70 : Unit) => [(slAt pt), (slV (rPr (fc rInt (f1 (rTup (rPr (fc rInt (fc rInt (f1 rInt)))))))) a), (slV rInt u_1.1), (slV (rTup (rPr (fc rInt (fc rInt (f1 rInt))))) u_1.2), (slV rBl is_fit_3), (slV (rTup (rTup (rOpt rInt))) told_5), (slV (rPr (fc rInt (f1 (rTup (rPr (fc rInt (fc rInt (f1 rInt)))))))) back_8), slAny, slAny, slAny, (slL rInt s11.1), (slV (rLst rInt) s11.2), slAny, (slV (rPr (fc rInt (f1 (rTup (rPr (fc rInt (fc rInt (f1 rInt)))))))) other_22), (slV rInt by_24), (slV (rPr (fc rInt (f1 (rTup (rPr (fc rInt (fc rInt (f1 rInt)))))))) great_27), slAny, slAny, slAny, (slV rInt y69), (slV (rTup (rTup (rOpt rInt))) bent_65), (slV (rTup (rTup (rOpt rInt))) more_67), slAny, slAny])) (oS := [10]) (s0 := ()) (Nz.iv_rng1 (Nz.ev_var rfl)) (Nz.wk_k rfl (Nz.wk_k rfl (Nz.wk_k rfl (Nz.wk_k rfl (Nz.wk_k rfl (Nz.wk_k rfl (Nz.wk_k rfl (Nz.wk_a (Nz.wk_a (Nz.wk_a (Nz.wk_o (by decide) (Nz.wk_k rfl (Nz.wk_a (Nz.wk_k rfl (Nz.wk_k rfl (Nz.wk_k rfl (Nz.wk_a (Nz.wk_a (Nz.wk_a (Nz.wk_k rfl (Nz.wk_k rfl (Nz.wk_k rfl (Nz.wk_a (Nz.wk_a Nz.Wks.nil)))))))))))))))))))))))) (by decide) (fun s70 => Nz.gt_name) (by decide) (fun s70 y71 => (Nz.bj_ifD (Nz.et_or (Nz.et_T (Nz.ev_neD (Nz.da_opt Nz.da_int (fun _ h => nomatch h)) (Nz.ev_ixT (Nz.rt_ev (Nz.ev_ixT (Nz.rt_ev (Nz.ev_var rfl)) (Nz.ev_ixL (Nz.rl_ev (Nz.ev_var rfl)) (Nz.ev_var rfl)))) (Nz.ev_ixL (Nz.rl_ev (Nz.ev_var rfl)) (Nz.ev_var rfl))) (Nz.ev_ixT (Nz.rt_ev (Nz.ev_ixT (Nz.rt_ev (Nz.ev_var rfl)) (Nz.ev_var rfl))) (Nz.ev_var rfl)))) (Nz.et_T (Nz.ev_neD (Nz.da_opt Nz.da_int (fun _ h => nomatch h)) (Nz.ev_ixT (Nz.rt_ev (Nz.ev_ixT (Nz.rt_ev (Nz.ev_var rfl)) (Nz.ev_var rfl))) (Nz.ev_var rfl)) (Nz.ev_if (Nz.et_B (Nz.ev_isN (Nz.ev_ixT (Nz.rt_ev (Nz.ev_ixT (Nz.rt_ev (Nz.ev_var rfl)) (Nz.ev_var rfl))) (Nz.ev_var rfl)))) (Nz.ev_none (r := rInt)) (Nz.ev_some Nz.nn_int (Nz.ev_I (C := CMul) (g := fun i j => i * j) (Nz.ev_var rfl) (Nz.ev_get (Nz.ev_ixT (Nz.rt_ev (Nz.ev_ixT (Nz.rt_ev (Nz.ev_var rfl)) (Nz.ev_var rfl))) (Nz.ev_var rfl))))))))) (Nz.bj_seq (Nz.bj_ret Nz.ev_bl)) (Nz.bj_seq0 (Nz.bj_ifD (Nz.et_T (Nz.ev_neD (Nz.da_pr (Nz.das_c (Nz.da_opt Nz.da_int (fun _ h => nomatch h)) (Nz.das_1 (Nz.da_opt Nz.da_int (fun _ h => nomatch h))))) (Nz.ev_call (Nz.ea_c (Nz.ev_var rfl) (Nz.ea_c (Nz.ev_var rfl) (Nz.ea_1 (Nz.ev_var rfl))))) (Nz.ev_pr (Nz.ea_c (Nz.ev_if (Nz.et_B (Nz.ev_isN (Nz.ev_ixT (Nz.rt_ev (Nz.ev_ixT (Nz.rt_ev (Nz.ev_var rfl)) (Nz.ev_var rfl))) (Nz.ev_var rfl)))) (Nz.ev_none (r := rInt)) (Nz.ev_some Nz.nn_int (Nz.ev_I0 (g := fun i j => i - j) (Nz.ev_int (i := 0)) (Nz.ev_get (Nz.ev_ixT (Nz.rt_ev (Nz.ev_ixT (Nz.rt_ev (Nz.ev_var rfl)) (Nz.ev_var rfl))) (Nz.ev_var rfl)))))) (Nz.ea_1 (Nz.ev_ixT (Nz.rt_ev (Nz.ev_ixT (Nz.rt_ev (Nz.ev_var rfl)) (Nz.ev_var rfl))) (Nz.ev_var rfl))))))) (Nz.bj_seq (Nz.bj_ret Nz.ev_bl)) (Nz.bj_seq0 (Nz.bj_nx (s := ()) (Nz.wk_k rfl (Nz.wk_k rfl (Nz.wk_k rfl (Nz.wk_k rfl (Nz.wk_k rfl (Nz.wk_k rfl (Nz.wk_k rfl (Nz.wk_a (Nz.wk_a (Nz.wk_a (Nz.wk_o (by decide) (Nz.wk_k rfl (Nz.wk_a (Nz.wk_k rfl (Nz.wk_k rfl (Nz.wk_k rfl (Nz.wk_a (Nz.wk_a (Nz.wk_a (Nz.wk_k rfl (Nz.wk_k rfl (Nz.wk_k rfl (Nz.wk_a (Nz.wk_a Nz.Wks.nil)))))))))))))))))))))))) (by decide))))))) (fun s70 => (Nz.bj_nx (s := ()) (Nz.wk_k rfl (Nz.wk_k rfl (Nz.wk_k rfl (Nz.wk_k rfl (Nz.wk_k rfl (Nz.wk_k rfl (Nz.wk_k rfl (Nz.wk_a (Nz.wk_a (Nz.wk_a (Nz.wk_o (by decide) (Nz.wk_k rfl (Nz.wk_a (Nz.wk_k rfl (Nz.wk_k rfl (Nz.wk_k rfl (Nz.wk_a (Nz.wk_a (Nz.wk_a (Nz.wk_a (Nz.wk_k rfl (Nz.wk_k rfl (Nz.wk_a (Nz.wk_a Nz.Wks.nil)))))))))))))))))))))))) (by decide))))) (fun s68 => (Nz.bj_asg (Nz.ev_call (Nz.ea_1 (Nz.ev_var rfl))) (fun times_105 => (Nz.bj_ifD (Nz.et_or (Nz.et_T (Nz.ev_neD (Nz.da_opt (Nz.da_tup Nz.da_int) (fun _ h => nomatch h)) (Nz.ev_call (Nz.ea_1 (Nz.ev_var rfl))) (Nz.ev_some Nz.nn_tup (Nz.ev_tupL (Nz.rl_l (Nz.el_lc (Nz.ir_iv (Nz.iv_tup (Nz.ev_get (Nz.ev_var rfl)))) Nz.gt_name (by decide) (fun y111 => Nz.et_yes) (fun y111 => (Nz.ev_I (C := CMul) (g := fun i j => i * j) (Nz.ev_var rfl) (Nz.ev_var rfl))))))))) (Nz.et_T (Nz.ev_neD (Nz.da_opt (Nz.da_tup Nz.da_int) (fun _ h => nomatch h)) (Nz.ev_call (Nz.ea_1 (Nz.ev_var rfl))) (Nz.ev_some Nz.nn_tup (Nz.ev_tupL (Nz.rl_l (Nz.el_lc (Nz.ir_iv (Nz.iv_rng1 (Nz.ev_var rfl))) Nz.gt_name (by decide) (fun y119 => Nz.et_yes) (fun y119 => (Nz.ev_ixT (Nz.rt_ev (Nz.ev_get (Nz.ev_var rfl))) (Nz.ev_index (Nz.rl_ev (Nz.ev_var rfl)) (Nz.ev_var rfl))))))))))) (Nz.bj_seq (Nz.bj_ret Nz.ev_bl)) (Nz.bj_seq0 (Nz.bj_ret (Nz.ev_and (Nz.ev_isB (Nz.ev_call (Nz.ea_c (Nz.ev_var rfl) (Nz.ea_1 (Nz.ev_get (Nz.ev_var rfl))))) Nz.ev_bl) (Nz.ev_and (Nz.ev_B0 (g := fun i j => decide (j ≤ i)) (Nz.ev_minTI (Nz.ev_get (Nz.ev_var rfl))) (Nz.ev_int (i := 0))) (Nz.ev_isB (Nz.ev_call (Nz.ea_c (Nz.ev_var rfl) (Nz.ea_1 (Nz.ev_tupL (Nz.rl_l (Nz.el_lc (Nz.ir_iv (Nz.iv_tup (Nz.ev_get (Nz.ev_var rfl)))) Nz.gt_name (by decide) (fun y130 => Nz.et_yes) (fun y130 => (Nz.ev_I0 (g := fun i j => i - j) (Nz.ev_int (i := 0)) (Nz.ev_var rfl))))))))) Nz.ev_bl)))))))))))))))))))))))))))))))))))))) (fun a k => Eq.mp (by kernel_rfl)) h
abbrev s_law_times_right : Stmt := topS 24
theorem sc_law_times_right : FnScope ["tape", "net", "many", "bounds", "told", "times", "k", "due", "a", "b", "most", "by", "time", "rows", "i", "j", "wide", "early", "both", "less"] ["tape", "net"] (defScope s_law_times_right) := ⟨rfl, rfl, rfl, by decide +kernel, rfl, by decide +kernel, by decide +kernel⟩
def m_law_times_right (a : (Int × (List (Int × Int × Int)))) : Pg Bool := Pg.outG ((pure a : Pg (Int × (List (Int × Int × Int)))) >>= fun u_1 => (m_closed_net a >>= fun r2 => ((pure r2 : Pg (List (List (Option Int)))) >>= fun told_3 => (Pg.ask (-100000 ≤ u_1.1 ∧ u_1.1 ≤ 100000) >>= fun _ => (Pg.comp (rg u_1.1) (fun y4 => pure true) (fun y4 => (m_law_take (15 : Int) >>= fun r5 => (pure (r5)))) >>= fun l6 => ((pure l6 : Pg (List Int)) >>= fun times_7 => (Pg.comp u_1.2 (fun y8 => pure true) (fun y8 => (Pg.opt (atI times_7 y8.2.1) >>= fun e9 => (Pg.opt (atI times_7 y8.1) >>= fun e10 => (pure ((decide ((e9 - e10) ≤ y8.2.2))))))) >>= fun l11 => ((pure ((l11).all id) : Pg Bool) >>= fun due_12 => (m_law_take (99 : Int) >>= fun r13 => ((pure (r13 - (49 : Int)) : Pg Int) >>= fun by_14 => (Pg.orG (m_keeps (a, times_7) >>= fun r15 => (pure ((!decide (r15 = due_12))))) (Pg.comp times_7 (fun y17 => pure true) (fun y17 => (pure ((y17 + by_14)))) >>= fun l18 => (m_keeps (a, l18) >>= fun r16 => (pure ((!decide (r16 = due_12)))))) >>= fun b19 => (Pg.ifG (pure (b19)) (pure (Ctl.rt false)) (m_fits a >>= fun r20 => (Pg.ifG (pure ((!r20))) (pure (Ctl.rt (!due_12))) ((pure ([] : (List (Int × Int × Int))) : Pg (List (Int × Int × Int))) >>= fun rows_21 => (Pg.ask (-100000 ≤ u_1.1 ∧ u_1.1 ≤ 100000) >>= fun _ => ((Pg.forc (rg u_1.1) rows_21 (fun y23 s22 => (Pg.ask (-100000 ≤ u_1.1 ∧ u_1.1 ≤ 100000) >>= fun _ => (Pg.comp (rg u_1.1) (fun y24 => (Pg.opt (atI told_3 y23) >>= fun e25 => (Pg.opt (atI e25 y24) >>= fun e26 => pure ((e26).isSome)))) (fun y24 => (Pg.opt (atI told_3 y23) >>= fun e27 => (Pg.opt (atI e27 y24) >>= fun e28 => (Pg.opt e28 >>= fun o29 => (pure ((y23, y24, o29))))))) >>= fun l30 => (Pg.ask ((s22 ++ l30).length ≤ big) >>= fun _ => ((pure (s22 ++ l30) : Pg (List (Int × Int × Int))) >>= fun rows_31 => (pure (Ctl.nx rows_31))))))) : Pg (Ctl Bool Empty (List (Int × Int × Int)))) >>= Pg.seqG (fun s22 => ((pure (u_1.1, s22) : Pg (Int × (List (Int × Int × Int)))) >>= fun wide_32 => (Pg.orG (m_closed_net wide_32 >>= fun r33 => (pure ((!decide (r33 = told_3))))) (Pg.orG (m_keeps (wide_32, times_7) >>= fun r34 => (pure ((!decide (r34 = due_12))))) (m_earliest wide_32 >>= fun r35 => (m_earliest a >>= fun r36 => (pure ((!decide (r35 = r36))))))) >>= fun b37 => (Pg.ifG (pure (b37)) (pure (Ctl.rt false)) (m_earliest a >>= fun r38 => ((pure r38 : Pg (Option (List Int))) >>= fun early_39 => (Pg.andG (pure (due_12)) (Pg.ask (-100000 ≤ u_1.1 ∧ u_1.1 ≤ 100000) >>= fun _ => (Pg.comp (rg u_1.1) (fun y40 => pure true) (fun y40 => (Pg.opt early_39 >>= fun o41 => (Pg.opt (atI o41 y40) >>= fun e42 => (Pg.opt (atI times_7 y40) >>= fun e43 => (pure ((decide (e43 < e42)))))))) >>= fun l44 => (pure (((l44).any id))))) >>= fun b45 => (Pg.ifG (pure (b45)) (pure (Ctl.rt false)) (m_law_take u_1.1 >>= fun r46 => (m_law_take u_1.1 >>= fun r47 => (m_law_take (20 : Int) >>= fun r48 => (Pg.ask (([(r46, r47, (r48 - (5 : Int)))] : (List (Int × Int × Int))).length ≤ big) >>= fun _ => (Pg.ask ((u_1.2 ++ ([(r46, r47, (r48 - (5 : Int)))] : (List (Int × Int × Int)))).length ≤ big) >>= fun _ => ((pure (u_1.1, (u_1.2 ++ ([(r46, r47, (r48 - (5 : Int)))] : (List (Int × Int × Int))))) : Pg (Int × (List (Int × Int × Int)))) >>= fun both_49 => (m_fits both_49 >>= fun r50 => (Pg.ifG (pure ((!r50))) (pure (Ctl.rt true)) (m_closed_net both_49 >>= fun r51 => ((pure r51 : Pg (List (List (Option Int)))) >>= fun less_52 => (Pg.ask (-100000 ≤ u_1.1 ∧ u_1.1 ≤ 100000) >>= fun _ => ((Pg.forc (rg u_1.1) () (fun y54 s53 => (Pg.ask (-100000 ≤ u_1.1 ∧ u_1.1 ≤ 100000) >>= fun _ => ((Pg.forc (rg u_1.1) () (fun y56 s55 => (Pg.orG (Pg.andG (Pg.opt (atI less_52 y54) >>= fun e57 => (Pg.opt (atI e57 y56) >>= fun e58 => (pure ((e58).isNone)))) (Pg.opt (atI told_3 y54) >>= fun e59 => (Pg.opt (atI e59 y56) >>= fun e60 => (pure ((e60).isSome)))) >>= fun b61 => (pure (b61))) (Pg.andG (Pg.opt (atI told_3 y54) >>= fun e62 => (Pg.opt (atI e62 y56) >>= fun e63 => (pure ((e63).isSome)))) (Pg.opt (atI less_52 y54) >>= fun e64 => (Pg.opt (atI e64 y56) >>= fun e65 => (Pg.opt e65 >>= fun o66 => (Pg.opt (atI told_3 y54) >>= fun e67 => (Pg.opt (atI e67 y56) >>= fun e68 => (Pg.opt e68 >>= fun o69 => (pure ((decide (o69 < o66)))))))))) >>= fun b70 => (pure (b70))) >>= fun b71 => (Pg.ifG (pure (b71)) (pure (Ctl.rt false)) (pure (Ctl.nx ())) : Pg (Ctl Bool Unit Unit)))) : Pg (Ctl Bool Unit Unit)) >>= Pg.seqG (fun s55 => (pure (Ctl.nx ())))))) : Pg (Ctl Bool Empty Unit)) >>= Pg.seqG (fun s53 => (Pg.ask (-100000 ≤ u_1.1 ∧ u_1.1 ≤ 100000) >>= fun _ => (Pg.comp (rg u_1.1) (fun y72 => pure true) (fun y72 => (m_earliest both_49 >>= fun r73 => (Pg.opt r73 >>= fun o74 => (Pg.opt (atI o74 y72) >>= fun e75 => (Pg.opt early_39 >>= fun o76 => (Pg.opt (atI o76 y72) >>= fun e77 => (pure ((decide (e77 ≤ e75)))))))))) >>= fun l78 => (pure (Ctl.rt ((l78).all id)))))))))) : Pg (Ctl Bool Empty Unit))))))))) : Pg (Ctl Bool Empty Unit))))) : Pg (Ctl Bool Empty Unit)))))))) : Pg (Ctl Bool Empty Unit))) : Pg (Ctl Bool Empty Unit)))))))))))))
set_option maxHeartbeats 4000000 in
theorem cal_law_times_right (D : Nz.DefK K mg "_law_times_right" s_law_times_right ["tape", "net"]) (md : Md mg) (c__law_take : Nz.Cal P w K mg base 1 "_law_take" (Nz.spTX (K := K) effT (f1 rInt) rInt (fun a => (m_law_take a).wp)) []) (c_closed_net : Nz.Cal P w K mg base 2 "closed_net" (Nz.spP (K := K) (f1 (rPr (fc rInt (f1 (rTup (rPr (fc rInt (fc rInt (f1 rInt))))))))) (rTup (rTup (rOpt rInt))) (fun a => (m_closed_net a).wp)) []) (c_earliest : Nz.Cal P w K mg base 3 "earliest" (Nz.spP (K := K) (f1 (rPr (fc rInt (f1 (rTup (rPr (fc rInt (fc rInt (f1 rInt))))))))) (rOpt (rTup rInt)) (fun a => (m_earliest a).wp)) []) (c_fits : Nz.Cal P w K mg base 3 "fits" (Nz.spP (K := K) (f1 (rPr (fc rInt (f1 (rTup (rPr (fc rInt (fc rInt (f1 rInt))))))))) rBl (fun a => (m_fits a).wp)) []) (c_keeps : Nz.Cal P w K mg base 2 "keeps" (Nz.spP (K := K) (fc (rPr (fc rInt (f1 (rTup (rPr (fc rInt (fc rInt (f1 rInt)))))))) (f1 (rTup rInt))) rBl (fun a => (m_keeps a).wp)) []) : Nz.Cal P w K mg base 5 "_law_times_right" (Nz.spTX (K := K) effT (f1 (rPr (fc rInt (f1 (rTup (rPr (fc rInt (fc rInt (f1 rInt))))))))) rBl (fun a => (m_law_times_right a).wp)) [] := by
  refine D.cal fun f fd F => F.ok sc_law_times_right (fun vs H Q E h => Nz.spTX_len h) (fun cdv A outer s H vs Q E hr h => ?_)
  refine ⟨_, (pss_cons (ps_asg (pv 1) (Nz.pg_tupK K 2 rfl (pgs_cons (pg_name (i := 2) sc_law_times_right.nd rfl (Or.inl rfl) (Or.inr rfl)) (pgs_cons (pg_name (i := 3) sc_law_times_right.nd rfl (Or.inl rfl) (Or.inr rfl)) pgs_nil)))) (pss_cons (ps_set (i := 4) sc_law_times_right.nd rfl (Or.inr rfl) (Nz.pe_c c_closed_net hr (by decide) (by rfl) (pa_cons (pv 1) pa_nil))) (pss_cons (ps_set (i := 5) sc_law_times_right.nd rfl (Or.inr rfl) (pe_lc (own := [("k", 6)]) rfl sc_law_times_right.nd (pi_range1 (by rfl) md.range (pa_cons (pv 2) pa_nil)) (blkOk_by (N := ["tape", "net", "many", "bounds", "told", "times", "k", "due", "a", "b", "most", "by", "time", "rows", "i", "j", "wide", "early", "both", "less"]) (sc := (defScope s_law_times_right)) (by decide +kernel)) (fun _ _ _ _ _ => (pg_name (i := 6) sc_law_times_right.nd rfl (Or.inl rfl) (Or.inr rfl))) (fun _ _ _ _ _ => pts_nil) (fun _ _ _ _ _ => (Nz.pe_c c__law_take hr (by decide) (by rfl) (pa_cons (pv 0) (pa_cons pe_int pa_nil)))))) (pss_cons (ps_set (i := 7) sc_law_times_right.nd rfl (Or.inl rfl) (pe_callB (cr_allK K) (by rfl) md.all (by decide +kernel) (pa_cons (pe_lc (own := [("a", 8), ("b", 9), ("most", 10)]) rfl sc_law_times_right.nd (pi_tK K (pv 3)) (blkOk_by (N := ["tape", "net", "many", "bounds", "told", "times", "k", "due", "a", "b", "most", "by", "time", "rows", "i", "j", "wide", "early", "both", "less"]) (sc := (defScope s_law_times_right)) (by decide +kernel)) (fun _ _ _ _ _ => (Nz.pg_tupK K 3 rfl (pgs_cons (pg_name (i := 8) sc_law_times_right.nd rfl (Or.inl rfl) (Or.inr rfl)) (pgs_cons (pg_name (i := 9) sc_law_times_right.nd rfl (Or.inl rfl) (Or.inr rfl)) (pgs_cons (pg_name (i := 10) sc_law_times_right.nd rfl (Or.inl rfl) (Or.inr rfl)) pgs_nil))))) (fun _ _ _ _ _ => pts_nil) (fun _ _ _ _ _ => (pe_cmpR op_le (pe_op op_sub (pe_ix (ix_lK K) (pv 5) (pv 9) (fun _ _ => rfl)) (pe_ix (ix_lK K) (pv 5) (pv 8) (fun _ _ => rfl))) (pv 10) (by rfl)))) pa_nil))) (pss_cons (ps_set (i := 11) sc_law_times_right.nd rfl (Or.inr rfl) (pe_op op_sub (Nz.pe_c c__law_take hr (by decide) (by rfl) (pa_cons (pv 0) (pa_cons pe_int pa_nil))) pe_int)) (pss_cons (ps_if (PW.pt (pw_or (pt_cmpR op_ne (Nz.pe_c c_keeps hr (by decide) (by rfl) (pa_cons (pv 1) (pa_cons (pe_callTy (cr_tupK K) (by rfl) md.tuple (by decide +kernel) (pa_cons (pv 5) pa_nil)) pa_nil))) (pv 7) (by rfl)) (pw_or1 (pt_cmpR op_ne (Nz.pe_c c_keeps hr (by decide) (by rfl) (pa_cons (pv 1) (pa_cons (pe_callTy (cr_tupK K) (by rfl) md.tuple (by decide +kernel) (pa_cons (pe_lc (own := [("time", 12)]) rfl sc_law_times_right.nd (pi_lK K (pv 5)) (blkOk_by (N := ["tape", "net", "many", "bounds", "told", "times", "k", "due", "a", "b", "most", "by", "time", "rows", "i", "j", "wide", "early", "both", "less"]) (sc := (defScope s_law_times_right)) (by decide +kernel)) (fun _ _ _ _ _ => (pg_name (i := 12) sc_law_times_right.nd rfl (Or.inl rfl) (Or.inr rfl))) (fun _ _ _ _ _ => pts_nil) (fun _ _ _ _ _ => (pe_op op_add (pv 12) (pv 11)))) pa_nil)) pa_nil))) (pv 7) (by rfl))))) (pss_cons (ps_ret pe_bl) pss_nil) pss_nil) (pss_cons (ps_if (pt_not (pt_val (Nz.pe_c c_fits hr (by decide) (by rfl) (pa_cons (pv 1) pa_nil)))) (pss_cons (ps_ret (pe_not (pv 7))) pss_nil) pss_nil) (pss_cons (ps_set (i := 13) sc_law_times_right.nd rfl (Or.inl rfl) (pe_lst pa_nil)) (pss_cons (ps_for PassesOwn.never rfl (pi_range1 (by rfl) md.range (pa_cons (pv 2) pa_nil)) (pg_name (i := 14) sc_law_times_right.nd rfl (Or.inr rfl) (Or.inl rfl)) (pss_cons (ps_set (i := 13) sc_law_times_right.nd rfl (Or.inl rfl) (pe_op op_catR (pv 13) (pe_lc (own := [("j", 15)]) rfl sc_law_times_right.nd (pi_range1 (by rfl) md.range (pa_cons (pv 2) pa_nil)) (blkOk_by (N := ["tape", "net", "many", "bounds", "told", "times", "k", "due", "a", "b", "most", "by", "time", "rows", "i", "j", "wide", "early", "both", "less"]) (sc := (defScope s_law_times_right)) (by decide +kernel)) (fun _ _ _ _ _ => (pg_name (i := 15) sc_law_times_right.nd rfl (Or.inl rfl) (Or.inr rfl))) (fun _ _ _ _ _ => (pts_one (pt_cmp (pc_notN (pe_ix (ix_tK K) (pe_ix (ix_tK K) (pv 4) (pv 14) (fun _ _ => rfl)) (pv 15) (fun _ _ => rfl)))))) (fun _ _ _ _ _ => (pe_tup (pa_cons (pv 14) (pa_cons (pv 15) (pa_cons (pe_ix (ix_tK K) (pe_ix (ix_tK K) (pv 4) (pv 14) (fun _ _ => rfl)) (pv 15) (fun _ _ => rfl)) pa_nil)))))))) pss_nil)) (pss_cons (ps_set (i := 16) sc_law_times_right.nd rfl (Or.inl rfl) (pe_tup (pa_cons (pv 2) (pa_cons (pe_callTy (cr_tupK K) (by rfl) md.tuple (by decide +kernel) (pa_cons (pv 13) pa_nil)) pa_nil)))) (pss_cons (ps_if (PW.pt (pw_or (pt_cmpR (op_neK K hr.units) (Nz.pe_c c_closed_net hr (by decide) (by rfl) (pa_cons (pv 16) pa_nil)) (pv 4) (by rfl)) (pw_or (pt_cmpR op_ne (Nz.pe_c c_keeps hr (by decide) (by rfl) (pa_cons (pv 16) (pa_cons (pe_callTy (cr_tupK K) (by rfl) md.tuple (by decide +kernel) (pa_cons (pv 5) pa_nil)) pa_nil))) (pv 7) (by rfl)) (pw_or1 (pt_cmpR (op_neK K hr.units) (Nz.pe_c c_earliest hr (by decide) (by rfl) (pa_cons (pv 16) pa_nil)) (Nz.pe_c c_earliest hr (by decide) (by rfl) (pa_cons (pv 1) pa_nil)) (by rfl)))))) (pss_cons (ps_ret pe_bl) pss_nil) pss_nil) (pss_cons (ps_set (i := 17) sc_law_times_right.nd rfl (Or.inr rfl) (Nz.pe_c c_earliest hr (by decide) (by rfl) (pa_cons (pv 1) pa_nil))) (pss_cons (ps_if (PW.pt (pw_and (pt_val (pv 7)) (pw_and1 (pt_val (pe_callB (cr_anyK K) (by rfl) md.any (by decide +kernel) (pa_cons (pe_lc (own := [("k", 6)]) rfl sc_law_times_right.nd (pi_range1 (by rfl) md.range (pa_cons (pv 2) pa_nil)) (blkOk_by (N := ["tape", "net", "many", "bounds", "told", "times", "k", "due", "a", "b", "most", "by", "time", "rows", "i", "j", "wide", "early", "both", "less"]) (sc := (defScope s_law_times_right)) (by decide +kernel)) (fun _ _ _ _ _ => (pg_name (i := 6) sc_law_times_right.nd rfl (Or.inl rfl) (Or.inr rfl))) (fun _ _ _ _ _ => pts_nil) (fun _ _ _ _ _ => (pe_cmpR op_gt (pe_ix (ix_tK K) (pv 17) (pv 6) (fun _ _ => rfl)) (pe_ix (ix_lK K) (pv 5) (pv 6) (fun _ _ => rfl)) (by rfl)))) pa_nil)))))) (pss_cons (ps_ret pe_bl) pss_nil) pss_nil) (pss_cons (ps_set (i := 18) sc_law_times_right.nd rfl (Or.inr rfl) (pe_tup (pa_cons (pv 2) (pa_cons (pe_op (op_catK K) (pv 3) (pe_tup (pa_cons (pe_tup (pa_cons (Nz.pe_c c__law_take hr (by decide) (by rfl) (pa_cons (pv 0) (pa_cons (pv 2) pa_nil))) (pa_cons (Nz.pe_c c__law_take hr (by decide) (by rfl) (pa_cons (pv 0) (pa_cons (pv 2) pa_nil))) (pa_cons (pe_op op_sub (Nz.pe_c c__law_take hr (by decide) (by rfl) (pa_cons (pv 0) (pa_cons pe_int pa_nil))) pe_int) pa_nil)))) pa_nil))) pa_nil)))) (pss_cons (ps_if (pt_not (pt_val (Nz.pe_c c_fits hr (by decide) (by rfl) (pa_cons (pv 18) pa_nil)))) (pss_cons (ps_ret pe_bl) pss_nil) pss_nil) (pss_cons (ps_set (i := 19) sc_law_times_right.nd rfl (Or.inl rfl) (Nz.pe_c c_closed_net hr (by decide) (by rfl) (pa_cons (pv 18) pa_nil))) (pss_cons (ps_for PassesOwn.never rfl (pi_range1 (by rfl) md.range (pa_cons (pv 2) pa_nil)) (pg_name (i := 14) sc_law_times_right.nd rfl (Or.inr rfl) (Or.inl rfl)) (pss_cons (ps_for PassesOwn.never rfl (pi_range1 (by rfl) md.range (pa_cons (pv 2) pa_nil)) (pg_name (i := 15) sc_law_times_right.nd rfl (Or.inl rfl) (Or.inr rfl)) (pss_cons (ps_if (PW.pt (pw_or (PW.pt (pw_and (pt_cmp (pc_isN (pe_ix (ix_tK K) (pe_ix (ix_tK K) (pv 19) (pv 14) (fun _ _ => rfl)) (pv 15) (fun _ _ => rfl)))) (pw_and1 (pt_cmp (pc_notN (pe_ix (ix_tK K) (pe_ix (ix_tK K) (pv 4) (pv 14) (fun _ _ => rfl)) (pv 15) (fun _ _ => rfl))))))) (pw_or1 (PW.pt (pw_and (pt_cmp (pc_notN (pe_ix (ix_tK K) (pe_ix (ix_tK K) (pv 4) (pv 14) (fun _ _ => rfl)) (pv 15) (fun _ _ => rfl)))) (pw_and1 (pt_cmpR op_gt (pe_ix (ix_tK K) (pe_ix (ix_tK K) (pv 19) (pv 14) (fun _ _ => rfl)) (pv 15) (fun _ _ => rfl)) (pe_ix (ix_tK K) (pe_ix (ix_tK K) (pv 4) (pv 14) (fun _ _ => rfl)) (pv 15) (fun _ _ => rfl)) (by rfl)))))))) (pss_cons (ps_ret pe_bl) pss_nil) pss_nil) pss_nil)) pss_nil)) (pss_cons (ps_ret (pe_callB (cr_allK K) (by rfl) md.all (by decide +kernel) (pa_cons (pe_lc (own := [("k", 6)]) rfl sc_law_times_right.nd (pi_range1 (by rfl) md.range (pa_cons (pv 2) pa_nil)) (blkOk_by (N := ["tape", "net", "many", "bounds", "told", "times", "k", "due", "a", "b", "most", "by", "time", "rows", "i", "j", "wide", "early", "both", "less"]) (sc := (defScope s_law_times_right)) (by decide +kernel)) (fun _ _ _ _ _ => (pg_name (i := 6) sc_law_times_right.nd rfl (Or.inl rfl) (Or.inr rfl))) (fun _ _ _ _ _ => pts_nil) (fun _ _ _ _ _ => (pe_cmpR op_ge (pe_ix (ix_tK K) (Nz.pe_c c_earliest hr (by decide) (by rfl) (pa_cons (pv 18) pa_nil)) (pv 6) (fun _ _ => rfl)) (pe_ix (ix_tK K) (pv 17) (pv 6) (fun _ _ => rfl)) (by rfl)))) pa_nil))) pss_nil)))))))))))))))))), ?_⟩
  exact Nz.fnTX (n := 18) Nz.prm_1 rfl (fun pt c a => (Nz.bj_asgG (Nz.ev_var rfl) (Nz.gt_tup rfl (Nz.gts_cons Nz.gt_name (fun _ => (Nz.gts_nil Nz.gt_name)))) (by decide) (fun u_1 => (Nz.bj_asg (Nz.ev_call (Nz.ea_1 (Nz.ev_var rfl))) (fun told_3 => (Nz.bj_asg (Nz.ev_l (Nz.el_lc (Nz.ir_iv (Nz.iv_rng1 (Nz.ev_var rfl))) Nz.gt_name (by decide) (fun y4 => Nz.et_yes) (fun y4 => (Nz.ev_callTX (Nz.EffIn.refl _) rfl (Nz.ea_1 (Nz.ev_int (i := 15))))))) (fun times_7 => (Nz.bj_asg (Nz.ev_all (Nz.rl_l (Nz.el_lc (Nz.ir_iv (Nz.iv_tup (Nz.ev_var rfl))) (Nz.gt_tup rfl (Nz.gts_cons Nz.gt_name (fun _ => (Nz.gts_cons Nz.gt_name (fun _ => (Nz.gts_nil Nz.gt_name)))))) (by decide) (fun y8 => Nz.et_yes) (fun y8 => (Nz.ev_B0 (g := fun i j => decide (i ≤ j)) (Nz.ev_I0 (g := fun i j => i - j) (Nz.ev_ixL (Nz.rl_ev (Nz.ev_var rfl)) (Nz.ev_var rfl)) (Nz.ev_ixL (Nz.rl_ev (Nz.ev_var rfl)) (Nz.ev_var rfl))) (Nz.ev_var rfl)))))) (fun due_12 => (Nz.bj_asg (Nz.ev_I0 (g := fun i j => i - j) (Nz.ev_callTX (Nz.EffIn.refl _) rfl (Nz.ea_1 (Nz.ev_int (i := 99)))) (Nz.ev_int (i := 49))) (fun by_14 => (Nz.bj_ifD (Nz.et_or (Nz.et_T (Nz.ev_neB (Nz.ev_call (Nz.ea_c (Nz.ev_var rfl) (Nz.ea_1 (Nz.ev_tupL (Nz.rl_ev (Nz.ev_var rfl)))))) (Nz.ev_var rfl))) (Nz.et_T (Nz.ev_neB (Nz.ev_call (Nz.ea_c (Nz.ev_var rfl) (Nz.ea_1 (Nz.ev_tupL (Nz.rl_l (Nz.el_lc (Nz.ir_iv (Nz.iv_list (Nz.ev_var rfl))) Nz.gt_name (by decide) (fun y17 => Nz.et_yes) (fun y17 => (Nz.ev_I0 (g := fun i j => i + j) (Nz.ev_var rfl) (Nz.ev_var rfl))))))))) (Nz.ev_var rfl)))) (Nz.bj_seq (Nz.bj_ret Nz.ev_bl)) (Nz.bj_seq0 (Nz.bj_ifD (Nz.et_not (Nz.et_B (Nz.ev_call (Nz.ea_1 (Nz.ev_var rfl))))) (Nz.bj_seq (Nz.bj_ret (Nz.ev_not (Nz.ev_var rfl)))) (Nz.bj_seq0 (Nz.bj_asg (Nz.ev_l (Nz.el_nil (r := (rPr (fc rInt (fc rInt (f1 rInt))))))) (fun rows_21 => (Nz.bj_for (fS := (fun (s22 : (List (Int × Int × Int))) => [(slAt pt), (slV (rPr (fc rInt (f1 (rTup (rPr (fc rInt (fc rInt (f1 rInt)))))))) a), (slV rInt u_1.1), (slV (rTup (rPr (fc rInt (fc rInt (f1 rInt))))) u_1.2), (slV (rTup (rTup (rOpt rInt))) told_3), (slV (rLst rInt) times_7), slAny, (slV rBl due_12), slAny, slAny, slAny, (slV rInt by_14), slAny, (slV (rLst (rPr (fc rInt (fc rInt (f1 rInt))))) s22), slAny, slAny, slAny, slAny, slAny, slAny])) (oS := []) (s0 := rows_21) (Nz.iv_rng1 (Nz.ev_var rfl)) (Nz.wk_k rfl (Nz.wk_k rfl (Nz.wk_k rfl (Nz.wk_k rfl (Nz.wk_k rfl (Nz.wk_k rfl (Nz.wk_a (Nz.wk_k rfl (Nz.wk_a (Nz.wk_a (Nz.wk_a (Nz.wk_k rfl (Nz.wk_a (Nz.wk_k rfl (Nz.wk_a (Nz.wk_a (Nz.wk_a (Nz.wk_a (Nz.wk_a (Nz.wk_a Nz.Wks.nil)))))))))))))))))))) (by decide) (fun s22 => Nz.gt_name) (by decide) (fun s22 y23 => (Nz.bj_asg (Nz.ev_l (Nz.el_catL (Nz.rl_ev (Nz.ev_var rfl)) (Nz.rl_l (Nz.el_lc (Nz.ir_iv (Nz.iv_rng1 (Nz.ev_var rfl))) Nz.gt_name (by decide) (fun y24 => (Nz.et_B (Nz.ev_notN (Nz.ev_ixT (Nz.rt_ev (Nz.ev_ixT (Nz.rt_ev (Nz.ev_var rfl)) (Nz.ev_var rfl))) (Nz.ev_var rfl))))) (fun y24 => (Nz.ev_pr (Nz.ea_c (Nz.ev_var rfl) (Nz.ea_c (Nz.ev_var rfl) (Nz.ea_1 (Nz.ev_get (Nz.ev_ixT (Nz.rt_ev (Nz.ev_ixT (Nz.rt_ev (Nz.ev_var rfl)) (Nz.ev_var rfl))) (Nz.ev_var rfl)))))))))))) (fun rows_31 => (Nz.bj_nx (s := rows_31) (Nz.wk_k rfl (Nz.wk_k rfl (Nz.wk_k rfl (Nz.wk_k rfl (Nz.wk_k rfl (Nz.wk_k rfl (Nz.wk_a (Nz.wk_k rfl (Nz.wk_a (Nz.wk_a (Nz.wk_a (Nz.wk_k rfl (Nz.wk_a (Nz.wk_k rfl (Nz.wk_a (Nz.wk_a (Nz.wk_a (Nz.wk_a (Nz.wk_a (Nz.wk_a Nz.Wks.nil)))))))))))))))))))) (by decide))))) (fun s22 => (Nz.bj_asg (Nz.ev_pr (Nz.ea_c (Nz.ev_var rfl) (Nz.ea_1 (Nz.ev_tupL (Nz.rl_ev (Nz.ev_var rfl)))))) (fun wide_32 => (Nz.bj_ifD (Nz.et_or (Nz.et_T (Nz.ev_neD (Nz.da_tup (Nz.da_tup (Nz.da_opt Nz.da_int (fun _ h => nomatch h)))) (Nz.ev_call (Nz.ea_1 (Nz.ev_var rfl))) (Nz.ev_var rfl))) (Nz.et_or (Nz.et_T (Nz.ev_neB (Nz.ev_call (Nz.ea_c (Nz.ev_var rfl) (Nz.ea_1 (Nz.ev_tupL (Nz.rl_ev (Nz.ev_var rfl)))))) (Nz.ev_var rfl))) (Nz.et_T (Nz.ev_neD (Nz.da_opt (Nz.da_tup Nz.da_int) (fun _ h => nomatch h)) (Nz.ev_call (Nz.ea_1 (Nz.ev_var rfl))) (Nz.ev_call (Nz.ea_1 (Nz.ev_var rfl))))))) (Nz.bj_seq (Nz.bj_ret Nz.ev_bl)) (Nz.bj_seq0 (Nz.bj_asg (Nz.ev_call (Nz.ea_1 (Nz.ev_var rfl))) (fun early_39 => (Nz.bj_ifD (Nz.et_and (Nz.et_B (Nz.ev_var rfl)) (Nz.et_B (Nz.ev_any (Nz.rl_l (Nz.el_lc (Nz.ir_iv (Nz.iv_rng1 (Nz.ev_var rfl))) Nz.gt_name (by decide) (fun y40 => Nz.et_yes) (fun y40 => (Nz.ev_B0 (g := fun i j => decide (j < i)) (Nz.ev_ixT (Nz.rt_ev (Nz.ev_get (Nz.ev_var rfl))) (Nz.ev_var rfl)) (Nz.ev_ixL (Nz.rl_ev (Nz.ev_var rfl)) (Nz.ev_var rfl))))))))) (Nz.bj_seq (Nz.bj_ret Nz.ev_bl)) (Nz.bj_seq0 (Nz.bj_asg (Nz.ev_pr (Nz.ea_c (Nz.ev_var rfl) (Nz.ea_1 (Nz.ev_catT (Nz.ev_var rfl) (Nz.ev_tup (r := (rPr (fc rInt (fc rInt (f1 rInt))))) (Nz.as_c (Nz.ev_pr (Nz.ea_c (Nz.ev_callTX (Nz.EffIn.refl _) rfl (Nz.ea_1 (Nz.ev_var rfl))) (Nz.ea_c (Nz.ev_callTX (Nz.EffIn.refl _) rfl (Nz.ea_1 (Nz.ev_var rfl))) (Nz.ea_1 (Nz.ev_I0 (g := fun i j => i - j) (Nz.ev_callTX (Nz.EffIn.refl _) rfl (Nz.ea_1 (Nz.ev_int (i := 20)))) (Nz.ev_int (i := 5))))))) Nz.as_nil)))))) (fun both_49 => (Nz.bj_ifD (Nz.et_not (Nz.et_B (Nz.ev_call (Nz.ea_1 (Nz.ev_var rfl))))) (Nz.bj_seq (Nz.bj_ret Nz.ev_bl)) (Nz.bj_seq0 (Nz.bj_asg (Nz.ev_call (Nz.ea_1 (Nz.ev_var rfl))) (fun less_52 => (Nz.bj_for (fS := (fun (s53 : Unit) => [(slAt pt), (slV (rPr (fc rInt (f1 (rTup (rPr (fc rInt (fc rInt (f1 rInt)))))))) a), (slV rInt u_1.1), (slV (rTup (rPr (fc rInt (fc rInt (f1 rInt))))) u_1.2), (slV (rTup (rTup (rOpt rInt))) told_3), (slV (rLst rInt) times_7), slAny, (slV rBl due_12), slAny, slAny, slAny, (slV rInt by_14), slAny, (slV (rLst (rPr (fc rInt (fc rInt (f1 rInt))))) s22), slAny, slAny, (slV (rPr (fc rInt (f1 (rTup (rPr (fc rInt (fc rInt (f1 rInt)))))))) wide_32), (slV (rOpt (rTup rInt)) early_39), (slV (rPr (fc rInt (f1 (rTup (rPr (fc rInt (fc rInt (f1 rInt)))))))) both_49), (slV (rTup (rTup (rOpt rInt))) less_52)])) (oS := []) (s0 := ()) (Nz.iv_rng1 (Nz.ev_var rfl)) (Nz.wk_k rfl (Nz.wk_k rfl (Nz.wk_k rfl (Nz.wk_k rfl (Nz.wk_k rfl (Nz.wk_k rfl (Nz.wk_a (Nz.wk_k rfl (Nz.wk_a (Nz.wk_a (Nz.wk_a (Nz.wk_k rfl (Nz.wk_a (Nz.wk_k rfl (Nz.wk_a (Nz.wk_a (Nz.wk_k rfl (Nz.wk_k rfl (Nz.wk_k rfl (Nz.wk_k rfl Nz.Wks.nil)))))))))))))))))))) (by decide) (fun s53 => Nz.gt_name) (by decide) (fun s53 y54 => (Nz.bj_for (fS := (fun (s55 : Unit) => [(slAt pt), (slV (rPr (fc rInt (f1 (rTup (rPr (fc rInt (fc rInt (f1 rInt)))))))) a), (slV rInt u_1.1), (slV (rTup (rPr (fc rInt (fc rInt (f1 rInt))))) u_1.2), (slV (rTup (rTup (rOpt rInt))) told_3), (slV (rLst rInt) times_7), slAny, (slV rBl due_12), slAny, slAny, slAny, (slV rInt by_14), slAny, (slV (rLst (rPr (fc rInt (fc rInt (f1 rInt))))) s22), (slV rInt y54), slAny, (slV (rPr (fc rInt (f1 (rTup (rPr (fc rInt (fc rInt (f1 rInt)))))))) wide_32), (slV (rOpt (rTup rInt)) early_39), (slV (rPr (fc rInt (f1 (rTup (rPr (fc rInt (fc rInt (f1 rInt)))))))) both_49), (slV (rTup (rTup (rOpt rInt))) less_52)])) (oS := []) (s0 := ()) (Nz.iv_rng1 (Nz.ev_var rfl)) (Nz.wk_k rfl (Nz.wk_k rfl (Nz.wk_k rfl (Nz.wk_k rfl (Nz.wk_k rfl (Nz.wk_k rfl (Nz.wk_a (Nz.wk_k rfl (Nz.wk_a (Nz.wk_a (Nz.wk_a (Nz.wk_k rfl (Nz.wk_a (Nz.wk_k rfl (Nz.wk_k rfl (Nz.wk_a (Nz.wk_k rfl (Nz.wk_k rfl (Nz.wk_k rfl (Nz.wk_k rfl Nz.Wks.nil)))))))))))))))))))) (by decide) (fun s55 => Nz.gt_name) (by decide) (fun s55 y56 => (Nz.bj_ifD (Nz.et_or (Nz.et_and (Nz.et_B (Nz.ev_isN (Nz.ev_ixT (Nz.rt_ev (Nz.ev_ixT (Nz.rt_ev (Nz.ev_var rfl)) (Nz.ev_var rfl))) (Nz.ev_var rfl)))) (Nz.et_B (Nz.ev_notN (Nz.ev_ixT (Nz.rt_ev (Nz.ev_ixT (Nz.rt_ev (Nz.ev_var rfl)) (Nz.ev_var rfl))) (Nz.ev_var rfl))))) (Nz.et_and (Nz.et_B (Nz.ev_notN (Nz.ev_ixT (Nz.rt_ev (Nz.ev_ixT (Nz.rt_ev (Nz.ev_var rfl)) (Nz.ev_var rfl))) (Nz.ev_var rfl)))) (Nz.et_T (Nz.ev_B0 (g := fun i j => decide (j < i)) (Nz.ev_get (Nz.ev_ixT (Nz.rt_ev (Nz.ev_ixT (Nz.rt_ev (Nz.ev_var rfl)) (Nz.ev_var rfl))) (Nz.ev_var rfl))) (Nz.ev_get (Nz.ev_ixT (Nz.rt_ev (Nz.ev_ixT (Nz.rt_ev (Nz.ev_var rfl)) (Nz.ev_var rfl))) (Nz.ev_var rfl))))))) (Nz.bj_seq (Nz.bj_ret Nz.ev_bl)) (Nz.bj_seq0 (Nz.bj_nx (s := ()) (Nz.wk_k rfl (Nz.wk_k rfl (Nz.wk_k rfl (Nz.wk_k rfl (Nz.wk_k rfl (Nz.wk_k rfl (Nz.wk_a (Nz.wk_k rfl (Nz.wk_a (Nz.wk_a (Nz.wk_a (Nz.wk_k rfl (Nz.wk_a (Nz.wk_k rfl (Nz.wk_k rfl (Nz.wk_a (Nz.wk_k rfl (Nz.wk_k rfl (Nz.wk_k rfl (Nz.wk_k rfl Nz.Wks.nil)))))))))))))))))))) (by decide))))) (fun s55 => (Nz.bj_nx (s := ()) (Nz.wk_k rfl (Nz.wk_k rfl (Nz.wk_k rfl (Nz.wk_k rfl (Nz.wk_k rfl (Nz.wk_k rfl (Nz.wk_a (Nz.wk_k rfl (Nz.wk_a (Nz.wk_a (Nz.wk_a (Nz.wk_k rfl (Nz.wk_a (Nz.wk_k rfl (Nz.wk_a (Nz.wk_a (Nz.wk_k rfl (Nz.wk_k rfl (Nz.wk_k rfl (Nz.wk_k rfl Nz.Wks.nil)))))))))))))))))))) (by decide))))) (fun s53 => (Nz.bj_ret (Nz.ev_all (Nz.rl_l (Nz.el_lc (Nz.ir_iv (Nz.iv_rng1 (Nz.ev_var rfl))) Nz.gt_name (by decide) (fun y72 => Nz.et_yes) (fun y72 => (Nz.ev_B0 (g := fun i j => decide (j ≤ i)) (Nz.ev_ixT (Nz.rt_ev (Nz.ev_get (Nz.ev_call (Nz.ea_1 (Nz.ev_var rfl))))) (Nz.ev_var rfl)) (Nz.ev_ixT (Nz.rt_ev (Nz.ev_get (Nz.ev_var rfl))) (Nz.ev_var rfl))))))))))))))))))))))))))))))))))))))))))) (fun a k => Eq.mp (by kernel_rfl)) h
abbrev s_law_ends_right : Stmt := topS 26
theorem sc_law_ends_right : FnScope ["tape", "net", "many", "bounds", "count", "chosen", "k", "exact", "start", "end", "least", "more", "times", "ends", "due", "wide", "told", "now", "most"] ["tape", "net"] (defScope s_law_ends_right) := ⟨rfl, rfl, rfl, by decide +kernel, rfl, by decide +kernel, by decide +kernel⟩
def m_law_ends_right (a : (Int × (List (Int × Int × Int)))) : Pg Bool := Pg.outG ((pure a : Pg (Int × (List (Int × Int × Int)))) >>= fun u_1 => (Pg.ifG (pure ((decide (u_1.1 < (2 : Int))))) (pure (Ctl.rt true)) (m_law_take (u_1.1 - (1 : Int)) >>= fun r2 => ((pure ((1 : Int) + r2) : Pg Int) >>= fun count_3 => (Pg.ask (-100000 ≤ count_3 ∧ count_3 ≤ 100000) >>= fun _ => (Pg.comp (rg count_3) (fun y4 => pure true) (fun y4 => (m_law_take (u_1.1 - count_3) >>= fun r5 => (m_law_take (9 : Int) >>= fun r6 => (pure ((r5, ((u_1.1 - (1 : Int)) - y4), r6)))))) >>= fun l7 => ((pure l7 : Pg (List (Int × Int × Int))) >>= fun chosen_8 => (Pg.comp chosen_8 (fun y9 => pure true) (fun y9 => (pure ((y9.1, y9.2.1, y9.2.2, y9.2.2)))) >>= fun l10 => ((pure l10 : Pg (List (Int × Int × Int × Int))) >>= fun exact_11 => ((pure u_1.2 : Pg (List (Int × Int × Int))) >>= fun more_12 => ((Pg.forc chosen_8 more_12 (fun y14 s13 => (Pg.ask (([(y14.1, y14.2.1, y14.2.2), (y14.2.1, y14.1, ((0 : Int) - y14.2.2))] : (List (Int × Int × Int))).length ≤ big) >>= fun _ => (Pg.ask ((s13 ++ ([(y14.1, y14.2.1, y14.2.2), (y14.2.1, y14.1, ((0 : Int) - y14.2.2))] : (List (Int × Int × Int)))).length ≤ big) >>= fun _ => ((pure (s13 ++ ([(y14.1, y14.2.1, y14.2.2), (y14.2.1, y14.1, ((0 : Int) - y14.2.2))] : (List (Int × Int × Int)))) : Pg (List (Int × Int × Int))) >>= fun more_15 => (pure (Ctl.nx more_15)))))) : Pg (Ctl Bool Empty (List (Int × Int × Int)))) >>= Pg.seqG (fun s13 => (m_earliest (u_1.1, s13) >>= fun r16 => ((pure r16 : Pg (Option (List Int))) >>= fun times_17 => (Pg.comp chosen_8 (fun y18 => pure true) (fun y18 => (pure (y18.2.1))) >>= fun l19 => ((pure l19 : Pg (List Int)) >>= fun ends_20 => ((Pg.ifG (pure ((times_17).isNone)) (pure ((none : (Option (List (Option Int)))))) (Pg.ask (-100000 ≤ u_1.1 ∧ u_1.1 ≤ 100000) >>= fun _ => (Pg.comp (rg u_1.1) (fun y21 => pure true) (fun y21 => ((Pg.ifG (pure ((decide (y21 ∈ ends_20)))) (pure ((none : (Option Int)))) (Pg.opt times_17 >>= fun o22 => (Pg.opt (atI o22 y21) >>= fun e23 => (pure ((some e23))))) : Pg (Option Int)) >>= fun c24 => (pure (c24)))) >>= fun l25 => (pure ((some l25))))) : Pg (Option (List (Option Int)))) >>= fun c26 => ((pure c26 : Pg (Option (List (Option Int)))) >>= fun due_27 => (m_strong_times (a, exact_11) >>= fun r28 => (Pg.ifG (pure ((!decide (r28 = due_27)))) (pure (Ctl.rt false)) (Pg.comp chosen_8 (fun y29 => pure true) (fun y29 => (m_law_take (4 : Int) >>= fun r30 => (pure ((y29.1, y29.2.1, y29.2.2, (y29.2.2 + r30)))))) >>= fun l31 => ((pure l31 : Pg (List (Int × Int × Int × Int))) >>= fun wide_32 => (m_strong_times (a, wide_32) >>= fun r33 => ((pure r33 : Pg (Option (List (Option Int)))) >>= fun told_34 => (Pg.ifG (pure ((told_34).isNone)) (pure (Ctl.rt true)) (Pg.orG (pure ((due_27).isNone)) (Pg.ask (-100000 ≤ u_1.1 ∧ u_1.1 ≤ 100000) >>= fun _ => (Pg.comp (rg u_1.1) (fun y35 => pure true) (fun y35 => (Pg.andG (Pg.opt due_27 >>= fun o36 => (Pg.opt (atI o36 y35) >>= fun e37 => (pure ((e37).isSome)))) (Pg.opt told_34 >>= fun o38 => (Pg.opt (atI o38 y35) >>= fun e39 => (Pg.opt e39 >>= fun o40 => (Pg.opt due_27 >>= fun o41 => (Pg.opt (atI o41 y35) >>= fun e42 => (Pg.opt e42 >>= fun o43 => (pure ((decide (o40 < o43)))))))))) >>= fun b44 => (pure (b44)))) >>= fun l45 => (pure (((l45).any id))))) >>= fun b46 => (Pg.ifG (pure (b46)) (pure (Ctl.rt false)) (Pg.opt told_34 >>= fun o47 => ((pure o47 : Pg (List (Option Int))) >>= fun now_48 => ((Pg.forc wide_32 now_48 (fun y50 s49 => (Pg.opt (atI s49 y50.1) >>= fun e52 => (Pg.opt e52 >>= fun o53 => (m_law_take ((y50.2.2.2 - y50.2.2.1) + (1 : Int)) >>= fun r54 => (Pg.opt (ixN (s49).length y50.2.1) >>= fun j55 => ((pure ((s49).set j55 (some ((o53 + y50.2.2.1) + r54))) : Pg (List (Option Int))) >>= fun now_51 => (pure (Ctl.nx now_51)))))))) : Pg (Ctl Bool Empty (List (Option Int)))) >>= Pg.seqG (fun s49 => (Pg.opt (Nz.allGet s49) >>= fun o57 => (m_keeps (a, o57) >>= fun r56 => (pure (Ctl.rt (decide (r56 = true)))))))))) : Pg (Ctl Bool Empty Unit))) : Pg (Ctl Bool Empty Unit)))))) : Pg (Ctl Bool Empty Unit))))))))))))))))))) : Pg (Ctl Bool Empty Unit)))
set_option maxHeartbeats 4000000 in
theorem cal_law_ends_right (D : Nz.DefK K mg "_law_ends_right" s_law_ends_right ["tape", "net"]) (md : Md mg) (c__law_take : Nz.Cal P w K mg base 1 "_law_take" (Nz.spTX (K := K) effT (f1 rInt) rInt (fun a => (m_law_take a).wp)) []) (c_earliest : Nz.Cal P w K mg base 3 "earliest" (Nz.spP (K := K) (f1 (rPr (fc rInt (f1 (rTup (rPr (fc rInt (fc rInt (f1 rInt))))))))) (rOpt (rTup rInt)) (fun a => (m_earliest a).wp)) []) (c_keeps : Nz.Cal P w K mg base 2 "keeps" (Nz.spP (K := K) (fc (rPr (fc rInt (f1 (rTup (rPr (fc rInt (fc rInt (f1 rInt)))))))) (f1 (rTup rInt))) rBl (fun a => (m_keeps a).wp)) []) (c_strong_times : Nz.Cal P w K mg base 3 "strong_times" (Nz.spP (K := K) (fc (rPr (fc rInt (f1 (rTup (rPr (fc rInt (fc rInt (f1 rInt)))))))) (f1 (rTup (rPr (fc rInt (fc rInt (fc rInt (f1 rInt)))))))) (rOpt (rTup (rOpt rInt))) (fun a => (m_strong_times a).wp)) []) : Nz.Cal P w K mg base 5 "_law_ends_right" (Nz.spTX (K := K) effT (f1 (rPr (fc rInt (f1 (rTup (rPr (fc rInt (fc rInt (f1 rInt))))))))) rBl (fun a => (m_law_ends_right a).wp)) [] := by
  refine D.cal fun f fd F => F.ok sc_law_ends_right (fun vs H Q E h => Nz.spTX_len h) (fun cdv A outer s H vs Q E hr h => ?_)
  refine ⟨_, (pss_cons (ps_asg (pv 1) (Nz.pg_tupK K 2 rfl (pgs_cons (pg_name (i := 2) sc_law_ends_right.nd rfl (Or.inr rfl) (Or.inl rfl)) (pgs_cons (pg_name (i := 3) sc_law_ends_right.nd rfl (Or.inl rfl) (Or.inr rfl)) pgs_nil)))) (pss_cons (ps_if (pt_cmpR op_lt (pv 2) pe_int (by rfl)) (pss_cons (ps_ret pe_bl) pss_nil) pss_nil) (pss_cons (ps_set (i := 4) sc_law_ends_right.nd rfl (Or.inr rfl) (pe_op op_add pe_int (Nz.pe_c c__law_take hr (by decide) (by rfl) (pa_cons (pv 0) (pa_cons (pe_op op_sub (pv 2) pe_int) pa_nil))))) (pss_cons (ps_setLc (i := 5) rfl sc_law_ends_right.nd rfl rfl (sw_true rfl rfl rfl rfl) (own := [("k", 6)]) (pi_range1 (by rfl) md.range (pa_cons (pv 4) pa_nil)) (blkOk_by (N := ["tape", "net", "many", "bounds", "count", "chosen", "k", "exact", "start", "end", "least", "more", "times", "ends", "due", "wide", "told", "now", "most"]) (sc := (defScope s_law_ends_right)) (by decide +kernel)) (fun _ _ _ _ _ => (pg_name (i := 6) sc_law_ends_right.nd rfl (Or.inl rfl) (Or.inr rfl))) (fun _ _ _ _ _ => pts_nil) (fun _ _ _ _ _ => (pe_tup (pa_cons (Nz.pe_c c__law_take hr (by decide) (by rfl) (pa_cons (pv 0) (pa_cons (pe_op op_sub (pv 2) (pv 4)) pa_nil))) (pa_cons (pe_op op_sub (pe_op op_sub (pv 2) pe_int) (pv 6)) (pa_cons (Nz.pe_c c__law_take hr (by decide) (by rfl) (pa_cons (pv 0) (pa_cons pe_int pa_nil))) pa_nil)))))) (pss_cons (ps_set (i := 7) sc_law_ends_right.nd rfl (Or.inl rfl) (pe_callTy (cr_tupK K) (by rfl) md.tuple (by decide +kernel) (pa_cons (pe_lc (own := [("start", 8), ("end", 9), ("least", 10)]) rfl sc_law_ends_right.nd (pi_lK K (pv 5)) (blkOk_by (N := ["tape", "net", "many", "bounds", "count", "chosen", "k", "exact", "start", "end", "least", "more", "times", "ends", "due", "wide", "told", "now", "most"]) (sc := (defScope s_law_ends_right)) (by decide +kernel)) (fun _ _ _ _ _ => (Nz.pg_tupK K 3 rfl (pgs_cons (pg_name (i := 8) sc_law_ends_right.nd rfl (Or.inl rfl) (Or.inr rfl)) (pgs_cons (pg_name (i := 9) sc_law_ends_right.nd rfl (Or.inl rfl) (Or.inr rfl)) (pgs_cons (pg_name (i := 10) sc_law_ends_right.nd rfl (Or.inl rfl) (Or.inr rfl)) pgs_nil))))) (fun _ _ _ _ _ => pts_nil) (fun _ _ _ _ _ => (pe_tup (pa_cons (pv 8) (pa_cons (pv 9) (pa_cons (pv 10) (pa_cons (pv 10) pa_nil))))))) pa_nil))) (pss_cons (ps_set (i := 11) sc_law_ends_right.nd rfl (Or.inl rfl) (pv 3)) (pss_cons (ps_for PassesOwn.never rfl (pi_lK K (pv 5)) (Nz.pg_tupK K 3 rfl (pgs_cons (pg_name (i := 8) sc_law_ends_right.nd rfl (Or.inl rfl) (Or.inr rfl)) (pgs_cons (pg_name (i := 9) sc_law_ends_right.nd rfl (Or.inl rfl) (Or.inr rfl)) (pgs_cons (pg_name (i := 10) sc_law_ends_right.nd rfl (Or.inl rfl) (Or.inr rfl)) pgs_nil)))) (pss_cons (ps_set (i := 11) sc_law_ends_right.nd rfl (Or.inl rfl) (pe_op (op_catK K) (pv 11) (pe_tup (pa_cons (pe_tup (pa_cons (pv 8) (pa_cons (pv 9) (pa_cons (pv 10) pa_nil)))) (pa_cons (pe_tup (pa_cons (pv 9) (pa_cons (pv 8) (pa_cons (pe_op op_sub pe_int (pv 10)) pa_nil)))) pa_nil))))) pss_nil)) (pss_cons (ps_set (i := 12) sc_law_ends_right.nd rfl (Or.inr rfl) (Nz.pe_c c_earliest hr (by decide) (by rfl) (pa_cons (pe_tup (pa_cons (pv 2) (pa_cons (pv 11) pa_nil))) pa_nil))) (pss_cons (ps_set (i := 13) sc_law_ends_right.nd rfl (Or.inr rfl) (pe_lc (own := [("start", 8), ("end", 9), ("least", 10)]) rfl sc_law_ends_right.nd (pi_lK K (pv 5)) (blkOk_by (N := ["tape", "net", "many", "bounds", "count", "chosen", "k", "exact", "start", "end", "least", "more", "times", "ends", "due", "wide", "told", "now", "most"]) (sc := (defScope s_law_ends_right)) (by decide +kernel)) (fun _ _ _ _ _ => (Nz.pg_tupK K 3 rfl (pgs_cons (pg_name (i := 8) sc_law_ends_right.nd rfl (Or.inl rfl) (Or.inr rfl)) (pgs_cons (pg_name (i := 9) sc_law_ends_right.nd rfl (Or.inl rfl) (Or.inr rfl)) (pgs_cons (pg_name (i := 10) sc_law_ends_right.nd rfl (Or.inl rfl) (Or.inr rfl)) pgs_nil))))) (fun _ _ _ _ _ => pts_nil) (fun _ _ _ _ _ => (pv 9)))) (pss_cons (ps_set (i := 14) sc_law_ends_right.nd rfl (Or.inr rfl) (pe_ifExp (pt_cmp (pc_isN (pv 12))) pe_non (pe_callTy (cr_tupK K) (by rfl) md.tuple (by decide +kernel) (pa_cons (pe_lc (own := [("k", 6)]) rfl sc_law_ends_right.nd (pi_range1 (by rfl) md.range (pa_cons (pv 2) pa_nil)) (blkOk_by (N := ["tape", "net", "many", "bounds", "count", "chosen", "k", "exact", "start", "end", "least", "more", "times", "ends", "due", "wide", "told", "now", "most"]) (sc := (defScope s_law_ends_right)) (by decide +kernel)) (fun _ _ _ _ _ => (pg_name (i := 6) sc_law_ends_right.nd rfl (Or.inl rfl) (Or.inr rfl))) (fun _ _ _ _ _ => pts_nil) (fun _ _ _ _ _ => (pe_ifExp (pt_cmpR (op_inK K) (pv 6) (pv 13) (by rfl)) pe_non (pe_ix (ix_tK K) (pv 12) (pv 6) (fun _ _ => rfl))))) pa_nil)))) (pss_cons (ps_if (pt_cmpR (op_neK K hr.units) (Nz.pe_c c_strong_times hr (by decide) (by rfl) (pa_cons (pv 1) (pa_cons (pv 7) pa_nil))) (pv 14) (by rfl)) (pss_cons (ps_ret pe_bl) pss_nil) pss_nil) (pss_cons (ps_set (i := 15) sc_law_ends_right.nd rfl (Or.inl rfl) (pe_callTy (cr_tupK K) (by rfl) md.tuple (by decide +kernel) (pa_cons (pe_lc (own := [("start", 8), ("end", 9), ("least", 10)]) rfl sc_law_ends_right.nd (pi_lK K (pv 5)) (blkOk_by (N := ["tape", "net", "many", "bounds", "count", "chosen", "k", "exact", "start", "end", "least", "more", "times", "ends", "due", "wide", "told", "now", "most"]) (sc := (defScope s_law_ends_right)) (by decide +kernel)) (fun _ _ _ _ _ => (Nz.pg_tupK K 3 rfl (pgs_cons (pg_name (i := 8) sc_law_ends_right.nd rfl (Or.inl rfl) (Or.inr rfl)) (pgs_cons (pg_name (i := 9) sc_law_ends_right.nd rfl (Or.inl rfl) (Or.inr rfl)) (pgs_cons (pg_name (i := 10) sc_law_ends_right.nd rfl (Or.inl rfl) (Or.inr rfl)) pgs_nil))))) (fun _ _ _ _ _ => pts_nil) (fun _ _ _ _ _ => (pe_tup (pa_cons (pv 8) (pa_cons (pv 9) (pa_cons (pv 10) (pa_cons (pe_op op_add (pv 10) (Nz.pe_c c__law_take hr (by decide) (by rfl) (pa_cons (pv 0) (pa_cons pe_int pa_nil)))) pa_nil))))))) pa_nil))) (pss_cons (ps_set (i := 16) sc_law_ends_right.nd rfl (Or.inr rfl) (Nz.pe_c c_strong_times hr (by decide) (by rfl) (pa_cons (pv 1) (pa_cons (pv 15) pa_nil)))) (pss_cons (ps_if (pt_cmp (pc_isN (pv 16))) (pss_cons (ps_ret pe_bl) pss_nil) pss_nil) (pss_cons (ps_if (PW.pt (pw_or (pt_cmp (pc_isN (pv 14))) (pw_or1 (pt_val (pe_callB (cr_anyK K) (by rfl) md.any (by decide +kernel) (pa_cons (pe_lc (own := [("k", 6)]) rfl sc_law_ends_right.nd (pi_range1 (by rfl) md.range (pa_cons (pv 2) pa_nil)) (blkOk_by (N := ["tape", "net", "many", "bounds", "count", "chosen", "k", "exact", "start", "end", "least", "more", "times", "ends", "due", "wide", "told", "now", "most"]) (sc := (defScope s_law_ends_right)) (by decide +kernel)) (fun _ _ _ _ _ => (pg_name (i := 6) sc_law_ends_right.nd rfl (Or.inl rfl) (Or.inr rfl))) (fun _ _ _ _ _ => pts_nil) (fun _ _ _ _ _ => (pe_and (pe_cmp (pc_notN (pe_ix (ix_tK K) (pv 14) (pv 6) (fun _ _ => rfl)))) (pe_one (pe_cmpR op_lt (pe_ix (ix_tK K) (pv 16) (pv 6) (fun _ _ => rfl)) (pe_ix (ix_tK K) (pv 14) (pv 6) (fun _ _ => rfl)) (by rfl)))))) pa_nil)))))) (pss_cons (ps_ret pe_bl) pss_nil) pss_nil) (pss_cons (ps_set (i := 17) sc_law_ends_right.nd rfl (Or.inl rfl) (pe_callTy (cr_listK K) (by rfl) md.list (by decide +kernel) (pa_cons (pv 16) pa_nil))) (pss_cons (ps_for PassesOwn.never rfl (pi_tK K (pv 15)) (Nz.pg_tupK K 4 rfl (pgs_cons (pg_name (i := 8) sc_law_ends_right.nd rfl (Or.inl rfl) (Or.inr rfl)) (pgs_cons (pg_name (i := 9) sc_law_ends_right.nd rfl (Or.inl rfl) (Or.inr rfl)) (pgs_cons (pg_name (i := 10) sc_law_ends_right.nd rfl (Or.inl rfl) (Or.inr rfl)) (pgs_cons (pg_name (i := 18) sc_law_ends_right.nd rfl (Or.inl rfl) (Or.inr rfl)) pgs_nil))))) (pss_cons (ps_asg (pe_op op_add (pe_op op_add (pe_ix (ix_lK K) (pv 17) (pv 8) (fun _ _ => rfl)) (pv 10)) (Nz.pe_c c__law_take hr (by decide) (by rfl) (pa_cons (pv 0) (pa_cons (pe_op op_add (pe_op op_sub (pv 18) (pv 10)) pe_int) pa_nil)))) (pg_sub (pv 17) (pv 9) set_list)) pss_nil)) (pss_cons (ps_ret (pe_cmpR op_isBl (Nz.pe_c c_keeps hr (by decide) (by rfl) (pa_cons (pv 1) (pa_cons (pe_callTy (cr_tupK K) (by rfl) md.tuple (by decide +kernel) (pa_cons (pv 17) pa_nil)) pa_nil))) pe_bl (by rfl))) pss_nil)))))))))))))))))), ?_⟩
  exact Nz.fnTX (n := 17) Nz.prm_1 rfl (fun pt c a => (Nz.bj_asgG (Nz.ev_var rfl) (Nz.gt_tup rfl (Nz.gts_cons Nz.gt_name (fun _ => (Nz.gts_nil Nz.gt_name)))) (by decide) (fun u_1 => (Nz.bj_ifD (Nz.et_T (Nz.ev_B0 (g := fun i j => decide (i < j)) (Nz.ev_var rfl) (Nz.ev_int (i := 2)))) (Nz.bj_seq (Nz.bj_ret Nz.ev_bl)) (Nz.bj_seq0 (Nz.bj_asg (Nz.ev_I0 (g := fun i j => i + j) (Nz.ev_int (i := 1)) (Nz.ev_callTX (Nz.EffIn.refl _) rfl (Nz.ea_1 (Nz.ev_I0 (g := fun i j => i - j) (Nz.ev_var rfl) (Nz.ev_int (i := 1)))))) (fun count_3 => (Nz.bj_asg (Nz.ev_l (Nz.el_lc (Nz.ir_iv (Nz.iv_rng1 (Nz.ev_var rfl))) Nz.gt_name (by decide) (fun y4 => Nz.et_yes) (fun y4 => (Nz.ev_pr (Nz.ea_c (Nz.ev_callTX (Nz.EffIn.refl _) rfl (Nz.ea_1 (Nz.ev_I0 (g := fun i j => i - j) (Nz.ev_var rfl) (Nz.ev_var rfl)))) (Nz.ea_c (Nz.ev_I0 (g := fun i j => i - j) (Nz.ev_I0 (g := fun i j => i - j) (Nz.ev_var rfl) (Nz.ev_int (i := 1))) (Nz.ev_var rfl)) (Nz.ea_1 (Nz.ev_callTX (Nz.EffIn.refl _) rfl (Nz.ea_1 (Nz.ev_int (i := 9))))))))))) (fun chosen_8 => (Nz.bj_asg (Nz.ev_tupL (Nz.rl_l (Nz.el_lc (Nz.ir_iv (Nz.iv_list (Nz.ev_var rfl))) (Nz.gt_tup rfl (Nz.gts_cons Nz.gt_name (fun _ => (Nz.gts_cons Nz.gt_name (fun _ => (Nz.gts_nil Nz.gt_name)))))) (by decide) (fun y9 => Nz.et_yes) (fun y9 => (Nz.ev_pr (Nz.ea_c (Nz.ev_var rfl) (Nz.ea_c (Nz.ev_var rfl) (Nz.ea_c (Nz.ev_var rfl) (Nz.ea_1 (Nz.ev_var rfl)))))))))) (fun exact_11 => (Nz.bj_asg (Nz.ev_var rfl) (fun more_12 => (Nz.bj_for (fS := (fun (s13 : (List (Int × Int × Int))) => [(slAt pt), (slV (rPr (fc rInt (f1 (rTup (rPr (fc rInt (fc rInt (f1 rInt)))))))) a), (slV rInt u_1.1), (slV (rTup (rPr (fc rInt (fc rInt (f1 rInt))))) u_1.2), (slV rInt count_3), (slV (rLst (rPr (fc rInt (fc rInt (f1 rInt))))) chosen_8), slAny, (slV (rTup (rPr (fc rInt (fc rInt (fc rInt (f1 rInt)))))) exact_11), slAny, slAny, slAny, (slV (rTup (rPr (fc rInt (fc rInt (f1 rInt))))) s13), slAny, slAny, slAny, slAny, slAny, slAny, slAny])) (oS := []) (s0 := more_12) (Nz.iv_list (Nz.ev_var rfl)) (Nz.wk_k rfl (Nz.wk_k rfl (Nz.wk_k rfl (Nz.wk_k rfl (Nz.wk_k rfl (Nz.wk_k rfl (Nz.wk_a (Nz.wk_k rfl (Nz.wk_a (Nz.wk_a (Nz.wk_a (Nz.wk_k rfl (Nz.wk_a (Nz.wk_a (Nz.wk_a (Nz.wk_a (Nz.wk_a (Nz.wk_a (Nz.wk_a Nz.Wks.nil))))))))))))))))))) (by decide) (fun s13 => (Nz.gt_tup rfl (Nz.gts_cons Nz.gt_name (fun _ => (Nz.gts_cons Nz.gt_name (fun _ => (Nz.gts_nil Nz.gt_name))))))) (by decide) (fun s13 y14 => (Nz.bj_asg (Nz.ev_catT (Nz.ev_var rfl) (Nz.ev_tup (r := (rPr (fc rInt (fc rInt (f1 rInt))))) (Nz.as_c (Nz.ev_pr (Nz.ea_c (Nz.ev_var rfl) (Nz.ea_c (Nz.ev_var rfl) (Nz.ea_1 (Nz.ev_var rfl))))) (Nz.as_c (Nz.ev_pr (Nz.ea_c (Nz.ev_var rfl) (Nz.ea_c (Nz.ev_var rfl) (Nz.ea_1 (Nz.ev_I0 (g := fun i j => i - j) (Nz.ev_int (i := 0)) (Nz.ev_var rfl)))))) Nz.as_nil)))) (fun more_15 => (Nz.bj_nx (s := more_15) (Nz.wk_k rfl (Nz.wk_k rfl (Nz.wk_k rfl (Nz.wk_k rfl (Nz.wk_k rfl (Nz.wk_k rfl (Nz.wk_a (Nz.wk_k rfl (Nz.wk_a (Nz.wk_a (Nz.wk_a (Nz.wk_k rfl (Nz.wk_a (Nz.wk_a (Nz.wk_a (Nz.wk_a (Nz.wk_a (Nz.wk_a (Nz.wk_a Nz.Wks.nil))))))))))))))))))) (by decide))))) (fun s13 => (Nz.bj_asg (Nz.ev_call (Nz.ea_1 (Nz.ev_pr (Nz.ea_c (Nz.ev_var rfl) (Nz.ea_1 (Nz.ev_var rfl)))))) (fun times_17 => (Nz.bj_asg (Nz.ev_l (Nz.el_lc (Nz.ir_iv (Nz.iv_list (Nz.ev_var rfl))) (Nz.gt_tup rfl (Nz.gts_cons Nz.gt_name (fun _ => (Nz.gts_cons Nz.gt_name (fun _ => (Nz.gts_nil Nz.gt_name)))))) (by decide) (fun y18 => Nz.et_yes) (fun y18 => (Nz.ev_var rfl)))) (fun ends_20 => (Nz.bj_asg (Nz.ev_if (Nz.et_B (Nz.ev_isN (Nz.ev_var rfl))) (Nz.ev_none (r := (rTup (rOpt rInt)))) (Nz.ev_some Nz.nn_tup (Nz.ev_tupL (Nz.rl_l (Nz.el_lc (Nz.ir_iv (Nz.iv_rng1 (Nz.ev_var rfl))) Nz.gt_name (by decide) (fun y21 => Nz.et_yes) (fun y21 => (Nz.ev_if (Nz.et_T (Nz.ev_inS Nz.fe_int (Nz.ev_var rfl) (Nz.rs_l (Nz.rl_ev (Nz.ev_var rfl))))) (Nz.ev_none (r := rInt)) (Nz.ev_some Nz.nn_int (Nz.ev_ixT (Nz.rt_ev (Nz.ev_get (Nz.ev_var rfl))) (Nz.ev_var rfl)))))))))) (fun due_27 => (Nz.bj_ifD (Nz.et_T (Nz.ev_neD (Nz.da_opt (Nz.da_tup (Nz.da_opt Nz.da_int (fun _ h => nomatch h))) (fun _ h => nomatch h)) (Nz.ev_call (Nz.ea_c (Nz.ev_var rfl) (Nz.ea_1 (Nz.ev_var rfl)))) (Nz.ev_var rfl))) (Nz.bj_seq (Nz.bj_ret Nz.ev_bl)) (Nz.bj_seq0 (Nz.bj_asg (Nz.ev_tupL (Nz.rl_l (Nz.el_lc (Nz.ir_iv (Nz.iv_list (Nz.ev_var rfl))) (Nz.gt_tup rfl (Nz.gts_cons Nz.gt_name (fun _ => (Nz.gts_cons Nz.gt_name (fun _ => (Nz.gts_nil Nz.gt_name)))))) (by decide) (fun y29 => Nz.et_yes) (fun y29 => (Nz.ev_pr (Nz.ea_c (Nz.ev_var rfl) (Nz.ea_c (Nz.ev_var rfl) (Nz.ea_c (Nz.ev_var rfl) (Nz.ea_1 (Nz.ev_I0 (g := fun i j => i + j) (Nz.ev_var rfl) (Nz.ev_callTX (Nz.EffIn.refl _) rfl (Nz.ea_1 (Nz.ev_int (i := 4)))))))))))))) (fun wide_32 => (Nz.bj_asg (Nz.ev_call (Nz.ea_c (Nz.ev_var rfl) (Nz.ea_1 (Nz.ev_var rfl)))) (fun told_34 => (Nz.bj_ifD (Nz.et_B (Nz.ev_isN (Nz.ev_var rfl))) (Nz.bj_seq (Nz.bj_ret Nz.ev_bl)) (Nz.bj_seq0 (Nz.bj_ifD (Nz.et_or (Nz.et_B (Nz.ev_isN (Nz.ev_var rfl))) (Nz.et_B (Nz.ev_any (Nz.rl_l (Nz.el_lc (Nz.ir_iv (Nz.iv_rng1 (Nz.ev_var rfl))) Nz.gt_name (by decide) (fun y35 => Nz.et_yes) (fun y35 => (Nz.ev_and (Nz.ev_notN (Nz.ev_ixT (Nz.rt_ev (Nz.ev_get (Nz.ev_var rfl))) (Nz.ev_var rfl))) (Nz.ev_B0 (g := fun i j => decide (i < j)) (Nz.ev_get (Nz.ev_ixT (Nz.rt_ev (Nz.ev_get (Nz.ev_var rfl))) (Nz.ev_var rfl))) (Nz.ev_get (Nz.ev_ixT (Nz.rt_ev (Nz.ev_get (Nz.ev_var rfl))) (Nz.ev_var rfl))))))))))) (Nz.bj_seq (Nz.bj_ret Nz.ev_bl)) (Nz.bj_seq0 (Nz.bj_asgL (Nz.el_list (Nz.rs_t (Nz.rt_ev (Nz.ev_get (Nz.ev_var rfl))))) (of_decide_eq_true rfl) (fun now_48 => (Nz.bj_for (fS := (fun (s49 : (List (Option Int))) => [(slAt pt), (slV (rPr (fc rInt (f1 (rTup (rPr (fc rInt (fc rInt (f1 rInt)))))))) a), (slV rInt u_1.1), (slV (rTup (rPr (fc rInt (fc rInt (f1 rInt))))) u_1.2), (slV rInt count_3), (slV (rLst (rPr (fc rInt (fc rInt (f1 rInt))))) chosen_8), slAny, (slV (rTup (rPr (fc rInt (fc rInt (fc rInt (f1 rInt)))))) exact_11), slAny, slAny, slAny, (slV (rTup (rPr (fc rInt (fc rInt (f1 rInt))))) s13), (slV (rOpt (rTup rInt)) times_17), (slV (rLst rInt) ends_20), (slV (rOpt (rTup (rOpt rInt))) due_27), (slV (rTup (rPr (fc rInt (fc rInt (fc rInt (f1 rInt)))))) wide_32), (slV (rOpt (rTup (rOpt rInt))) told_34), (slL (rOpt rInt) s49), slAny])) (oS := [17]) (s0 := now_48) (Nz.iv_tup (Nz.ev_var rfl)) (Nz.wk_k rfl (Nz.wk_k rfl (Nz.wk_k rfl (Nz.wk_k rfl (Nz.wk_k rfl (Nz.wk_k rfl (Nz.wk_a (Nz.wk_k rfl (Nz.wk_a (Nz.wk_a (Nz.wk_a (Nz.wk_k rfl (Nz.wk_k rfl (Nz.wk_k rfl (Nz.wk_k rfl (Nz.wk_k rfl (Nz.wk_k rfl (Nz.wk_o (by decide) (Nz.wk_a Nz.Wks.nil))))))))))))))))))) (by decide) (fun s49 => (Nz.gt_tup rfl (Nz.gts_cons Nz.gt_name (fun _ => (Nz.gts_cons Nz.gt_name (fun _ => (Nz.gts_cons Nz.gt_name (fun _ => (Nz.gts_nil Nz.gt_name))))))))) (by decide) (fun s49 y50 => (Nz.bj_setL (by decide) rfl (Nz.ev_var rfl) (Nz.ev_some Nz.nn_int (Nz.ev_I0 (g := fun i j => i + j) (Nz.ev_I0 (g := fun i j => i + j) (Nz.ev_get (Nz.ev_ixL (Nz.rl_own rfl) (Nz.ev_var rfl))) (Nz.ev_var rfl)) (Nz.ev_callTX (Nz.EffIn.refl _) rfl (Nz.ea_1 (Nz.ev_I0 (g := fun i j => i + j) (Nz.ev_I0 (g := fun i j => i - j) (Nz.ev_var rfl) (Nz.ev_var rfl)) (Nz.ev_int (i := 1))))))) (fun now_51 => (Nz.bj_nx (s := now_51) (Nz.wk_k rfl (Nz.wk_k rfl (Nz.wk_k rfl (Nz.wk_k rfl (Nz.wk_k rfl (Nz.wk_k rfl (Nz.wk_a (Nz.wk_k rfl (Nz.wk_a (Nz.wk_a (Nz.wk_a (Nz.wk_k rfl (Nz.wk_k rfl (Nz.wk_k rfl (Nz.wk_k rfl (Nz.wk_k rfl (Nz.wk_k rfl (Nz.wk_o (by decide) (Nz.wk_a Nz.Wks.nil))))))))))))))))))) (by decide))))) (fun s49 => (Nz.bj_frzL (i := 17) (by decide) rfl (Nz.bj_ret (Nz.ev_isB (Nz.ev_call (Nz.ea_c (Nz.ev_var rfl) (Nz.ea_1 (Nz.ev_getT (Nz.ev_tupL (Nz.rl_ev (Nz.ev_var rfl))))))) Nz.ev_bl)))))))))))))))))))))))))))))))))))))) (fun a k => Eq.mp (by kernel_rfl)) h
abbrev s_law_joined_right : Stmt := topS 25
theorem sc_law_joined_right : FnScope ["one", "other", "step", "bounds", "a", "b", "most", "net", "first", "second", "told", "i", "j"] ["one", "other"] (defScope s_law_joined_right) := ⟨rfl, rfl, rfl, by decide +kernel, rfl, by decide +kernel, by decide +kernel⟩
def m_law_joined_right (a : ((Int × (List (Int × Int × Int))) × (Int × (List (Int × Int × Int))))) : Pg Bool := Pg.outG ((pure (a.1.1 - (1 : Int)) : Pg Int) >>= fun step_1 => (Pg.comp a.2.2 (fun y2 => pure true) (fun y2 => (pure (((y2.1 + step_1), (y2.2.1 + step_1), y2.2.2)))) >>= fun l3 => (Pg.ask ((a.1.2 ++ l3).length ≤ big) >>= fun _ => ((pure (a.1.2 ++ l3) : Pg (List (Int × Int × Int))) >>= fun bounds_4 => ((pure ((step_1 + a.2.1), bounds_4) : Pg (Int × (List (Int × Int × Int)))) >>= fun net_5 => (m_fits net_5 >>= fun r6 => (Pg.andG (m_fits a.1 >>= fun r7 => (pure (r7))) (m_fits a.2 >>= fun r8 => (pure (r8))) >>= fun b9 => (Pg.ifG (pure ((!decide (r6 = b9)))) (pure (Ctl.rt false)) (m_fits net_5 >>= fun r10 => (Pg.ifG (pure ((!r10))) (m_bad_circle net_5 >>= fun r12 => (Pg.opt r12 >>= fun o13 => (m_takes_circle (net_5, o13) >>= fun r11 => (pure (Ctl.rt (decide (r11 = true))))))) (m_closed_net a.1 >>= fun r14 => ((pure r14 : Pg (List (List (Option Int)))) >>= fun first_15 => (m_closed_net a.2 >>= fun r16 => ((pure r16 : Pg (List (List (Option Int)))) >>= fun second_17 => (m_closed_net net_5 >>= fun r18 => ((pure r18 : Pg (List (List (Option Int)))) >>= fun told_19 => (Pg.ask (-100000 ≤ a.1.1 ∧ a.1.1 ≤ 100000) >>= fun _ => ((Pg.forc (rg a.1.1) () (fun y21 s20 => (Pg.opt (atI told_19 y21) >>= fun e22 => (Pg.opt (atI first_15 y21) >>= fun e23 => (Pg.ifG (pure ((!decide ((cut e22 none (some a.1.1)) = e23)))) (pure (Ctl.rt false)) (Pg.ask (-100000 ≤ a.2.1 ∧ a.2.1 ≤ 100000) >>= fun _ => ((Pg.forc (rg a.2.1) () (fun y25 s24 => (Pg.orG (Pg.opt (atI told_19 y21) >>= fun e26 => (Pg.opt (atI e26 (step_1 + y25)) >>= fun e27 => (Pg.opt (atI first_15 y21) >>= fun e29 => (Pg.opt (atI e29 step_1) >>= fun e30 => (Pg.opt (atI second_17 (0 : Int)) >>= fun e31 => (Pg.opt (atI e31 y25) >>= fun e32 => (m_law_sum (e30, e32) >>= fun r28 => (pure ((!decide (e27 = r28))))))))))) (Pg.opt (atI told_19 (step_1 + y25)) >>= fun e33 => (Pg.opt (atI e33 y21) >>= fun e34 => (Pg.opt (atI second_17 y25) >>= fun e36 => (Pg.opt (atI e36 (0 : Int)) >>= fun e37 => (Pg.opt (atI first_15 step_1) >>= fun e38 => (Pg.opt (atI e38 y21) >>= fun e39 => (m_law_sum (e37, e39) >>= fun r35 => (pure ((!decide (e34 = r35))))))))))) >>= fun b40 => (Pg.ifG (pure (b40)) (pure (Ctl.rt false)) (pure (Ctl.nx ())) : Pg (Ctl Bool Unit Unit)))) : Pg (Ctl Bool Unit Unit)) >>= Pg.seqG (fun s24 => (pure (Ctl.nx ()))))) : Pg (Ctl Bool Unit Unit))))) : Pg (Ctl Bool Empty Unit)) >>= Pg.seqG (fun s20 => (Pg.ask (-100000 ≤ a.2.1 ∧ a.2.1 ≤ 100000) >>= fun _ => (Pg.comp (rg a.2.1) (fun y41 => pure true) (fun y41 => (Pg.opt (atI told_19 (step_1 + y41)) >>= fun e42 => (Pg.opt (atI second_17 y41) >>= fun e43 => (pure ((decide ((cut e42 (some step_1) none) = e43))))))) >>= fun l44 => (pure (Ctl.rt ((l44).all id)))))))))))))) : Pg (Ctl Bool Empty Unit))) : Pg (Ctl Bool Empty Unit)))))))))
set_option maxHeartbeats 4000000 in
theorem cal_law_joined_right (D : Nz.DefK K mg "_law_joined_right" s_law_joined_right ["one", "other"]) (md : Md mg) (c__law_sum : Nz.Cal P w K mg base 1 "_law_sum" (Nz.spP (K := K) (fc (rOpt rInt) (f1 (rOpt rInt))) (rOpt rInt) (fun a => (m_law_sum a).wp)) []) (c_bad_circle : Nz.Cal P w K mg base 4 "bad_circle" (Nz.spP (K := K) (f1 (rPr (fc rInt (f1 (rTup (rPr (fc rInt (fc rInt (f1 rInt))))))))) (rOpt (rTup rInt)) (fun a => (m_bad_circle a).wp)) []) (c_closed_net : Nz.Cal P w K mg base 2 "closed_net" (Nz.spP (K := K) (f1 (rPr (fc rInt (f1 (rTup (rPr (fc rInt (fc rInt (f1 rInt))))))))) (rTup (rTup (rOpt rInt))) (fun a => (m_closed_net a).wp)) []) (c_fits : Nz.Cal P w K mg base 3 "fits" (Nz.spP (K := K) (f1 (rPr (fc rInt (f1 (rTup (rPr (fc rInt (fc rInt (f1 rInt))))))))) rBl (fun a => (m_fits a).wp)) []) (c_takes_circle : Nz.Cal P w K mg base 2 "takes_circle" (Nz.spP (K := K) (fc (rPr (fc rInt (f1 (rTup (rPr (fc rInt (fc rInt (f1 rInt)))))))) (f1 (rTup rInt))) rBl (fun a => (m_takes_circle a).wp)) []) : Nz.Cal P w K mg base 5 "_law_joined_right" (Nz.spP (K := K) (fc (rPr (fc rInt (f1 (rTup (rPr (fc rInt (fc rInt (f1 rInt)))))))) (f1 (rPr (fc rInt (f1 (rTup (rPr (fc rInt (fc rInt (f1 rInt)))))))))) rBl (fun a => (m_law_joined_right a).wp)) [] := by
  refine D.cal fun f fd F => F.ok sc_law_joined_right (fun vs H Q E h => Nz.spP_len h) (fun cdv A outer s H vs Q E hr h => ?_)
  refine ⟨_, (pss_cons (ps_set (i := 2) sc_law_joined_right.nd rfl (Or.inr rfl) (pe_op op_sub (pe_ix (ix_tK K) (pv 0) pe_int (fun _ _ => rfl)) pe_int)) (pss_cons (ps_set (i := 3) sc_law_joined_right.nd rfl (Or.inl rfl) (pe_op (op_catK K) (pe_ix (ix_tK K) (pv 0) pe_int (fun _ _ => rfl)) (pe_callTy (cr_tupK K) (by rfl) md.tuple (by decide +kernel) (pa_cons (pe_lc (own := [("a", 4), ("b", 5), ("most", 6)]) rfl sc_law_joined_right.nd (pi_tK K (pe_ix (ix_tK K) (pv 1) pe_int (fun _ _ => rfl))) (blkOk_by (N := ["one", "other", "step", "bounds", "a", "b", "most", "net", "first", "second", "told", "i", "j"]) (sc := (defScope s_law_joined_right)) (by decide +kernel)) (fun _ _ _ _ _ => (Nz.pg_tupK K 3 rfl (pgs_cons (pg_name (i := 4) sc_law_joined_right.nd rfl (Or.inl rfl) (Or.inr rfl)) (pgs_cons (pg_name (i := 5) sc_law_joined_right.nd rfl (Or.inl rfl) (Or.inr rfl)) (pgs_cons (pg_name (i := 6) sc_law_joined_right.nd rfl (Or.inl rfl) (Or.inr rfl)) pgs_nil))))) (fun _ _ _ _ _ => pts_nil) (fun _ _ _ _ _ => (pe_tup (pa_cons (pe_op op_add (pv 4) (pv 2)) (pa_cons (pe_op op_add (pv 5) (pv 2)) (pa_cons (pv 6) pa_nil)))))) pa_nil)))) (pss_cons (ps_set (i := 7) sc_law_joined_right.nd rfl (Or.inl rfl) (pe_tup (pa_cons (pe_op op_add (pv 2) (pe_ix (ix_tK K) (pv 1) pe_int (fun _ _ => rfl))) (pa_cons (pv 3) pa_nil)))) (pss_cons (ps_if (pt_cmpR op_ne (Nz.pe_c c_fits hr (by decide) (by rfl) (pa_cons (pv 7) pa_nil)) (pe_and (Nz.pe_c c_fits hr (by decide) (by rfl) (pa_cons (pv 0) pa_nil)) (pe_one (Nz.pe_c c_fits hr (by decide) (by rfl) (pa_cons (pv 1) pa_nil)))) (by rfl)) (pss_cons (ps_ret pe_bl) pss_nil) pss_nil) (pss_cons (ps_if (pt_not (pt_val (Nz.pe_c c_fits hr (by decide) (by rfl) (pa_cons (pv 7) pa_nil)))) (pss_cons (ps_ret (pe_cmpR op_isBl (Nz.pe_c c_takes_circle hr (by decide) (by rfl) (pa_cons (pv 7) (pa_cons (Nz.pe_c c_bad_circle hr (by decide) (by rfl) (pa_cons (pv 7) pa_nil)) pa_nil))) pe_bl (by rfl))) pss_nil) pss_nil) (pss_cons (ps_asg (pe_tup (pa_cons (Nz.pe_c c_closed_net hr (by decide) (by rfl) (pa_cons (pv 0) pa_nil)) (pa_cons (Nz.pe_c c_closed_net hr (by decide) (by rfl) (pa_cons (pv 1) pa_nil)) (pa_cons (Nz.pe_c c_closed_net hr (by decide) (by rfl) (pa_cons (pv 7) pa_nil)) pa_nil)))) (Nz.pg_tupK K 3 rfl (pgs_cons (pg_name (i := 8) sc_law_joined_right.nd rfl (Or.inl rfl) (Or.inr rfl)) (pgs_cons (pg_name (i := 9) sc_law_joined_right.nd rfl (Or.inr rfl) (Or.inl rfl)) (pgs_cons (pg_name (i := 10) sc_law_joined_right.nd rfl (Or.inr rfl) (Or.inl rfl)) pgs_nil))))) (pss_cons (ps_for PassesOwn.never rfl (pi_range1 (by rfl) md.range (pa_cons (pe_ix (ix_tK K) (pv 0) pe_int (fun _ _ => rfl)) pa_nil)) (pg_name (i := 11) sc_law_joined_right.nd rfl (Or.inl rfl) (Or.inr rfl)) (pss_cons (ps_if (pt_cmpR (op_neK K hr.units) (pe_slice (sl_tK K) (pe_ix (ix_tK K) (pv 10) (pv 11) (fun _ _ => rfl)) po_none (po_some (pe_ix (ix_tK K) (pv 0) pe_int (fun _ _ => rfl)))) (pe_ix (ix_tK K) (pv 8) (pv 11) (fun _ _ => rfl)) (by rfl)) (pss_cons (ps_ret pe_bl) pss_nil) pss_nil) (pss_cons (ps_for PassesOwn.never rfl (pi_range1 (by rfl) md.range (pa_cons (pe_ix (ix_tK K) (pv 1) pe_int (fun _ _ => rfl)) pa_nil)) (pg_name (i := 12) sc_law_joined_right.nd rfl (Or.inl rfl) (Or.inr rfl)) (pss_cons (ps_if (PW.pt (pw_or (pt_cmpR (op_neK K hr.units) (pe_ix (ix_tK K) (pe_ix (ix_tK K) (pv 10) (pv 11) (fun _ _ => rfl)) (pe_op op_add (pv 2) (pv 12)) (fun _ _ => rfl)) (Nz.pe_c c__law_sum hr (by decide) (by rfl) (pa_cons (pe_ix (ix_tK K) (pe_ix (ix_tK K) (pv 8) (pv 11) (fun _ _ => rfl)) (pv 2) (fun _ _ => rfl)) (pa_cons (pe_ix (ix_tK K) (pe_ix (ix_tK K) (pv 9) pe_int (fun _ _ => rfl)) (pv 12) (fun _ _ => rfl)) pa_nil))) (by rfl)) (pw_or1 (pt_cmpR (op_neK K hr.units) (pe_ix (ix_tK K) (pe_ix (ix_tK K) (pv 10) (pe_op op_add (pv 2) (pv 12)) (fun _ _ => rfl)) (pv 11) (fun _ _ => rfl)) (Nz.pe_c c__law_sum hr (by decide) (by rfl) (pa_cons (pe_ix (ix_tK K) (pe_ix (ix_tK K) (pv 9) (pv 12) (fun _ _ => rfl)) pe_int (fun _ _ => rfl)) (pa_cons (pe_ix (ix_tK K) (pe_ix (ix_tK K) (pv 8) (pv 2) (fun _ _ => rfl)) (pv 11) (fun _ _ => rfl)) pa_nil))) (by rfl))))) (pss_cons (ps_ret pe_bl) pss_nil) pss_nil) pss_nil)) pss_nil))) (pss_cons (ps_ret (pe_callB (cr_allK K) (by rfl) md.all (by decide +kernel) (pa_cons (pe_lc (own := [("i", 11)]) rfl sc_law_joined_right.nd (pi_range1 (by rfl) md.range (pa_cons (pe_ix (ix_tK K) (pv 1) pe_int (fun _ _ => rfl)) pa_nil)) (blkOk_by (N := ["one", "other", "step", "bounds", "a", "b", "most", "net", "first", "second", "told", "i", "j"]) (sc := (defScope s_law_joined_right)) (by decide +kernel)) (fun _ _ _ _ _ => (pg_name (i := 11) sc_law_joined_right.nd rfl (Or.inl rfl) (Or.inr rfl))) (fun _ _ _ _ _ => pts_nil) (fun _ _ _ _ _ => (pe_cmpR (op_eqK K hr.units) (pe_slice (sl_tK K) (pe_ix (ix_tK K) (pv 10) (pe_op op_add (pv 2) (pv 11)) (fun _ _ => rfl)) (po_some (pv 2)) po_none) (pe_ix (ix_tK K) (pv 9) (pv 11) (fun _ _ => rfl)) (by rfl)))) pa_nil))) pss_nil)))))))), ?_⟩
  exact Nz.fnP (n := 11) (Nz.prm_c Nz.prm_1) rfl (fun a => (Nz.bj_asg (Nz.ev_I0 (g := fun i j => i - j) (Nz.ev_fld (i := 0) Nz.fld_0 (Nz.ev_var rfl)) (Nz.ev_int (i := 1))) (fun step_1 => (Nz.bj_asg (Nz.ev_catT (Nz.ev_fld (i := 1) (Nz.fld_s (n := 0) Nz.fld_one) (Nz.ev_var rfl)) (Nz.ev_tupL (Nz.rl_l (Nz.el_lc (Nz.ir_iv (Nz.iv_tup (Nz.ev_fld (i := 1) (Nz.fld_s (n := 0) Nz.fld_one) (Nz.ev_var rfl)))) (Nz.gt_tup rfl (Nz.gts_cons Nz.gt_name (fun _ => (Nz.gts_cons Nz.gt_name (fun _ => (Nz.gts_nil Nz.gt_name)))))) (by decide) (fun y2 => Nz.et_yes) (fun y2 => (Nz.ev_pr (Nz.ea_c (Nz.ev_I0 (g := fun i j => i + j) (Nz.ev_var rfl) (Nz.ev_var rfl)) (Nz.ea_c (Nz.ev_I0 (g := fun i j => i + j) (Nz.ev_var rfl) (Nz.ev_var rfl)) (Nz.ea_1 (Nz.ev_var rfl)))))))))) (fun bounds_4 => (Nz.bj_asg (Nz.ev_pr (Nz.ea_c (Nz.ev_I0 (g := fun i j => i + j) (Nz.ev_var rfl) (Nz.ev_fld (i := 0) Nz.fld_0 (Nz.ev_var rfl))) (Nz.ea_1 (Nz.ev_var rfl)))) (fun net_5 => (Nz.bj_ifD (Nz.et_T (Nz.ev_neB (Nz.ev_call (Nz.ea_1 (Nz.ev_var rfl))) (Nz.ev_and (Nz.ev_call (Nz.ea_1 (Nz.ev_var rfl))) (Nz.ev_call (Nz.ea_1 (Nz.ev_var rfl)))))) (Nz.bj_seq (Nz.bj_ret Nz.ev_bl)) (Nz.bj_seq0 (Nz.bj_ifD (Nz.et_not (Nz.et_B (Nz.ev_call (Nz.ea_1 (Nz.ev_var rfl))))) (Nz.bj_seq (Nz.bj_ret (Nz.ev_isB (Nz.ev_call (Nz.ea_c (Nz.ev_var rfl) (Nz.ea_1 (Nz.ev_get (Nz.ev_call (Nz.ea_1 (Nz.ev_var rfl))))))) Nz.ev_bl))) (Nz.bj_seq0 (Nz.bj_tup3 (Nz.us_v (Nz.ev_call (Nz.ea_1 (Nz.ev_var rfl)))) (Nz.us_v (Nz.ev_call (Nz.ea_1 (Nz.ev_var rfl)))) (Nz.us_v (Nz.ev_call (Nz.ea_1 (Nz.ev_var rfl)))) (of_decide_eq_true rfl) (of_decide_eq_true rfl) (of_decide_eq_true rfl) (fun first_15 second_17 told_19 => (Nz.bj_for (fS := (fun (s20 : Unit) => [(slV (rPr (fc rInt (f1 (rTup (rPr (fc rInt (fc rInt (f1 rInt)))))))) a.1), (slV (rPr (fc rInt (f1 (rTup (rPr (fc rInt (fc rInt (f1 rInt)))))))) a.2), (slV rInt step_1), (slV (rTup (rPr (fc rInt (fc rInt (f1 rInt))))) bounds_4), slAny, slAny, slAny, (slV (rPr (fc rInt (f1 (rTup (rPr (fc rInt (fc rInt (f1 rInt)))))))) net_5), (slV (rTup (rTup (rOpt rInt))) first_15), (slV (rTup (rTup (rOpt rInt))) second_17), (slV (rTup (rTup (rOpt rInt))) told_19), slAny, slAny])) (oS := []) (s0 := ()) (Nz.iv_rng1 (Nz.ev_fld (i := 0) Nz.fld_0 (Nz.ev_var rfl))) (Nz.wk_k rfl (Nz.wk_k rfl (Nz.wk_k rfl (Nz.wk_k rfl (Nz.wk_a (Nz.wk_a (Nz.wk_a (Nz.wk_k rfl (Nz.wk_k rfl (Nz.wk_k rfl (Nz.wk_k rfl (Nz.wk_a (Nz.wk_a Nz.Wks.nil))))))))))))) (by decide) (fun s20 => Nz.gt_name) (by decide) (fun s20 y21 => (Nz.bj_ifD (Nz.et_T (Nz.ev_neD (Nz.da_tup (Nz.da_opt Nz.da_int (fun _ h => nomatch h))) (Nz.ev_slT (Nz.ev_ixT (Nz.rt_ev (Nz.ev_var rfl)) (Nz.ev_var rfl)) Nz.po_no (Nz.po_yes (Nz.ev_fld (i := 0) Nz.fld_0 (Nz.ev_var rfl)))) (Nz.ev_ixT (Nz.rt_ev (Nz.ev_var rfl)) (Nz.ev_var rfl)))) (Nz.bj_seq (Nz.bj_ret Nz.ev_bl)) (Nz.bj_seq0 (Nz.bj_for (fS := (fun (s24 : Unit) => [(slV (rPr (fc rInt (f1 (rTup (rPr (fc rInt (fc rInt (f1 rInt)))))))) a.1), (slV (rPr (fc rInt (f1 (rTup (rPr (fc rInt (fc rInt (f1 rInt)))))))) a.2), (slV rInt step_1), (slV (rTup (rPr (fc rInt (fc rInt (f1 rInt))))) bounds_4), slAny, slAny, slAny, (slV (rPr (fc rInt (f1 (rTup (rPr (fc rInt (fc rInt (f1 rInt)))))))) net_5), (slV (rTup (rTup (rOpt rInt))) first_15), (slV (rTup (rTup (rOpt rInt))) second_17), (slV (rTup (rTup (rOpt rInt))) told_19), (slV rInt y21), slAny])) (oS := []) (s0 := ()) (Nz.iv_rng1 (Nz.ev_fld (i := 0) Nz.fld_0 (Nz.ev_var rfl))) (Nz.wk_k rfl (Nz.wk_k rfl (Nz.wk_k rfl (Nz.wk_k rfl (Nz.wk_a (Nz.wk_a (Nz.wk_a (Nz.wk_k rfl (Nz.wk_k rfl (Nz.wk_k rfl (Nz.wk_k rfl (Nz.wk_k rfl (Nz.wk_a Nz.Wks.nil))))))))))))) (by decide) (fun s24 => Nz.gt_name) (by decide) (fun s24 y25 => (Nz.bj_ifD (Nz.et_or (Nz.et_T (Nz.ev_neD (Nz.da_opt Nz.da_int (fun _ h => nomatch h)) (Nz.ev_ixT (Nz.rt_ev (Nz.ev_ixT (Nz.rt_ev (Nz.ev_var rfl)) (Nz.ev_var rfl))) (Nz.ev_I0 (g := fun i j => i + j) (Nz.ev_var rfl) (Nz.ev_var rfl))) (Nz.ev_call (Nz.ea_c (Nz.ev_ixT (Nz.rt_ev (Nz.ev_ixT (Nz.rt_ev (Nz.ev_var rfl)) (Nz.ev_var rfl))) (Nz.ev_var rfl)) (Nz.ea_1 (Nz.ev_ixT (Nz.rt_ev (Nz.ev_ixT (Nz.rt_ev (Nz.ev_var rfl)) (Nz.ev_int (i := 0)))) (Nz.ev_var rfl))))))) (Nz.et_T (Nz.ev_neD (Nz.da_opt Nz.da_int (fun _ h => nomatch h)) (Nz.ev_ixT (Nz.rt_ev (Nz.ev_ixT (Nz.rt_ev (Nz.ev_var rfl)) (Nz.ev_I0 (g := fun i j => i + j) (Nz.ev_var rfl) (Nz.ev_var rfl)))) (Nz.ev_var rfl)) (Nz.ev_call (Nz.ea_c (Nz.ev_ixT (Nz.rt_ev (Nz.ev_ixT (Nz.rt_ev (Nz.ev_var rfl)) (Nz.ev_var rfl))) (Nz.ev_int (i := 0))) (Nz.ea_1 (Nz.ev_ixT (Nz.rt_ev (Nz.ev_ixT (Nz.rt_ev (Nz.ev_var rfl)) (Nz.ev_var rfl))) (Nz.ev_var rfl)))))))) (Nz.bj_seq (Nz.bj_ret Nz.ev_bl)) (Nz.bj_seq0 (Nz.bj_nx (s := ()) (Nz.wk_k rfl (Nz.wk_k rfl (Nz.wk_k rfl (Nz.wk_k rfl (Nz.wk_a (Nz.wk_a (Nz.wk_a (Nz.wk_k rfl (Nz.wk_k rfl (Nz.wk_k rfl (Nz.wk_k rfl (Nz.wk_k rfl (Nz.wk_a Nz.Wks.nil))))))))))))) (by decide))))) (fun s24 => (Nz.bj_nx (s := ()) (Nz.wk_k rfl (Nz.wk_k rfl (Nz.wk_k rfl (Nz.wk_k rfl (Nz.wk_a (Nz.wk_a (Nz.wk_a (Nz.wk_k rfl (Nz.wk_k rfl (Nz.wk_k rfl (Nz.wk_k rfl (Nz.wk_a (Nz.wk_a Nz.Wks.nil))))))))))))) (by decide))))))) (fun s20 => (Nz.bj_ret (Nz.ev_all (Nz.rl_l (Nz.el_lc (Nz.ir_iv (Nz.iv_rng1 (Nz.ev_fld (i := 0) Nz.fld_0 (Nz.ev_var rfl)))) Nz.gt_name (by decide) (fun y41 => Nz.et_yes) (fun y41 => (Nz.ev_eqD (Nz.da_tup (Nz.da_opt Nz.da_int (fun _ h => nomatch h))) (Nz.ev_slT (Nz.ev_ixT (Nz.rt_ev (Nz.ev_var rfl)) (Nz.ev_I0 (g := fun i j => i + j) (Nz.ev_var rfl) (Nz.ev_var rfl))) (Nz.po_yes (Nz.ev_var rfl)) Nz.po_no) (Nz.ev_ixT (Nz.rt_ev (Nz.ev_var rfl)) (Nz.ev_var rfl))))))))))))))))))))))) (fun a k => Eq.mp (by kernel_rfl)) h
abbrev s_take : Stmt := topS 18
theorem sc_take : FnScope ["tape", "many", "drawn", "mixed"] ["tape", "many"] (defScope s_take) := ⟨rfl, rfl, rfl, by decide +kernel, rfl, by decide +kernel, by decide +kernel⟩
abbrev s_tape : Stmt := topS 17
theorem sc_tape : FnScope ["script", "cells", "cell", "seed"] ["script"] (defScope s_tape) := ⟨rfl, rfl, rfl, by decide +kernel, rfl, by decide +kernel, by decide +kernel⟩
set_option maxHeartbeats 4000000 in
theorem cal_law_take (D : Nz.DefK K mg "_law_take" s_take ["tape", "many"]) (md : Md mg) : Nz.Cal P w K mg base 1 "_law_take" (Nz.spTX (K := K) effT (f1 rInt) rInt (fun a => (m_law_take a).wp)) [] := by
  refine D.cal fun f fd F => F.ok sc_take (fun vs H Q E h => Nz.spTX_len h) (fun cdv A outer s H vs Q E hr h => ⟨_, (pss_cons (ps_if (PW.pt (pw_and (pt_cmpR op_eq (pe_dget (hu_of hr) (pv 0) pe_str (fun _ _ => rfl)) pe_int (by rfl)) (pw_and1 (pt_cmpR op_lt (pe_dget (hu_of hr) (pv 0) pe_str (fun _ _ => rfl)) (pe_callB (cr_lenK K) (by rfl) md.len (by decide +kernel) (pa_cons (pe_dget (hu_of hr) (pv 0) pe_str (fun _ _ => rfl)) pa_nil)) (by rfl))))) (pss_cons (ps_dput (hu_of hr) (pv 0) pe_str (pe_ix (ix_lK K) (pe_dget (hu_of hr) (pv 0) pe_str (fun _ _ => rfl)) (pe_dget (hu_of hr) (pv 0) pe_str (fun _ _ => rfl)) (fun _ _ => rfl)) (by rfl)) (pss_cons (ps_dput (hu_of hr) (pv 0) pe_str (pe_op op_add (pe_dget (hu_of hr) (pv 0) pe_str (fun _ _ => rfl)) pe_int) (by rfl)) pss_nil)) pss_nil) (pss_cons (ps_if (pt_cmpR op_gt (pe_dget (hu_of hr) (pv 0) pe_str (fun _ _ => rfl)) pe_int (by rfl)) (pss_cons (ps_set (i := 2) sc_take.nd rfl (Or.inl rfl) (pe_op op_mod (pe_callTy call_int1 (by rfl) md.int (by decide +kernel) (pa_cons (pe_dget (hu_of hr) (pv 0) pe_str (fun _ _ => rfl)) pa_nil)) (pv 1))) (pss_cons (ps_dput (hu_of hr) (pv 0) pe_str (pe_op op_fdiv (pe_dget (hu_of hr) (pv 0) pe_str (fun _ _ => rfl)) (pv 1)) (by rfl)) (pss_cons (ps_ret (pv 2)) pss_nil))) pss_nil) (pss_cons (ps_dput (hu_of hr) (pv 0) pe_str (pe_op op_add (pe_dget (hu_of hr) (pv 0) pe_str (fun _ _ => rfl)) pe_int) (by rfl)) (pss_cons (ps_set (i := 3) sc_take.nd rfl (Or.inl rfl) (pe_op op_mod (pe_callTy call_int1 (by rfl) md.int (by decide +kernel) (pa_cons (pe_op op_add (pe_op op_mul (pe_dget (hu_of hr) (pv 0) pe_str (fun _ _ => rfl)) pe_int) (pe_op op_mul (pe_dget (hu_of hr) (pv 0) pe_str (fun _ _ => rfl)) pe_int)) pa_nil)) pe_int)) (pss_cons (ps_set (i := 3) sc_take.nd rfl (Or.inl rfl) (pe_op op_mod (pe_callTy call_int1 (by rfl) md.int (by decide +kernel) (pa_cons (pe_op op_add (pe_op op_add (pe_op op_mul (pv 3) (pv 3)) (pe_op op_mul (pe_dget (hu_of hr) (pv 0) pe_str (fun _ _ => rfl)) pe_int)) pe_int) pa_nil)) pe_int)) (pss_cons (ps_ret (pe_op op_mod (pe_callTy call_int1 (by rfl) md.int (by decide +kernel) (pa_cons (pv 3) pa_nil)) (pv 1))) pss_nil)))))), ?_⟩)
  exact Nz.take_walk h
set_option maxHeartbeats 4000000 in
theorem cal_law_tape (D : Nz.DefK K mg "_law_tape" s_tape ["script"]) (md : Md mg) : Nz.Cal P w K mg base 1 "_law_tape" (Nz.spMk K) [] := by
  refine D.cal fun f fd F => F.ok sc_tape (fun vs H Q E h => ?_) (fun cdv A outer s H vs Q E hr h => ⟨_, (pss_cons (ps_setLc (i := 1) rfl sc_tape.nd rfl rfl (sw_true rfl rfl rfl rfl) (pi_lK K (pv 0)) (blkOk_by (N := ["script", "cells", "cell", "seed"]) (sc := (defScope s_tape)) (by decide +kernel)) (fun _ _ _ _ _ => (pg_name (i := 2) sc_tape.nd rfl (Or.inl rfl) (Or.inr rfl))) (fun _ _ _ _ _ => pts_nil) (fun _ _ _ _ _ => (pe_callB call_abs (by rfl) md.abs (by decide +kernel) (pa_cons (pe_callTy call_int1 (by rfl) md.int (by decide +kernel) (pa_cons (pv 2) pa_nil)) pa_nil))) (own := [("cell", 2)])) (pss_cons (ps_set (i := 3) sc_tape.nd rfl (Or.inl rfl) pe_int) (pss_cons (ps_for PassesOwn.never rfl (pi_lK K (pv 1)) (pg_name (i := 2) sc_tape.nd rfl (Or.inl rfl) (Or.inr rfl)) (pss_cons (ps_set (i := 3) sc_tape.nd rfl (Or.inl rfl) (pe_op op_mod (pe_callTy call_int1 (by rfl) md.int (by decide +kernel) (pa_cons (pe_op op_add (pe_op op_mul (pv 3) pe_int) (pv 2)) pa_nil)) pe_int)) pss_nil)) (pss_cons (ps_ret (pe_disp (pps_cons pe_str (pv 1) (pps_cons pe_str pe_int (pps_cons pe_str pe_int (pps_cons pe_str (pv 3) (pps_cons pe_str pe_int pps_nil))))) rfl rfl (by simp) (by decide))) pss_nil)))), ?_⟩)
  · obtain ⟨_, _, e, _⟩ := h
    rw [e]
    rfl
  · exact Nz.mk_walk h
abbrev s_law : Stmt := topS 27
theorem sc_law : FnScope ["script", "tape", "net"] ["script"] (defScope s_law) := ⟨rfl, rfl, rfl, by decide +kernel, rfl, by decide +kernel, by decide +kernel⟩
def m_law : Pg Bool := Pg.outG (m_law_net (4 : Int) >>= fun r1 => ((pure r1 : Pg (Int × (List (Int × Int × Int)))) >>= fun net_2 => (Pg.orG (m_law_turns_right net_2 >>= fun r3 => (pure ((!r3)))) (Pg.orG (m_law_times_right net_2 >>= fun r4 => (pure ((!r4)))) (m_law_ends_right net_2 >>= fun r5 => (pure ((!r5))))) >>= fun b6 => (Pg.ifG (pure (b6)) (pure (Ctl.rt false)) (m_law_net (4 : Int) >>= fun r8 => (m_law_joined_right (net_2, r8) >>= fun r7 => (pure (Ctl.rt r7)))) : Pg (Ctl Bool Empty Unit)))))
set_option maxHeartbeats 4000000 in
theorem ok_law {f : Addr} {fd : FuncData} (F : L2.Fun K "law" "law" s_law f fd) (md : Md mg) (c__law_tape : Nz.Cal P w K mg base 1 "_law_tape" (Nz.spMk K) []) (c__law_ends_right : Nz.Cal P w K mg base 5 "_law_ends_right" (Nz.spTX (K := K) effT (f1 (rPr (fc rInt (f1 (rTup (rPr (fc rInt (fc rInt (f1 rInt))))))))) rBl (fun a => (m_law_ends_right a).wp)) []) (c__law_joined_right : Nz.Cal P w K mg base 5 "_law_joined_right" (Nz.spP (K := K) (fc (rPr (fc rInt (f1 (rTup (rPr (fc rInt (fc rInt (f1 rInt)))))))) (f1 (rPr (fc rInt (f1 (rTup (rPr (fc rInt (fc rInt (f1 rInt)))))))))) rBl (fun a => (m_law_joined_right a).wp)) []) (c__law_net : Nz.Cal P w K mg base 2 "_law_net" (Nz.spTX (K := K) effT (f1 rInt) (rPr (fc rInt (f1 (rTup (rPr (fc rInt (fc rInt (f1 rInt)))))))) (fun a => (m_law_net a).wp)) []) (c__law_times_right : Nz.Cal P w K mg base 5 "_law_times_right" (Nz.spTX (K := K) effT (f1 (rPr (fc rInt (f1 (rTup (rPr (fc rInt (fc rInt (f1 rInt))))))))) rBl (fun a => (m_law_times_right a).wp)) []) (c__law_turns_right : Nz.Cal P w K mg base 5 "_law_turns_right" (Nz.spTX (K := K) effT (f1 (rPr (fc rInt (f1 (rTup (rPr (fc rInt (fc rInt (f1 rInt))))))))) rBl (fun a => (m_law_turns_right a).wp)) []) (hm : m_law.wp fun b => b = true) : FnOk P w K mg base CX0 6 f fd ["script"] (Nz.spLawT K) :=
  F.ok sc_law (fun vs H Q E h => Nz.spLawT_len h) (fun cdv A outer s H vs Q E hr h => ⟨_, pss_cons (ps_set (i := 1) sc_law.nd rfl (Or.inl rfl) (Nz.pe_c c__law_tape hr (by decide) (by rfl) (pa_cons (pv 0) pa_nil))) (pss_cons (ps_set (i := 2) sc_law.nd rfl (Or.inl rfl) (Nz.pe_c c__law_net hr (by decide) (by rfl) (pa_cons (pv 1) (pa_cons pe_int pa_nil)))) (pss_cons (ps_if (PW.pt (pw_or (pt_not (pt_val (Nz.pe_c c__law_turns_right hr (by decide) (by rfl) (pa_cons (pv 1) (pa_cons (pv 2) pa_nil))))) (pw_or (pt_not (pt_val (Nz.pe_c c__law_times_right hr (by decide) (by rfl) (pa_cons (pv 1) (pa_cons (pv 2) pa_nil))))) (pw_or1 (pt_not (pt_val (Nz.pe_c c__law_ends_right hr (by decide) (by rfl) (pa_cons (pv 1) (pa_cons (pv 2) pa_nil))))))))) (pss_cons (ps_ret pe_bl) pss_nil) pss_nil) (pss_cons (ps_ret (Nz.pe_c c__law_joined_right hr (by decide) (by rfl) (pa_cons (pv 2) (pa_cons (Nz.pe_c c__law_net hr (by decide) (by rfl) (pa_cons (pv 1) (pa_cons pe_int pa_nil))) pa_nil)))) pss_nil))), Nz.law_runT (n := 1) rfl (fun pt c => (Nz.bj_asg (Nz.ev_callTX (Nz.EffIn.refl _) rfl (Nz.ea_1 (Nz.ev_int (i := 4)))) (fun net_2 => (Nz.bj_ifD (Nz.et_or (Nz.et_not (Nz.et_B (Nz.ev_callTX (Nz.EffIn.refl _) rfl (Nz.ea_1 (Nz.ev_var rfl))))) (Nz.et_or (Nz.et_not (Nz.et_B (Nz.ev_callTX (Nz.EffIn.refl _) rfl (Nz.ea_1 (Nz.ev_var rfl))))) (Nz.et_not (Nz.et_B (Nz.ev_callTX (Nz.EffIn.refl _) rfl (Nz.ea_1 (Nz.ev_var rfl))))))) (Nz.bj_seq (Nz.bj_ret Nz.ev_bl)) (Nz.bj_seq0 (Nz.bj_ret (Nz.ev_call (Nz.ea_c (Nz.ev_var rfl) (Nz.ea_1 (Nz.ev_callTX (Nz.EffIn.refl _) rfl (Nz.ea_1 (Nz.ev_int (i := 4))))))))))))) (Eq.mp (by kernel_rfl) hm) h⟩)
end
end K43

namespace K43
open PySem PySem.Spec PyProof.Rows L2 Nz
theorem defK_mk {K : PySem.W.Frag} {h : Heap} {mg : Str → Option Value} {x : Str} {st : Stmt} {ps : List Str} {f : Addr} {oc : Value} {od an : Option Addr} {osl : Array (Option Value)} {kV doc pm cdv ct : Value} (X : K.In h) (G : h.Ns mainGlobals mg)
    (b : ∀ (kV doc pm : Value) (an : Option Addr) (cdv ct : Value) (us : List Value), us.length = ps.length → bindArgs (PySem.W.fnOf x x (defArgs st) (defBody st) (defScope st) .none kV doc pm an cdv ct) ⟨us, []⟩ = pure (ps.zip us))
    (a : PySem.W.nsIn K mainGlobals x = some (some (.ref f))) (l : K.lookup f = some ⟨oc, od, .func (PySem.W.fnOf x x (defArgs st) (defBody st) (defScope st) .none kV doc pm an cdv ct), osl⟩) (c : PySem.W.codeIn K cdv x = true) (k : PySem.W.keepIn K (.ref f) = true) : DefK K mg x st ps :=
  have F := fun_mk l c k
  ⟨f, _, F, PySem.W.mg_of X G a, F.binds b⟩
theorem mk_check_net {K : PySem.W.Frag} {h : Heap} {mg : Str → Option Value} {f : Addr} {oc : Value} {od an : Option Addr} {osl : Array (Option Value)} {kV doc pm ct : Value} {cdv : Value} (X : K.In h) (G : h.Ns mainGlobals mg)
    (a : PySem.W.nsIn K mainGlobals "check_net" = some (some (.ref f))) (l : K.lookup f = some ⟨oc, od, .func (PySem.W.fnOf "check_net" "check_net" (defArgs s_check_net) (defBody s_check_net) (defScope s_check_net) .none kV doc pm an cdv ct), osl⟩) (c : PySem.W.codeIn K cdv "check_net" = true) (k : PySem.W.keepIn K (.ref f) = true) : DefK K mg "check_net" s_check_net ["net"] :=
  defK_mk X G (fun _ _ _ _ _ _ us hl => match us, hl with | [_], _ => rfl) a l c k
theorem mk_closed_of {K : PySem.W.Frag} {h : Heap} {mg : Str → Option Value} {f : Addr} {oc : Value} {od an : Option Addr} {osl : Array (Option Value)} {kV doc pm ct : Value} {cdv : Value} (X : K.In h) (G : h.Ns mainGlobals mg)
    (a : PySem.W.nsIn K mainGlobals "closed_of" = some (some (.ref f))) (l : K.lookup f = some ⟨oc, od, .func (PySem.W.fnOf "closed_of" "closed_of" (defArgs s_closed_of) (defBody s_closed_of) (defScope s_closed_of) .none kV doc pm an cdv ct), osl⟩) (c : PySem.W.codeIn K cdv "closed_of" = true) (k : PySem.W.keepIn K (.ref f) = true) : DefK K mg "closed_of" s_closed_of ["net"] :=
  defK_mk X G (fun _ _ _ _ _ _ us hl => match us, hl with | [_], _ => rfl) a l c k
theorem mk_closed_net {K : PySem.W.Frag} {h : Heap} {mg : Str → Option Value} {f : Addr} {oc : Value} {od an : Option Addr} {osl : Array (Option Value)} {kV doc pm ct : Value} {cdv : Value} (X : K.In h) (G : h.Ns mainGlobals mg)
    (a : PySem.W.nsIn K mainGlobals "closed_net" = some (some (.ref f))) (l : K.lookup f = some ⟨oc, od, .func (PySem.W.fnOf "closed_net" "closed_net" (defArgs s_closed_net) (defBody s_closed_net) (defScope s_closed_net) .none kV doc pm an cdv ct), osl⟩) (c : PySem.W.codeIn K cdv "closed_net" = true) (k : PySem.W.keepIn K (.ref f) = true) : DefK K mg "closed_net" s_closed_net ["net"] :=
  defK_mk X G (fun _ _ _ _ _ _ us hl => match us, hl with | [_], _ => rfl) a l c k
theorem mk_fits {K : PySem.W.Frag} {h : Heap} {mg : Str → Option Value} {f : Addr} {oc : Value} {od an : Option Addr} {osl : Array (Option Value)} {kV doc pm ct : Value} {cdv : Value} (X : K.In h) (G : h.Ns mainGlobals mg)
    (a : PySem.W.nsIn K mainGlobals "fits" = some (some (.ref f))) (l : K.lookup f = some ⟨oc, od, .func (PySem.W.fnOf "fits" "fits" (defArgs s_fits) (defBody s_fits) (defScope s_fits) .none kV doc pm an cdv ct), osl⟩) (c : PySem.W.codeIn K cdv "fits" = true) (k : PySem.W.keepIn K (.ref f) = true) : DefK K mg "fits" s_fits ["net"] :=
  defK_mk X G (fun _ _ _ _ _ _ us hl => match us, hl with | [_], _ => rfl) a l c k
theorem mk_keeps {K : PySem.W.Frag} {h : Heap} {mg : Str → Option Value} {f : Addr} {oc : Value} {od an : Option Addr} {osl : Array (Option Value)} {kV doc pm ct : Value} {cdv : Value} (X : K.In h) (G : h.Ns mainGlobals mg)
    (a : PySem.W.nsIn K mainGlobals "keeps" = some (some (.ref f))) (l : K.lookup f = some ⟨oc, od, .func (PySem.W.fnOf "keeps" "keeps" (defArgs s_keeps) (defBody s_keeps) (defScope s_keeps) .none kV doc pm an cdv ct), osl⟩) (c : PySem.W.codeIn K cdv "keeps" = true) (k : PySem.W.keepIn K (.ref f) = true) : DefK K mg "keeps" s_keeps ["net", "times"] :=
  defK_mk X G (fun _ _ _ _ _ _ us hl => match us, hl with | [_, _], _ => rfl) a l c k
theorem mk_bad_circle {K : PySem.W.Frag} {h : Heap} {mg : Str → Option Value} {f : Addr} {oc : Value} {od an : Option Addr} {osl : Array (Option Value)} {kV doc pm ct : Value} {cdv : Value} (X : K.In h) (G : h.Ns mainGlobals mg)
    (a : PySem.W.nsIn K mainGlobals "bad_circle" = some (some (.ref f))) (l : K.lookup f = some ⟨oc, od, .func (PySem.W.fnOf "bad_circle" "bad_circle" (defArgs s_bad_circle) (defBody s_bad_circle) (defScope s_bad_circle) .none kV doc pm an cdv ct), osl⟩) (c : PySem.W.codeIn K cdv "bad_circle" = true) (k : PySem.W.keepIn K (.ref f) = true) : DefK K mg "bad_circle" s_bad_circle ["net"] :=
  defK_mk X G (fun _ _ _ _ _ _ us hl => match us, hl with | [_], _ => rfl) a l c k
theorem mk_takes_circle {K : PySem.W.Frag} {h : Heap} {mg : Str → Option Value} {f : Addr} {oc : Value} {od an : Option Addr} {osl : Array (Option Value)} {kV doc pm ct : Value} {cdv : Value} (X : K.In h) (G : h.Ns mainGlobals mg)
    (a : PySem.W.nsIn K mainGlobals "takes_circle" = some (some (.ref f))) (l : K.lookup f = some ⟨oc, od, .func (PySem.W.fnOf "takes_circle" "takes_circle" (defArgs s_takes_circle) (defBody s_takes_circle) (defScope s_takes_circle) .none kV doc pm an cdv ct), osl⟩) (c : PySem.W.codeIn K cdv "takes_circle" = true) (k : PySem.W.keepIn K (.ref f) = true) : DefK K mg "takes_circle" s_takes_circle ["net", "row"] :=
  defK_mk X G (fun _ _ _ _ _ _ us hl => match us, hl with | [_, _], _ => rfl) a l c k
theorem mk_earliest_of {K : PySem.W.Frag} {h : Heap} {mg : Str → Option Value} {f : Addr} {oc : Value} {od an : Option Addr} {osl : Array (Option Value)} {kV doc pm ct : Value} {cdv : Value} (X : K.In h) (G : h.Ns mainGlobals mg)
    (a : PySem.W.nsIn K mainGlobals "earliest_of" = some (some (.ref f))) (l : K.lookup f = some ⟨oc, od, .func (PySem.W.fnOf "earliest_of" "earliest_of" (defArgs s_earliest_of) (defBody s_earliest_of) (defScope s_earliest_of) .none kV doc pm an cdv ct), osl⟩) (c : PySem.W.codeIn K cdv "earliest_of" = true) (k : PySem.W.keepIn K (.ref f) = true) : DefK K mg "earliest_of" s_earliest_of ["net"] :=
  defK_mk X G (fun _ _ _ _ _ _ us hl => match us, hl with | [_], _ => rfl) a l c k
theorem mk_earliest {K : PySem.W.Frag} {h : Heap} {mg : Str → Option Value} {f : Addr} {oc : Value} {od an : Option Addr} {osl : Array (Option Value)} {kV doc pm ct : Value} {cdv : Value} (X : K.In h) (G : h.Ns mainGlobals mg)
    (a : PySem.W.nsIn K mainGlobals "earliest" = some (some (.ref f))) (l : K.lookup f = some ⟨oc, od, .func (PySem.W.fnOf "earliest" "earliest" (defArgs s_earliest) (defBody s_earliest) (defScope s_earliest) .none kV doc pm an cdv ct), osl⟩) (c : PySem.W.codeIn K cdv "earliest" = true) (k : PySem.W.keepIn K (.ref f) = true) : DefK K mg "earliest" s_earliest ["net"] :=
  defK_mk X G (fun _ _ _ _ _ _ us hl => match us, hl with | [_], _ => rfl) a l c k
theorem mk_range_of {K : PySem.W.Frag} {h : Heap} {mg : Str → Option Value} {f : Addr} {oc : Value} {od an : Option Addr} {osl : Array (Option Value)} {kV doc pm ct : Value} {cdv : Value} (X : K.In h) (G : h.Ns mainGlobals mg)
    (a : PySem.W.nsIn K mainGlobals "range_of" = some (some (.ref f))) (l : K.lookup f = some ⟨oc, od, .func (PySem.W.fnOf "range_of" "range_of" (defArgs s_range_of) (defBody s_range_of) (defScope s_range_of) .none kV doc pm an cdv ct), osl⟩) (c : PySem.W.codeIn K cdv "range_of" = true) (k : PySem.W.keepIn K (.ref f) = true) : DefK K mg "range_of" s_range_of ["net", "one", "other"] :=
  defK_mk X G (fun _ _ _ _ _ _ us hl => match us, hl with | [_, _, _], _ => rfl) a l c k
theorem mk_strong_times {K : PySem.W.Frag} {h : Heap} {mg : Str → Option Value} {f : Addr} {oc : Value} {od an : Option Addr} {osl : Array (Option Value)} {kV doc pm ct : Value} {cdv : Value} (X : K.In h) (G : h.Ns mainGlobals mg)
    (a : PySem.W.nsIn K mainGlobals "strong_times" = some (some (.ref f))) (l : K.lookup f = some ⟨oc, od, .func (PySem.W.fnOf "strong_times" "strong_times" (defArgs s_strong_times) (defBody s_strong_times) (defScope s_strong_times) .none kV doc pm an cdv ct), osl⟩) (c : PySem.W.codeIn K cdv "strong_times" = true) (k : PySem.W.keepIn K (.ref f) = true) : DefK K mg "strong_times" s_strong_times ["net", "chosen"] :=
  defK_mk X G (fun _ _ _ _ _ _ us hl => match us, hl with | [_, _], _ => rfl) a l c k
theorem mk__law_net {K : PySem.W.Frag} {h : Heap} {mg : Str → Option Value} {f : Addr} {oc : Value} {od an : Option Addr} {osl : Array (Option Value)} {kV doc pm ct : Value} {cdv : Value} (X : K.In h) (G : h.Ns mainGlobals mg)
    (a : PySem.W.nsIn K mainGlobals "_law_net" = some (some (.ref f))) (l : K.lookup f = some ⟨oc, od, .func (PySem.W.fnOf "_law_net" "_law_net" (defArgs s_law_net) (defBody s_law_net) (defScope s_law_net) .none kV doc pm an cdv ct), osl⟩) (c : PySem.W.codeIn K cdv "_law_net" = true) (k : PySem.W.keepIn K (.ref f) = true) : DefK K mg "_law_net" s_law_net ["tape", "most"] :=
  defK_mk X G (fun _ _ _ _ _ _ us hl => match us, hl with | [_, _], _ => rfl) a l c k
theorem mk__law_sum {K : PySem.W.Frag} {h : Heap} {mg : Str → Option Value} {f : Addr} {oc : Value} {od an : Option Addr} {osl : Array (Option Value)} {kV doc pm ct : Value} {cdv : Value} (X : K.In h) (G : h.Ns mainGlobals mg)
    (a : PySem.W.nsIn K mainGlobals "_law_sum" = some (some (.ref f))) (l : K.lookup f = some ⟨oc, od, .func (PySem.W.fnOf "_law_sum" "_law_sum" (defArgs s_law_sum) (defBody s_law_sum) (defScope s_law_sum) .none kV doc pm an cdv ct), osl⟩) (c : PySem.W.codeIn K cdv "_law_sum" = true) (k : PySem.W.keepIn K (.ref f) = true) : DefK K mg "_law_sum" s_law_sum ["one", "other"] :=
  defK_mk X G (fun _ _ _ _ _ _ us hl => match us, hl with | [_, _], _ => rfl) a l c k
theorem mk__law_least {K : PySem.W.Frag} {h : Heap} {mg : Str → Option Value} {f : Addr} {oc : Value} {od an : Option Addr} {osl : Array (Option Value)} {kV doc pm ct : Value} {cdv : Value} (X : K.In h) (G : h.Ns mainGlobals mg)
    (a : PySem.W.nsIn K mainGlobals "_law_least" = some (some (.ref f))) (l : K.lookup f = some ⟨oc, od, .func (PySem.W.fnOf "_law_least" "_law_least" (defArgs s_law_least) (defBody s_law_least) (defScope s_law_least) .none kV doc pm an cdv ct), osl⟩) (c : PySem.W.codeIn K cdv "_law_least" = true) (k : PySem.W.keepIn K (.ref f) = true) : DefK K mg "_law_least" s_law_least ["row"] :=
  defK_mk X G (fun _ _ _ _ _ _ us hl => match us, hl with | [_], _ => rfl) a l c k
theorem mk__law_closed {K : PySem.W.Frag} {h : Heap} {mg : Str → Option Value} {f : Addr} {oc : Value} {od an : Option Addr} {osl : Array (Option Value)} {kV doc pm ct : Value} {cdv : Value} (X : K.In h) (G : h.Ns mainGlobals mg)
    (a : PySem.W.nsIn K mainGlobals "_law_closed" = some (some (.ref f))) (l : K.lookup f = some ⟨oc, od, .func (PySem.W.fnOf "_law_closed" "_law_closed" (defArgs s_law_closed) (defBody s_law_closed) (defScope s_law_closed) .none kV doc pm an cdv ct), osl⟩) (c : PySem.W.codeIn K cdv "_law_closed" = true) (k : PySem.W.keepIn K (.ref f) = true) : DefK K mg "_law_closed" s_law_closed ["net"] :=
  defK_mk X G (fun _ _ _ _ _ _ us hl => match us, hl with | [_], _ => rfl) a l c k
theorem mk__law_turns_right {K : PySem.W.Frag} {h : Heap} {mg : Str → Option Value} {f : Addr} {oc : Value} {od an : Option Addr} {osl : Array (Option Value)} {kV doc pm ct : Value} {cdv : Value} (X : K.In h) (G : h.Ns mainGlobals mg)
    (a : PySem.W.nsIn K mainGlobals "_law_turns_right" = some (some (.ref f))) (l : K.lookup f = some ⟨oc, od, .func (PySem.W.fnOf "_law_turns_right" "_law_turns_right" (defArgs s_law_turns_right) (defBody s_law_turns_right) (defScope s_law_turns_right) .none kV doc pm an cdv ct), osl⟩) (c : PySem.W.codeIn K cdv "_law_turns_right" = true) (k : PySem.W.keepIn K (.ref f) = true) : DefK K mg "_law_turns_right" s_law_turns_right ["tape", "net"] :=
  defK_mk X G (fun _ _ _ _ _ _ us hl => match us, hl with | [_, _], _ => rfl) a l c k
theorem mk__law_times_right {K : PySem.W.Frag} {h : Heap} {mg : Str → Option Value} {f : Addr} {oc : Value} {od an : Option Addr} {osl : Array (Option Value)} {kV doc pm ct : Value} {cdv : Value} (X : K.In h) (G : h.Ns mainGlobals mg)
    (a : PySem.W.nsIn K mainGlobals "_law_times_right" = some (some (.ref f))) (l : K.lookup f = some ⟨oc, od, .func (PySem.W.fnOf "_law_times_right" "_law_times_right" (defArgs s_law_times_right) (defBody s_law_times_right) (defScope s_law_times_right) .none kV doc pm an cdv ct), osl⟩) (c : PySem.W.codeIn K cdv "_law_times_right" = true) (k : PySem.W.keepIn K (.ref f) = true) : DefK K mg "_law_times_right" s_law_times_right ["tape", "net"] :=
  defK_mk X G (fun _ _ _ _ _ _ us hl => match us, hl with | [_, _], _ => rfl) a l c k
theorem mk__law_ends_right {K : PySem.W.Frag} {h : Heap} {mg : Str → Option Value} {f : Addr} {oc : Value} {od an : Option Addr} {osl : Array (Option Value)} {kV doc pm ct : Value} {cdv : Value} (X : K.In h) (G : h.Ns mainGlobals mg)
    (a : PySem.W.nsIn K mainGlobals "_law_ends_right" = some (some (.ref f))) (l : K.lookup f = some ⟨oc, od, .func (PySem.W.fnOf "_law_ends_right" "_law_ends_right" (defArgs s_law_ends_right) (defBody s_law_ends_right) (defScope s_law_ends_right) .none kV doc pm an cdv ct), osl⟩) (c : PySem.W.codeIn K cdv "_law_ends_right" = true) (k : PySem.W.keepIn K (.ref f) = true) : DefK K mg "_law_ends_right" s_law_ends_right ["tape", "net"] :=
  defK_mk X G (fun _ _ _ _ _ _ us hl => match us, hl with | [_, _], _ => rfl) a l c k
theorem mk__law_joined_right {K : PySem.W.Frag} {h : Heap} {mg : Str → Option Value} {f : Addr} {oc : Value} {od an : Option Addr} {osl : Array (Option Value)} {kV doc pm ct : Value} {cdv : Value} (X : K.In h) (G : h.Ns mainGlobals mg)
    (a : PySem.W.nsIn K mainGlobals "_law_joined_right" = some (some (.ref f))) (l : K.lookup f = some ⟨oc, od, .func (PySem.W.fnOf "_law_joined_right" "_law_joined_right" (defArgs s_law_joined_right) (defBody s_law_joined_right) (defScope s_law_joined_right) .none kV doc pm an cdv ct), osl⟩) (c : PySem.W.codeIn K cdv "_law_joined_right" = true) (k : PySem.W.keepIn K (.ref f) = true) : DefK K mg "_law_joined_right" s_law_joined_right ["one", "other"] :=
  defK_mk X G (fun _ _ _ _ _ _ us hl => match us, hl with | [_, _], _ => rfl) a l c k
theorem mk__law_take {K : PySem.W.Frag} {h : Heap} {mg : Str → Option Value} {f : Addr} {oc : Value} {od an : Option Addr} {osl : Array (Option Value)} {kV doc pm ct : Value} {cdv : Value} (X : K.In h) (G : h.Ns mainGlobals mg)
    (a : PySem.W.nsIn K mainGlobals "_law_take" = some (some (.ref f))) (l : K.lookup f = some ⟨oc, od, .func (PySem.W.fnOf "_law_take" "_law_take" (defArgs s_take) (defBody s_take) (defScope s_take) .none kV doc pm an cdv ct), osl⟩) (c : PySem.W.codeIn K cdv "_law_take" = true) (k : PySem.W.keepIn K (.ref f) = true) : DefK K mg "_law_take" s_take ["tape", "many"] :=
  defK_mk X G (fun _ _ _ _ _ _ us hl => match us, hl with | [_, _], _ => rfl) a l c k
theorem mk__law_tape {K : PySem.W.Frag} {h : Heap} {mg : Str → Option Value} {f : Addr} {oc : Value} {od an : Option Addr} {osl : Array (Option Value)} {kV doc pm ct : Value} {cdv : Value} (X : K.In h) (G : h.Ns mainGlobals mg)
    (a : PySem.W.nsIn K mainGlobals "_law_tape" = some (some (.ref f))) (l : K.lookup f = some ⟨oc, od, .func (PySem.W.fnOf "_law_tape" "_law_tape" (defArgs s_tape) (defBody s_tape) (defScope s_tape) .none kV doc pm an cdv ct), osl⟩) (c : PySem.W.codeIn K cdv "_law_tape" = true) (k : PySem.W.keepIn K (.ref f) = true) : DefK K mg "_law_tape" s_tape ["script"] :=
  defK_mk X G (fun _ _ _ _ _ _ us hl => match us, hl with | [_], _ => rfl) a l c k
theorem md_mk {K : PySem.W.Frag} {h : Heap} {mg : Str → Option Value} {t_MOST_POINTS : Tok} (X : K.In h) (G : h.Ns mainGlobals mg) (z_abs : PySem.W.nsIn K mainGlobals "abs" = some none) (z_all : PySem.W.nsIn K mainGlobals "all" = some none) (z_any : PySem.W.nsIn K mainGlobals "any" = some none) (z_enumerate : PySem.W.nsIn K mainGlobals "enumerate" = some none) (z_int : PySem.W.nsIn K mainGlobals "int" = some none) (z_len : PySem.W.nsIn K mainGlobals "len" = some none) (z_list : PySem.W.nsIn K mainGlobals "list" = some none) (z_max : PySem.W.nsIn K mainGlobals "max" = some none) (z_min : PySem.W.nsIn K mainGlobals "min" = some none) (z_range : PySem.W.nsIn K mainGlobals "range" = some none) (z_sorted : PySem.W.nsIn K mainGlobals "sorted" = some none) (z_sum : PySem.W.nsIn K mainGlobals "sum" = some none) (z_tuple : PySem.W.nsIn K mainGlobals "tuple" = some none) (z_zip : PySem.W.nsIn K mainGlobals "zip" = some none) (zc_MOST_POINTS : PySem.W.nsIn K mainGlobals "MOST_POINTS" = some (some (.int 8 t_MOST_POINTS))) : Md mg :=
  ⟨PySem.W.mg_none_of X G z_abs, PySem.W.mg_none_of X G z_all, PySem.W.mg_none_of X G z_any, PySem.W.mg_none_of X G z_enumerate, PySem.W.mg_none_of X G z_int, PySem.W.mg_none_of X G z_len, PySem.W.mg_none_of X G z_list, PySem.W.mg_none_of X G z_max, PySem.W.mg_none_of X G z_min, PySem.W.mg_none_of X G z_range, PySem.W.mg_none_of X G z_sorted, PySem.W.mg_none_of X G z_sum, PySem.W.mg_none_of X G z_tuple, PySem.W.mg_none_of X G z_zip, ⟨_, PySem.W.mg_of X G zc_MOST_POINTS, _, rfl⟩⟩
theorem all_mk {l : PySem.W.OpenLaw} {w : World} {K : PySem.W.Frag} {h : Heap} {mg : Str → Option Value} {fa f : Addr} {oc : Value} {od an : Option Addr} {osl : Array (Option Value)} {kV doc pm cdv ct : Value} (X : K.In h) (G : h.Ns mainGlobals mg) (hfa : mg "law" = some (.ref fa)) (hm : m_law.wp fun b => b = true)
    (D_check_net : DefK K mg "check_net" s_check_net ["net"])
    (D_closed_of : DefK K mg "closed_of" s_closed_of ["net"])
    (D_closed_net : DefK K mg "closed_net" s_closed_net ["net"])
    (D_fits : DefK K mg "fits" s_fits ["net"])
    (D_keeps : DefK K mg "keeps" s_keeps ["net", "times"])
    (D_bad_circle : DefK K mg "bad_circle" s_bad_circle ["net"])
    (D_takes_circle : DefK K mg "takes_circle" s_takes_circle ["net", "row"])
    (D_earliest_of : DefK K mg "earliest_of" s_earliest_of ["net"])
    (D_earliest : DefK K mg "earliest" s_earliest ["net"])
    (D_range_of : DefK K mg "range_of" s_range_of ["net", "one", "other"])
    (D_strong_times : DefK K mg "strong_times" s_strong_times ["net", "chosen"])
    (D__law_net : DefK K mg "_law_net" s_law_net ["tape", "most"])
    (D__law_sum : DefK K mg "_law_sum" s_law_sum ["one", "other"])
    (D__law_least : DefK K mg "_law_least" s_law_least ["row"])
    (D__law_closed : DefK K mg "_law_closed" s_law_closed ["net"])
    (D__law_turns_right : DefK K mg "_law_turns_right" s_law_turns_right ["tape", "net"])
    (D__law_times_right : DefK K mg "_law_times_right" s_law_times_right ["tape", "net"])
    (D__law_ends_right : DefK K mg "_law_ends_right" s_law_ends_right ["tape", "net"])
    (D__law_joined_right : DefK K mg "_law_joined_right" s_law_joined_right ["one", "other"])
    (D__law_take : DefK K mg "_law_take" s_take ["tape", "many"])
    (D__law_tape : DefK K mg "_law_tape" s_tape ["script"])
    (md : Md mg)
    (a : PySem.W.nsIn K mainGlobals "law" = some (some (.ref f))) (lk : K.lookup f = some ⟨oc, od, .func (PySem.W.fnOf "law" "law" (defArgs s_law) (defBody s_law) (defScope s_law) .none kV doc pm an cdv ct), osl⟩) (c : PySem.W.codeIn K cdv "law" = true) (k : PySem.W.keepIn K (.ref f) = true) :
    LamX.LawAtS l w K CX0 6 63 "script" mg fa h := by
  have e := hfa.symm.trans (PySem.W.mg_of X G a)
  cases e
  have F := fun_mk (st := s_law) lk c k
  refine ⟨PySem.W.fnOf "law" "law" (defArgs s_law) (defBody s_law) (defScope s_law) .none kV doc pm an cdv ct, [], spLawT K, fun p hp => (by cases hp), fun p hp => (by cases hp), fun p hp => (by cases hp), fun s u => .of_eq rfl, fun H a ns hl _ hT hS => ⟨a, ns, rfl, hS, hl, fun _ => rfl⟩, fun base _ _ hTB => ?_⟩
  have c__law_tape := cal_law_tape (P := l.prog) (w := w) (base := base) D__law_tape md 
  have c__law_take := cal_law_take (P := l.prog) (w := w) (base := base) D__law_take md 
  have c_check_net := cal_check_net (P := l.prog) (w := w) (base := base) D_check_net md 
  have c_closed_of := cal_closed_of (P := l.prog) (w := w) (base := base) D_closed_of md 
  have c_earliest_of := cal_earliest_of (P := l.prog) (w := w) (base := base) D_earliest_of md c_closed_of
  have c_earliest := cal_earliest (P := l.prog) (w := w) (base := base) D_earliest md c_check_net c_earliest_of
  have c_keeps := cal_keeps (P := l.prog) (w := w) (base := base) D_keeps md c_check_net
  have c_strong_times := cal_strong_times (P := l.prog) (w := w) (base := base) D_strong_times md c_check_net c_earliest_of
  have c__law_ends_right := cal_law_ends_right (P := l.prog) (w := w) (base := base) D__law_ends_right md c__law_take c_earliest c_keeps c_strong_times
  have c__law_sum := cal_law_sum (P := l.prog) (w := w) (base := base) D__law_sum md 
  have c_closed_net := cal_closed_net (P := l.prog) (w := w) (base := base) D_closed_net md c_check_net c_closed_of
  have c_fits := cal_fits (P := l.prog) (w := w) (base := base) D_fits md c_closed_net
  have c_bad_circle := cal_bad_circle (P := l.prog) (w := w) (base := base) D_bad_circle md c_check_net c_fits
  have c_takes_circle := cal_takes_circle (P := l.prog) (w := w) (base := base) D_takes_circle md c_check_net
  have c__law_joined_right := cal_law_joined_right (P := l.prog) (w := w) (base := base) D__law_joined_right md c__law_sum c_bad_circle c_closed_net c_fits c_takes_circle
  have c__law_net := cal_law_net (P := l.prog) (w := w) (base := base) D__law_net md c__law_take
  have c__law_times_right := cal_law_times_right (P := l.prog) (w := w) (base := base) D__law_times_right md c__law_take c_closed_net c_earliest c_fits c_keeps
  have c__law_least := cal_law_least (P := l.prog) (w := w) (base := base) D__law_least md 
  have c__law_closed := cal_law_closed (P := l.prog) (w := w) (base := base) D__law_closed md c__law_least c__law_sum
  have c_range_of := cal_range_of (P := l.prog) (w := w) (base := base) D_range_of md c_closed_net c_fits
  have c__law_turns_right := cal_law_turns_right (P := l.prog) (w := w) (base := base) D__law_turns_right md c__law_closed c__law_take c_bad_circle c_closed_net c_earliest c_fits c_keeps c_range_of c_takes_circle
  exact ok_law F md c__law_tape c__law_ends_right c__law_joined_right c__law_net c__law_times_right c__law_turns_right hm
end K43

/-! P1: nets of bounds: walks, least weights, times. -/
namespace K43
abbrev Edge := Int × Int × Int
abbrev inN (N : Nat) (i : Int) : Prop := 0 ≤ i ∧ i < (N : Int)
/-- edges one behind the other -/
def Ch (E : List Edge) : Int → Int → List Edge → Prop
  | i, j, [] => i = j
  | i, j, e :: es => e ∈ E ∧ e.1 = i ∧ Ch E e.2.1 j es
def wt (es : List Edge) : Int := (es.map fun e => e.2.2).sum
def Wk (E : List Edge) (i j w : Int) : Prop := ∃ es, Ch E i j es ∧ wt es = w
def Keeps (E : List Edge) (t : Int → Int) : Prop := ∀ e ∈ E, t e.2.1 - t e.1 ≤ e.2.2
def OkE (N : Nat) (E : List Edge) : Prop := ∀ e ∈ E, inN N e.1 ∧ inN N e.2.1
def Neg (N : Nat) (E : List Edge) : Prop := ∃ i w, inN N i ∧ w < 0 ∧ Wk E i i w
section
variable {N : Nat} {E E' : List Edge} {i j k w : Int} {es : List Edge}
theorem wt_nil : wt [] = 0 := rfl
theorem wt_cons (e : Edge) (es : List Edge) : wt (e :: es) = e.2.2 + wt es := by simp [wt]
theorem wt_app (a b : List Edge) : wt (a ++ b) = wt a + wt b := by simp [wt]
theorem Ch.app : ∀ {i j k : Int} {a b : List Edge}, Ch E i j a → Ch E j k b → Ch E i k (a ++ b)
  | i, j, k, [], b, h, h2 => by
    have h : i = j := h
    rw [h]; exact h2
  | i, j, k, e :: a, b, ⟨h1, h2, h3⟩, h4 => ⟨h1, h2, Ch.app h3 h4⟩
theorem Ch.split : ∀ {i j : Int} {a b : List Edge}, Ch E i j (a ++ b) → ∃ k, Ch E i k a ∧ Ch E k j b
  | i, j, [], b, h => ⟨i, rfl, h⟩
  | i, j, e :: a, b, ⟨h1, h2, h3⟩ => by
    obtain ⟨k, h4, h5⟩ := Ch.split h3
    exact ⟨k, ⟨h1, h2, h4⟩, h5⟩
theorem Ch.mono (h : ∀ e ∈ E, e ∈ E') : ∀ {i j : Int} {es : List Edge}, Ch E i j es → Ch E' i j es
  | i, j, [], h2 => h2
  | i, j, e :: es, ⟨h1, h2, h3⟩ => ⟨h e h1, h2, Ch.mono h h3⟩
theorem Ch.mem : ∀ {i j : Int} {es : List Edge}, Ch E i j es → ∀ e ∈ es, e ∈ E
  | i, j, [], _, e, he => by cases he
  | i, j, e :: es, ⟨h1, h2, h3⟩, x, hx => by
    rcases List.mem_cons.mp hx with rfl | hx
    · exact h1
    · exact Ch.mem h3 x hx
theorem Ch.last (ok : OkE N E) : ∀ {i j : Int} {es : List Edge}, inN N i → Ch E i j es → inN N j
  | i, j, [], hi, h => by
    have h : i = j := h
    rw [← h]; exact hi
  | i, j, e :: es, hi, ⟨h1, h2, h3⟩ => Ch.last ok (ok e h1).2 h3
theorem Ch.first (ok : OkE N E) : ∀ {i j : Int} {es : List Edge}, inN N j → Ch E i j es → inN N i
  | i, j, [], hi, h => by
    have h : i = j := h
    rw [h]; exact hi
  | i, j, e :: es, hi, ⟨h1, h2, h3⟩ => by rw [← h2]; exact (ok e h1).1
theorem Wk.nil (E : List Edge) (i : Int) : Wk E i i 0 := ⟨[], rfl, rfl⟩
theorem Wk.one {e : Edge} (h : e ∈ E) : Wk E e.1 e.2.1 e.2.2 := ⟨[e], ⟨h, rfl, rfl⟩, by simp [wt]⟩
theorem Wk.app {w' : Int} (h : Wk E i j w) (h' : Wk E j k w') : Wk E i k (w + w') := by
  obtain ⟨a, ha, rfl⟩ := h
  obtain ⟨b, hb, rfl⟩ := h'
  exact ⟨a ++ b, ha.app hb, wt_app a b⟩
theorem Wk.mono (h : ∀ e ∈ E, e ∈ E') (q : Wk E i j w) : Wk E' i j w := by
  obtain ⟨es, a, b⟩ := q
  exact ⟨es, a.mono h, b⟩
/-- what is known of single steps goes along walks -/
theorem Wk.ind {P : Int → Int → Int → Prop} (h0 : ∀ i, P i i 0) (h1 : ∀ e ∈ E, ∀ j w, P e.2.1 j w → P e.1 j (e.2.2 + w)) (h : Wk E i j w) : P i j w := by
  obtain ⟨es, hc, rfl⟩ := h
  induction es generalizing i with
  | nil =>
    have hc : i = j := hc
    rw [hc]; exact h0 j
  | cons e es ih =>
    obtain ⟨a, b, c⟩ := hc
    rw [wt_cons, ← b]
    exact h1 e a j _ (ih c)
theorem Keeps.wk {t : Int → Int} (h : Keeps E t) (q : Wk E i j w) : t j - t i ≤ w :=
  q.ind (P := fun i j w => t j - t i ≤ w) (fun i => by omega) fun e he j w hw => by have := h e he; omega
theorem Keeps.fit {t : Int → Int} (h : Keeps E t) : ¬ Neg N E := fun ⟨i, w, _, hw, q⟩ => by
  have := h.wk q
  omega
theorem Keeps.mono {t : Int → Int} (h : ∀ e ∈ E, e ∈ E') (q : Keeps E' t) : Keeps E t := fun e he => q e (h e he)
/-! ### least weights -/
structure Cl (N : Nat) (E : List Edge) (D : Int → Int → Option Int) : Prop where
  f1 : ∀ i j w, D i j = some w → inN N i ∧ inN N j ∧ Wk E i j w
  f2 : ∀ i j w, inN N i → Wk E i j w → ∃ d, D i j = some d ∧ d ≤ w
variable {D D' : Int → Int → Option Int}
theorem Cl.uniq (h : Cl N E D) (h' : Cl N E' D') (e : ∀ i j w, inN N i → Wk E i j w → ∃ w', w' ≤ w ∧ Wk E' i j w') (e' : ∀ i j w, inN N i → Wk E' i j w → ∃ w', w' ≤ w ∧ Wk E i j w') (i j : Int) : D i j = D' i j := by
  cases hd : D i j with
  | some w =>
    obtain ⟨a, b, c⟩ := h.f1 i j w hd
    obtain ⟨w1, l1, c1⟩ := e i j w a c
    obtain ⟨d, e1, l2⟩ := h'.f2 i j w1 a c1
    obtain ⟨_, _, c2⟩ := h'.f1 i j d e1
    obtain ⟨w2, l3, c3⟩ := e' i j d a c2
    obtain ⟨d2, e2, l4⟩ := h.f2 i j w2 a c3
    rw [hd] at e2
    cases e2
    rw [e1]
    congr 1
    omega
  | none =>
    cases hd' : D' i j with
    | none => rfl
    | some w =>
      obtain ⟨a, b, c⟩ := h'.f1 i j w hd'
      obtain ⟨w1, l1, c1⟩ := e' i j w a c
      obtain ⟨d, e1, _⟩ := h.f2 i j w1 a c1
      rw [hd] at e1; cases e1
theorem Cl.same (h : Cl N E D) (h' : Cl N E D') (i j : Int) : D i j = D' i j := h.uniq h' (fun i j w _ q => ⟨w, Int.le_refl _, q⟩) (fun i j w _ q => ⟨w, Int.le_refl _, q⟩) i j
/-! ### the least times -/
structure Et (N : Nat) (E : List Edge) (t : Int → Int) : Prop where
  nn : ∀ k, inN N k → 0 ≤ t k
  kp : Keeps E t
  ti : ∀ k, inN N k → t k = 0 ∨ ∃ j w, inN N j ∧ Wk E k j w ∧ t k = -w
theorem Et.le {t t' : Int → Int} (h : Et N E t) (kp : Keeps E t') (nn : ∀ k, inN N k → 0 ≤ t' k) (k : Int) (hk : inN N k) : t k ≤ t' k := by
  rcases h.ti k hk with e | ⟨j, w, hj, hw, e⟩
  · have := nn k hk; omega
  · have := kp.wk hw
    have := nn j hj
    omega
theorem Et.uniq {t t' : Int → Int} (h : Et N E t) (h' : Et N E t') (k : Int) (hk : inN N k) : t k = t' k := Int.le_antisymm (h.le h'.kp h'.nn k hk) (h'.le h.kp h.nn k hk)
theorem Cl.dg (h : Cl N E D) (n : ¬ Neg N E) {k : Int} (hk : inN N k) : D k k = some 0 := by
  obtain ⟨d, e, l⟩ := h.f2 k k 0 hk (.nil E k)
  obtain ⟨_, _, c⟩ := h.f1 k k d e
  have : ¬ d < 0 := fun z => n ⟨k, d, hk, z, c⟩
  rw [e]; congr 1; omega
/-- a greatest number of some -/
theorem Cl.et (h : Cl N E D) (ok : OkE N E) {t : Int → Int} (h1 : ∀ k, inN N k → 0 ≤ t k ∧ ∀ j d, D k j = some d → -d ≤ t k) (h2 : ∀ k, inN N k → t k = 0 ∨ ∃ j d, D k j = some d ∧ t k = -d) : Et N E t where
  nn := fun k hk => (h1 k hk).1
  kp := fun e he => by
    obtain ⟨ha, hb⟩ := ok e he
    rcases h2 _ hb with q | ⟨j, d, hd, q⟩
    · obtain ⟨d, e1, l⟩ := h.f2 _ _ _ ha (.one he)
      have := (h1 _ ha).2 _ _ e1
      omega
    · obtain ⟨_, _, c⟩ := h.f1 _ _ _ hd
      obtain ⟨d', e1, l⟩ := h.f2 _ _ _ ha ((Wk.one he).app c)
      have := (h1 _ ha).2 _ _ e1
      omega
  ti := fun k hk => by
    rcases h2 k hk with q | ⟨j, d, hd, q⟩
    · exact .inl q
    · obtain ⟨_, b, c⟩ := h.f1 _ _ _ hd
      exact .inr ⟨j, d, b, c, q⟩
/-! ### walks without turning back -/
theorem dup_split : ∀ (es : List Edge), ¬ (es.map (·.1)).Nodup → ∃ p e q e' r, es = p ++ (e :: q) ++ (e' :: r) ∧ e.1 = e'.1
  | [], h => absurd List.nodup_nil h
  | x :: es, h => by
    rw [List.map_cons, List.nodup_cons] at h
    by_cases hx : x.1 ∈ es.map (·.1)
    · obtain ⟨e', he, e1⟩ := List.mem_map.mp hx
      obtain ⟨q, r, rfl⟩ := List.append_of_mem he
      exact ⟨[], x, q, e', r, by simp, e1.symm⟩
    · have : ¬ (es.map (·.1)).Nodup := fun z => h ⟨hx, z⟩
      obtain ⟨p, e, q, e', r, e1, e2⟩ := dup_split es this
      exact ⟨x :: p, e, q, e', r, by rw [e1]; simp, e2⟩
theorem Ch.cut {p q r : List Edge} {e e' : Edge} (h : Ch E i j (p ++ (e :: q) ++ (e' :: r))) (he : e.1 = e'.1) : Ch E i e.1 p ∧ Ch E e.1 e.1 (e :: q) ∧ Ch E e.1 j (e' :: r) := by
  obtain ⟨k, h1, h2⟩ := Ch.split h
  obtain ⟨k2, h3, h4⟩ := Ch.split h1
  have e1 : e.1 = k2 := h4.2.1
  have e2 : e'.1 = k := h2.2.1
  rw [← e1] at h3 h4
  rw [← e2, ← he] at h4 h2
  exact ⟨h3, h4, h2⟩
theorem shorten (n : ¬ Neg N E) (ok : OkE N E) : ∀ (m : Nat) {i j : Int} {es : List Edge}, es.length ≤ m → Ch E i j es → ∃ es', Ch E i j es' ∧ wt es' ≤ wt es ∧ (es'.map (·.1)).Nodup
  | 0, i, j, es, hl, h => by
    have : es = [] := List.length_eq_zero_iff.mp (by omega)
    subst this
    exact ⟨[], h, Int.le_refl _, List.nodup_nil⟩
  | m + 1, i, j, es, hl, h => by
    by_cases hd : (es.map (·.1)).Nodup
    · exact ⟨es, h, Int.le_refl _, hd⟩
    · obtain ⟨p, e, q, e', r, rfl, he⟩ := dup_split es hd
      obtain ⟨h1, h2, h3⟩ := h.cut he
      have hw : 0 ≤ wt (e :: q) := by
        apply Classical.byContradiction
        intro z
        exact n ⟨e.1, _, (ok e (h2.1)).1, by omega, e :: q, h2, rfl⟩
      obtain ⟨es', a, b, c⟩ := shorten n ok m (es := p ++ (e' :: r)) (by simp at hl ⊢; omega) (h1.app h3)
      refine ⟨es', a, ?_, c⟩
      rw [wt_app] at b
      rw [wt_app, wt_app]
      omega
/-- a negative round has one that comes to no point twice -/
theorem round (ok : OkE N E) : ∀ (m : Nat) {i : Int} {es : List Edge}, es.length ≤ m → Ch E i i es → wt es < 0 → ∃ i' es', inN N i' ∧ Ch E i' i' es' ∧ wt es' < 0 ∧ (es'.map (·.1)).Nodup
  | 0, i, es, hl, h, hw => by
    have : es = [] := List.length_eq_zero_iff.mp (by omega)
    subst this
    rw [wt_nil] at hw; omega
  | m + 1, i, es, hl, h, hw => by
    by_cases hd : (es.map (·.1)).Nodup
    · refine ⟨i, es, ?_, h, hw, hd⟩
      cases es with
      | nil => rw [wt_nil] at hw; omega
      | cons e es => rw [← h.2.1]; exact (ok e h.1).1
    · obtain ⟨p, e, q, e', r, rfl, he⟩ := dup_split es hd
      obtain ⟨h1, h2, h3⟩ := h.cut he
      by_cases hz : wt (e :: q) < 0
      · exact round ok m (es := e :: q) (by simp at hl ⊢; omega) h2 hz
      · refine round ok m (es := p ++ (e' :: r)) (by simp at hl ⊢; omega) (h1.app h3) ?_
        rw [wt_app, wt_app] at hw
        rw [wt_app]; omega
end
/-! ### the rounds of closed_of -/
def sumO : Option Int → Option Int → Option Int
  | some a, some b => some (a + b)
  | _, _ => none
def mnO : Option Int → Option Int → Option Int
  | none, y => y
  | some a, none => some a
  | some a, some b => some (min a b)
theorem mnO_some {x y : Option Int} {z : Int} (h : mnO x y = some z) : x = some z ∨ y = some z := by
  cases x with
  | none => exact .inr h
  | some a =>
    cases y with
    | none => exact .inl h
    | some b =>
      have h : min a b = z := Option.some.inj h
      rcases Int.le_total a b with q | q
      · left; rw [← h]; congr 1; omega
      · right; rw [← h]; congr 1; omega
theorem mnO_l {x y : Option Int} {a : Int} (h : x = some a) : ∃ z, mnO x y = some z ∧ z ≤ a := by
  subst h
  cases y with
  | none => exact ⟨a, rfl, Int.le_refl _⟩
  | some b => exact ⟨min a b, rfl, Int.min_le_left ..⟩
theorem mnO_r {x y : Option Int} {b : Int} (h : y = some b) : ∃ z, mnO x y = some z ∧ z ≤ b := by
  subst h
  cases x with
  | none => exact ⟨b, rfl, Int.le_refl _⟩
  | some a => exact ⟨min a b, rfl, Int.min_le_right ..⟩
theorem sumO_some {x y : Option Int} {z : Int} (h : sumO x y = some z) : ∃ a b, x = some a ∧ y = some b ∧ z = a + b := by
  cases x with
  | none => cases h
  | some a =>
    cases y with
    | none => cases h
    | some b => exact ⟨a, b, rfl, rfl, (Option.some.inj h).symm⟩
def Tri (D : Int → Int → Option Int) (k : Int) : Prop := ∀ i j x y, D i k = some x → D k j = some y → ∃ z, D i j = some z ∧ z ≤ x + y
def rnd (D : Int → Int → Option Int) (k : Int) (i j : Int) : Option Int := mnO (D i j) (sumO (D i k) (D k j))
section
variable {N : Nat} {E : List Edge} {D D' : Int → Int → Option Int} {k : Int}
theorem rnd_le (i j : Int) {x : Int} (h : D i j = some x) : ∃ z, rnd D k i j = some z ∧ z ≤ x := mnO_l h
theorem rnd_via {i j x y : Int} (h : D i k = some x) (h' : D k j = some y) : ∃ z, rnd D k i j = some z ∧ z ≤ x + y := mnO_r (by rw [h, h']; rfl)
theorem rnd_row {d : Int} (h : D k k = some d) (h0 : 0 ≤ d) (j : Int) : rnd D k k j = D k j := by
  unfold rnd
  rw [h]
  cases D k j with
  | none => rfl
  | some y =>
    show some (min y (d + y)) = some y
    congr 1; omega
theorem rnd_col {d : Int} (h : D k k = some d) (h0 : 0 ≤ d) (i : Int) : rnd D k i k = D i k := by
  unfold rnd
  rw [h]
  cases D i k with
  | none => rfl
  | some y =>
    show some (min y (y + d)) = some y
    congr 1; omega
theorem tri_rnd {P : Int → Prop} (h : ∀ k, P k → Tri D k) {d : Int} (hd : D k k = some d) (h0 : 0 ≤ d) : ∀ q, P q ∨ q = k → Tri (rnd D k) q := by
  intro q hq i j x y hx hy
  by_cases e : q = k
  · subst e
    rw [rnd_col hd h0] at hx
    rw [rnd_row hd h0] at hy
    exact rnd_via hx hy
  · have hP : P q := hq.resolve_right e
    have T := h q hP
    rcases mnO_some hx with hx | hx <;> rcases mnO_some hy with hy | hy
    · obtain ⟨z, e1, l1⟩ := T i j x y hx hy
      obtain ⟨z2, e2, l2⟩ := rnd_le (k := k) i j e1
      exact ⟨z2, e2, by omega⟩
    · obtain ⟨a, b, e1, e2, rfl⟩ := sumO_some hy
      obtain ⟨z, e3, l3⟩ := T i k x a hx e1
      obtain ⟨z2, e4, l4⟩ := rnd_via e3 e2
      exact ⟨z2, e4, by omega⟩
    · obtain ⟨a, b, e1, e2, rfl⟩ := sumO_some hx
      obtain ⟨z, e3, l3⟩ := T k j b y e2 hy
      obtain ⟨z2, e4, l4⟩ := rnd_via e1 e3
      exact ⟨z2, e4, by omega⟩
    · obtain ⟨a, b, e1, e2, rfl⟩ := sumO_some hx
      obtain ⟨a', b', e3, e4, rfl⟩ := sumO_some hy
      obtain ⟨z, e5, l5⟩ := T k k b a' e2 e3
      rw [hd] at e5
      cases e5
      obtain ⟨z2, e6, l6⟩ := rnd_via e1 e4
      exact ⟨z2, e6, by omega⟩
/-- every number is a walk's -/
def Real (N : Nat) (E : List Edge) (D : Int → Int → Option Int) : Prop := ∀ i j w, D i j = some w → inN N i ∧ inN N j ∧ Wk E i j w
theorem Real.rnd (h : Real N E D) : Real N E (rnd D k) := by
  intro i j w hw
  rcases mnO_some hw with hw | hw
  · exact h i j w hw
  · obtain ⟨a, b, e1, e2, rfl⟩ := sumO_some hw
    obtain ⟨p1, _, p3⟩ := h _ _ _ e1
    obtain ⟨_, p2, p4⟩ := h _ _ _ e2
    exact ⟨p1, p2, p3.app p4⟩
/-- what the bounds themselves ask -/
structure Base (N : Nat) (E : List Edge) (D : Int → Int → Option Int) : Prop where
  real : Real N E D
  dg : ∀ i, inN N i → ∃ d, D i i = some d ∧ d ≤ 0
  ed : ∀ e ∈ E, ∃ d, D e.1 e.2.1 = some d ∧ d ≤ e.2.2
theorem Base.le (h : Base N E D) (r : Real N E D') (l : ∀ i j x, D i j = some x → ∃ y, D' i j = some y ∧ y ≤ x) : Base N E D' where
  real := r
  dg := fun i hi => by
    obtain ⟨d, e, q⟩ := h.dg i hi
    obtain ⟨y, e2, q2⟩ := l _ _ _ e
    exact ⟨y, e2, by omega⟩
  ed := fun x hx => by
    obtain ⟨d, e, q⟩ := h.ed x hx
    obtain ⟨y, e2, q2⟩ := l _ _ _ e
    exact ⟨y, e2, by omega⟩
theorem Base.cl (h : Base N E D) (T : ∀ k, inN N k → Tri D k) : Cl N E D where
  f1 := h.real
  f2 := fun i j w hi hw => by
    have : inN N i → ∃ d, D i j = some d ∧ d ≤ w := hw.ind (P := fun i j w => inN N i → ∃ d, D i j = some d ∧ d ≤ w) (fun i hi => h.dg i hi) fun e he j w ih hi => by
      obtain ⟨d, e1, l1⟩ := h.ed e he
      have hb := (h.real _ _ _ e1).2.1
      obtain ⟨d2, e2, l2⟩ := ih hb
      obtain ⟨z, e3, l3⟩ := T _ hb _ _ _ _ e1 e2
      exact ⟨z, e3, by omega⟩
    exact this hi
end
end K43

/-! P2: closed nets. -/
namespace K43
open PySem L2 Nz Hh
abbrev Mat := List (List (Option Int))
def Dm (M : Mat) (i j : Int) : Option Int := if 0 ≤ i ∧ 0 ≤ j then ((M[i.toNat]?).bind fun row => row[j.toNat]?).getD none else none
structure Sq (N : Nat) (M : Mat) : Prop where
  len : M.length = N
  row : ∀ r ∈ M, r.length = N
section
variable {N : Nat} {M : Mat} {i j : Int} {E : List Edge}
theorem atI_in {α : Type} {l : List α} {i : Int} (h : 0 ≤ i) : atI l i = l[i.toNat]? := by
  obtain ⟨n, rfl⟩ := Int.eq_ofNat_of_zero_le h
  rw [Hh.atI_nat, Int.toNat_natCast]
theorem ixN_in {n : Nat} {i : Int} (h : 0 ≤ i) (h' : i < (n : Int)) : ixN n i = some i.toNat := by
  unfold ixN
  rw [if_pos h, if_pos h']
theorem Sq.get (S : Sq N M) (hi : inN N i) (hj : inN N j) : ∃ row, atI M i = some row ∧ row ∈ M ∧ M[i.toNat]? = some row ∧ atI row j = some (Dm M i j) := by
  have h1 : i.toNat < M.length := by rw [S.len]; have := hi.2; omega
  have hr := S.row _ (List.getElem_mem h1)
  have h2 : j.toNat < (M[i.toNat]).length := by rw [hr]; have := hj.2; omega
  refine ⟨M[i.toNat], ?_, List.getElem_mem h1, List.getElem?_eq_getElem h1, ?_⟩
  · rw [atI_in hi.1, List.getElem?_eq_getElem h1]
  · rw [atI_in hj.1, List.getElem?_eq_getElem h2]
    unfold Dm
    rw [if_pos ⟨hi.1, hj.1⟩, List.getElem?_eq_getElem h1]
    show _ = some ((M[i.toNat][j.toNat]?).getD none)
    rw [List.getElem?_eq_getElem h2]
    rfl
theorem Sq.put (S : Sq N M) (hi : inN N i) (hj : inN N j) (v : Option Int) : ∃ row, atI M i = some row ∧ ixN M.length i = some i.toNat ∧ ixN row.length j = some j.toNat ∧ Sq N (M.set i.toNat (row.set j.toNat v)) ∧ ∀ a b, Dm (M.set i.toNat (row.set j.toNat v)) a b = if a = i ∧ b = j then v else Dm M a b := by
  obtain ⟨row, h1, h2, h3, h4⟩ := S.get hi hj
  have hr := S.row row h2
  have hl : i.toNat < M.length := by rw [S.len]; have := hi.2; omega
  refine ⟨row, h1, ixN_in hi.1 (by rw [S.len]; exact hi.2), ixN_in hj.1 (by rw [hr]; exact hj.2), ⟨by rw [List.length_set]; exact S.len, fun r hm => ?_⟩, fun a b => ?_⟩
  · rcases List.mem_or_eq_of_mem_set hm with hm | rfl
    · exact S.row r hm
    · rw [List.length_set]; exact hr
  · unfold Dm
    by_cases h0 : 0 ≤ a ∧ 0 ≤ b
    · rw [if_pos h0, if_pos h0]
      by_cases ea : a = i
      · subst ea
        rw [List.getElem?_set_self hl, h3]
        show ((row.set j.toNat v)[b.toNat]?).getD none = if a = a ∧ b = j then v else (row[b.toNat]?).getD none
        by_cases eb : b = j
        · subst eb
          rw [List.getElem?_set_self (by rw [hr]; have := hj.2; omega), if_pos ⟨rfl, rfl⟩]
          rfl
        · rw [List.getElem?_set_ne (fun e => eb (by have := hj.1; omega)), if_neg fun z => eb z.2]
      · rw [List.getElem?_set_ne (fun e => ea (by have := hi.1; omega)), if_neg fun z => ea z.1]
    · rw [if_neg h0, if_neg h0, if_neg fun z => h0 ⟨by rw [z.1]; exact hi.1, by rw [z.2]; exact hj.1⟩]
theorem Dm_out (S : Sq N M) (h : ¬ (inN N i ∧ inN N j)) : Dm M i j = none := by
  unfold Dm
  split
  · rename_i h0
    by_cases hi : inN N i
    · have h1 : i.toNat < M.length := by rw [S.len]; have := hi.2; omega
      have hj : ¬ inN N j := fun z => h ⟨hi, z⟩
      have hr := S.row _ (List.getElem_mem h1)
      rw [List.getElem?_eq_getElem h1]
      show ((M[i.toNat])[j.toNat]?).getD none = none
      rw [List.getElem?_eq_none (by rw [hr]; have : ¬ j < (N : Int) := fun z => hj ⟨h0.2, z⟩; omega)]
      rfl
    · rw [List.getElem?_eq_none (by rw [S.len]; have : ¬ i < (N : Int) := fun z => hi ⟨h0.1, z⟩; omega)]
      rfl
  · rfl
theorem mem_rg {i : Int} : i ∈ rg (N : Int) ↔ inN N i := by
  rw [rg_nat, List.mem_map]
  constructor
  · rintro ⟨n, hn, rfl⟩
    have := List.mem_range.mp hn
    exact ⟨by omega, by omega⟩
  · rintro ⟨a, b⟩
    exact ⟨i.toNat, List.mem_range.mpr (by omega), by omega⟩
/-- matrices by a rule -/
def mkM (N : Nat) (f : Int → Int → Option Int) : Mat := (rg (N : Int)).map fun i => (rg (N : Int)).map fun j => f i j
theorem mkM_sq (f : Int → Int → Option Int) : Sq N (mkM N f) := by
  refine ⟨by unfold mkM; rw [rg_nat]; simp, fun r hr => ?_⟩
  unfold mkM at hr
  obtain ⟨i, _, rfl⟩ := List.mem_map.mp hr
  rw [rg_nat]; simp
theorem mkM_get (f : Int → Int → Option Int) (hi : inN N i) (hj : inN N j) : Dm (mkM N f) i j = f i j := by
  unfold Dm mkM
  rw [if_pos ⟨hi.1, hj.1⟩, rg_nat, List.map_map, List.getElem?_map, List.getElem?_range (by have := hi.2; omega)]
  show ((List.map _ (List.map _ (List.range N)))[j.toNat]?).getD none = _
  rw [List.map_map, List.getElem?_map, List.getElem?_range (by have := hj.2; omega)]
  show f ((i.toNat : Nat) : Int) ((j.toNat : Nat) : Int) = f i j
  rw [Int.toNat_of_nonneg hi.1, Int.toNat_of_nonneg hj.1]
theorem Sq.ext {M' : Mat} (S : Sq N M) (S' : Sq N M') (h : ∀ i j, inN N i → inN N j → Dm M i j = Dm M' i j) : M = M' := by
  apply List.ext_getElem (by rw [S.len, S'.len])
  intro a h1 h2
  have r1 := S.row _ (List.getElem_mem h1)
  have r2 := S'.row _ (List.getElem_mem h2)
  apply List.ext_getElem (by rw [r1, r2])
  intro b h3 h4
  have := h (a : Int) (b : Int) ⟨by omega, by rw [← S.len]; omega⟩ ⟨by omega, by rw [← r1]; omega⟩
  unfold Dm at this
  rw [if_pos ⟨by omega, by omega⟩, if_pos ⟨by omega, by omega⟩] at this
  simp only [Int.toNat_natCast, List.getElem?_eq_getElem h1, List.getElem?_eq_getElem h2] at this
  have e1 : ((some M[a]).bind fun row => row[b]?) = some M[a][b] := by show M[a][b]? = _; exact List.getElem?_eq_getElem h3
  have e2 : ((some M'[a]).bind fun row => row[b]?) = some M'[a][b] := by show M'[a][b]? = _; exact List.getElem?_eq_getElem h4
  rw [e1, e2] at this
  exact this
/-- what closed_of gives -/
structure CS (N : Nat) (E : List Edge) (M : Mat) : Prop where
  sq : Sq N M
  bs : Base N E (Dm M)
  tr : (∀ i, inN N i → ∃ d, Dm M i i = some d ∧ 0 ≤ d) → ∀ k, inN N k → Tri (Dm M) k
/-- the bounds, put in one by one -/
structure EdI (N : Nat) (E : List Edge) (pre : List Edge) (D : Int → Int → Option Int) : Prop where
  real : Real N E D
  dg : ∀ i, inN N i → ∃ d, D i i = some d ∧ d ≤ 0
  ed : ∀ e ∈ pre, ∃ d, D e.1 e.2.1 = some d ∧ d ≤ e.2.2
theorem EdI.start (E : List Edge) : EdI N E [] (Dm (mkM N fun i j => if i = j then some 0 else none)) := by
  refine ⟨fun i j w h => ?_, fun i hi => ⟨0, by rw [mkM_get _ hi hi, if_pos rfl], Int.le_refl _⟩, by simp⟩
  by_cases q : inN N i ∧ inN N j
  · rw [mkM_get _ q.1 q.2] at h
    split at h
    · rename_i e
      cases h
      subst e
      exact ⟨q.1, q.1, .nil E i⟩
    · cases h
  · rw [Dm_out (mkM_sq _) q] at h; cases h
theorem EdI.put {pre : List Edge} {D D' : Int → Int → Option Int} {e : Edge} (I : EdI N E pre D) (ok : OkE N E) (he : e ∈ E) (h : ∀ a b, D' a b = if a = e.1 ∧ b = e.2.1 then mnO (D a b) (some e.2.2) else D a b) : EdI N E (pre ++ [e]) D' := by
  have le : ∀ i j x, D i j = some x → ∃ y, D' i j = some y ∧ y ≤ x := fun i j x hx => by
    rw [h]
    split
    · exact mnO_l hx
    · exact ⟨x, hx, Int.le_refl _⟩
  refine ⟨fun i j w hw => ?_, fun i hi => ?_, fun x hx => ?_⟩
  · rw [h] at hw
    split at hw
    · rename_i q
      rcases mnO_some hw with hw | hw
      · exact I.real i j w hw
      · cases hw
        rw [q.1, q.2]
        exact ⟨(ok e he).1, (ok e he).2, .one he⟩
    · exact I.real i j w hw
  · obtain ⟨d, e1, l⟩ := I.dg i hi
    obtain ⟨y, e2, l2⟩ := le _ _ _ e1
    exact ⟨y, e2, by omega⟩
  · rcases List.mem_append.mp hx with hx | hx
    · obtain ⟨d, e1, l⟩ := I.ed x hx
      obtain ⟨y, e2, l2⟩ := le _ _ _ e1
      exact ⟨y, e2, by omega⟩
    · rw [List.mem_singleton.mp hx, h, if_pos ⟨rfl, rfl⟩]
      exact mnO_r rfl
theorem EdI.base {D : Int → Int → Option Int} (I : EdI N E E D) : Base N E D := ⟨I.real, I.dg, I.ed⟩
/-- while a round goes on -/
structure RdI (N : Nat) (E : List Edge) (D0 : Int → Int → Option Int) (k : Int) (done : Int → Int → Prop) (D : Int → Int → Option Int) : Prop where
  real : Real N E D
  le : ∀ i j x, D0 i j = some x → ∃ y, D i j = some y ∧ y ≤ x
  eq : ∀ d, D0 k k = some d → 0 ≤ d → ∀ i j, (done i j → D i j = rnd D0 k i j) ∧ (¬ done i j → D i j = D0 i j)
theorem RdI.cong {D0 D : Int → Int → Option Int} {k : Int} {d1 d2 : Int → Int → Prop} (I : RdI N E D0 k d1 D) (h : ∀ i j, inN N i → inN N j → (d1 i j ↔ d2 i j)) (r0 : Real N E D0) : RdI N E D0 k d2 D := by
  refine ⟨I.real, I.le, fun d hd h0 i j => ?_⟩
  by_cases q : inN N i ∧ inN N j
  · have := I.eq d hd h0 i j
    rw [h i j q.1 q.2] at this
    exact this
  · have hD : D i j = none := by
      cases e : D i j with
      | none => rfl
      | some w => obtain ⟨a, b, _⟩ := I.real i j w e; exact (q ⟨a, b⟩).elim
    have h0' : D0 i j = none := by
      cases e : D0 i j with
      | none => rfl
      | some w => obtain ⟨a, b, _⟩ := r0 i j w e; exact (q ⟨a, b⟩).elim
    have hr : rnd D0 k i j = none := by
      cases e : rnd D0 k i j with
      | none => rfl
      | some w => obtain ⟨a, b, _⟩ := (r0.rnd (k := k)) i j w e; exact (q ⟨a, b⟩).elim
    exact ⟨fun _ => by rw [hD, hr], fun _ => by rw [hD, h0']⟩
/-- one place of a round -/
theorem RdI.put {D0 D D' : Int → Int → Option Int} {k : Int} {done : Int → Int → Prop} {i j : Int} (I : RdI N E D0 k done D) (nd : ¬ done i j) (h : ∀ a b, D' a b = if a = i ∧ b = j then rnd D k i j else D a b) : RdI N E D0 k (fun a b => done a b ∨ a = i ∧ b = j) D' := by
  refine ⟨fun a b w hw => ?_, fun a b x hx => ?_, fun d hd h0 a b => ?_⟩
  · rw [h] at hw
    split at hw
    · rename_i q
      rw [q.1, q.2]
      exact (I.real.rnd (k := k)) i j w hw
    · exact I.real a b w hw
  · obtain ⟨y, e1, l1⟩ := I.le a b x hx
    rw [h]
    split
    · rename_i q
      rw [q.1, q.2] at e1
      obtain ⟨z, e2, l2⟩ := rnd_le (k := k) i j e1
      exact ⟨z, e2, by omega⟩
    · exact ⟨y, e1, l1⟩
  · have eik : ∀ a, D a k = D0 a k := fun a => by
      by_cases q : done a k
      · rw [(I.eq d hd h0 a k).1 q, rnd_col hd h0]
      · exact (I.eq d hd h0 a k).2 q
    have ekj : ∀ b, D k b = D0 k b := fun b => by
      by_cases q : done k b
      · rw [(I.eq d hd h0 k b).1 q, rnd_row hd h0]
      · exact (I.eq d hd h0 k b).2 q
    constructor
    · rintro (q | ⟨rfl, rfl⟩)
      · rw [h, if_neg fun z => nd (by rw [← z.1, ← z.2]; exact q)]
        exact (I.eq d hd h0 a b).1 q
      · rw [h, if_pos ⟨rfl, rfl⟩]
        unfold rnd
        rw [eik, ekj, (I.eq d hd h0 a b).2 nd]
    · intro q
      rw [h, if_neg fun z => q (.inr z)]
      exact (I.eq d hd h0 a b).2 fun z => q (.inl z)
theorem rnd_end {D0 D : Int → Int → Option Int} {k : Int} {P : Int → Prop} (B : Base N E D0) (hk : inN N k) (I : RdI N E D0 k (fun _ _ => True) D)
    (T : (∀ i, inN N i → ∃ d, D0 i i = some d ∧ 0 ≤ d) → ∀ q, P q → Tri D0 q) : Base N E D ∧ ((∀ i, inN N i → ∃ d, D i i = some d ∧ 0 ≤ d) → ∀ q, P q ∨ q = k → Tri D q) := by
  refine ⟨B.le I.real I.le, fun hd q hq => ?_⟩
  have hd0 : ∀ i, inN N i → ∃ d, D0 i i = some d ∧ 0 ≤ d := fun i hi => by
    obtain ⟨d, e, _⟩ := B.dg i hi
    obtain ⟨y, e2, l2⟩ := I.le _ _ _ e
    obtain ⟨y', e3, l3⟩ := hd i hi
    rw [e2] at e3
    cases e3
    exact ⟨d, e, by omega⟩
  obtain ⟨d, e, l⟩ := hd0 k hk
  have eD : D = rnd D0 k := funext fun i => funext fun j => (I.eq d e l i j).1 trivial
  rw [eD]
  exact tri_rnd (P := P) (T hd0) e l q hq
end
theorem closed_of_of {N : Nat} {E : List Edge} (h2 : N ≤ 8) (ok : OkE N E) {k : Mat → Prop} (q : ∀ M, CS N E M → k M) : (m_closed_of ((N : Int), E)).wp k := by
  unfold m_closed_of
  refine Pg.out_of ?_
  have hN : -100000 ≤ (N : Int) ∧ (N : Int) ≤ 100000 := by omega
  simp only [Pg.pure_bnd]
  refine Pg.ask_of hN ?_
  refine Pg.bnd_of (Pg.comp_of (fun _ => true) (fun i => (rg (N : Int)).map fun j => if decide (i = j) = true then some (0 : Int) else none) _ (fun _ _ => rfl) fun i hi _ => Pg.ask_of hN (Pg.bnd_of (Pg.comp_of (fun _ => true) (fun j => if decide (i = j) = true then some (0 : Int) else none) _ (fun _ _ => rfl) fun j hj _ => ?_) ?_)) ?_
  · rw [Pg.ifG_pure]
    cases decide (i = j) <;> rfl
  · rintro l rfl
    rw [filt_true]
    rfl
  rintro c7 rfl
  rw [filt_true]
  have e0 : ((rg (N : Int)).map fun i => (rg (N : Int)).map fun j => if decide (i = j) = true then some (0 : Int) else none) = mkM N fun i j => if i = j then some 0 else none := by
    unfold mkM
    simp only [decide_eq_true_eq]
  rw [e0]
  refine Pg.bnd_of (p := fun c => ∃ M, c = Ctl.nx M ∧ CS N E M) ?_ ?_
  · refine Pg.bnd_of (p := fun c => ∃ M, c = Ctl.nx M ∧ Sq N M ∧ EdI N E E (Dm M)) ?_ ?_
    · refine Pg.forc_of (fun pre M => Sq N M ∧ EdI N E pre (Dm M)) ⟨mkM_sq _, EdI.start E⟩ (fun pre e post M hE I => ?_) (fun M I => ⟨M, rfl, I⟩)
      obtain ⟨S, I⟩ := I
      have hE : E = pre ++ e :: post := hE
      have he : e ∈ E := by rw [hE]; simp
      obtain ⟨ha, hb⟩ := ok e he
      obtain ⟨row, g1, g2, g3, g4⟩ := S.get ha hb
      let v : Bool := match Dm M e.1 e.2.1 with | none => true | some o => decide (e.2.2 < o)
      refine Pg.bnd_of (p := fun z => z = v) ?_ ?_
      · cases hD : Dm M e.1 e.2.1 with
        | none =>
          rw [hD] at g4
          have ev : v = true := by show (match Dm M e.1 e.2.1 with | none => true | some o => decide (e.2.2 < o)) = true; rw [hD]
          rw [ev]
          exact Pg.or_of (b1 := true) (b2 := false) (Pg.opt_of g1 (Pg.opt_of g4 rfl)) fun z => by cases z
        | some o =>
          rw [hD] at g4
          have ev : v = decide (e.2.2 < o) := by show (match Dm M e.1 e.2.1 with | none => true | some o => decide (e.2.2 < o)) = _; rw [hD]
          rw [ev]
          exact Pg.or_of (b1 := false) (b2 := decide (e.2.2 < o)) (Pg.opt_of g1 (Pg.opt_of g4 rfl)) fun _ => Pg.opt_of g1 (Pg.opt_of g4 (Pg.opt_of rfl rfl))
      rintro z rfl
      rw [iteG_pure]
      obtain ⟨row', p1, p2, p3, p4, p5⟩ := S.put ha hb (some e.2.2)
      cases hv : v with
      | true =>
        rw [if_pos rfl]
        refine ⟨row', p1, _, p2, _, p3, p4, I.put ok he fun a b => ?_⟩
        rw [p5]
        by_cases q : a = e.1 ∧ b = e.2.1
        · rw [if_pos q, if_pos q, q.1, q.2]
          have hv : (match Dm M e.1 e.2.1 with | none => true | some o => decide (e.2.2 < o)) = true := hv
          cases hD : Dm M e.1 e.2.1 with
          | none => rfl
          | some o =>
            rw [hD] at hv
            have := of_decide_eq_true hv
            show some e.2.2 = some (min o e.2.2)
            congr 1; omega
        · rw [if_neg q, if_neg q]
      | false =>
        rw [if_neg Bool.false_ne_true]
        refine ⟨S, I.put ok he fun a b => ?_⟩
        by_cases q : a = e.1 ∧ b = e.2.1
        · rw [if_pos q, q.1, q.2]
          have hv : (match Dm M e.1 e.2.1 with | none => true | some o => decide (e.2.2 < o)) = false := hv
          cases hD : Dm M e.1 e.2.1 with
          | none => rw [hD] at hv; cases hv
          | some o =>
            rw [hD] at hv
            have : ¬ e.2.2 < o := of_decide_eq_false hv
            show some o = some (min o e.2.2)
            congr 1; omega
        · rw [if_neg q]
    · rintro c ⟨M, rfl, S, I⟩
      rw [seqG_nx]
      refine Pg.ask_of hN ?_
      have step : ∀ (pre : List Int) (x : Int) (post : List Int), rg (N : Int) = pre ++ x :: post → inN N x ∧ x ∉ pre := fun pre x post e => by
        refine ⟨mem_rg.mp (by rw [e]; simp), fun z => ?_⟩
        obtain ⟨ex, _⟩ := rg_pre e
        obtain ⟨p, q, rfl⟩ := List.append_of_mem z
        have e2 : rg (N : Int) = p ++ x :: (q ++ x :: post) := by rw [e]; simp
        obtain ⟨ex2, _⟩ := rg_pre e2
        rw [ex] at ex2
        simp at ex2
        omega
      refine Pg.bnd_of (p := fun c => ∃ M, c = Ctl.nx M ∧ CS N E M) ?_ (fun c hc => by
        obtain ⟨M, rfl, hM⟩ := hc
        rw [seqG_nx]
        exact ⟨M, rfl, hM⟩)
      refine Pg.forc_of (fun pre M => Sq N M ∧ Base N E (Dm M) ∧ ((∀ i, inN N i → ∃ d, Dm M i i = some d ∧ 0 ≤ d) → ∀ q, q ∈ pre → Tri (Dm M) q)) ⟨S, I.base, fun _ q hq => by cases hq⟩ (fun pre kk post M0 hE I0 => ?_) (fun M I => ⟨M, rfl, I.1, I.2.1, fun hd k hk => I.2.2 hd k (mem_rg.mpr hk)⟩)
      obtain ⟨S0, B0, T0⟩ := I0
      obtain ⟨hk, hkn⟩ := step pre kk post hE
      refine Pg.ask_of hN ?_
      refine Pg.bnd_of (p := fun c => ∃ M, c = Ctl.nx M ∧ Sq N M ∧ RdI N E (Dm M0) kk (fun _ _ => True) (Dm M)) ?_ ?_
      · refine Pg.forc_of (fun preI M => Sq N M ∧ RdI N E (Dm M0) kk (fun a b => a ∈ preI) (Dm M)) ⟨S0, B0.real, fun i j x hx => ⟨x, hx, Int.le_refl _⟩, fun d hd h0 i j => ⟨fun z => (by cases z), fun _ => rfl⟩⟩ (fun preI ii postI M1 hI I1 => ?_) (fun M I => ⟨M, rfl, I.1, I.2.cong (fun i j hi hj => ⟨fun _ => trivial, fun _ => mem_rg.mpr hi⟩) B0.real⟩)
        obtain ⟨S1, I1⟩ := I1
        obtain ⟨hii, hin⟩ := step preI ii postI hI
        refine Pg.ask_of hN ?_
        refine Pg.bnd_of (p := fun c => ∃ M, c = Ctl.nx M ∧ Sq N M ∧ RdI N E (Dm M0) kk (fun a b => a ∈ preI ++ [ii]) (Dm M)) ?_ (fun c hc => by
          obtain ⟨M, rfl, hM⟩ := hc
          exact hM)
        refine Pg.forc_of (fun preJ M => Sq N M ∧ RdI N E (Dm M0) kk (fun a b => a ∈ preI ∨ a = ii ∧ b ∈ preJ) (Dm M)) ⟨S1, I1.cong (fun i j _ _ => by simp) B0.real⟩ (fun preJ jj postJ M2 hJ I2 => ?_) (fun M I => ⟨M, rfl, I.1, I.2.cong (fun i j hi hj => by
          rw [List.mem_append, List.mem_singleton]
          exact ⟨fun h => h.imp id fun h => h.1, fun h => h.imp id fun h => ⟨h, mem_rg.mpr hj⟩⟩) B0.real⟩)
        obtain ⟨S2, I2⟩ := I2
        obtain ⟨hjj, hjn⟩ := step preJ jj postJ hJ
        have nd : ¬ (ii ∈ preI ∨ ii = ii ∧ jj ∈ preJ) := fun z => z.elim hin fun z => hjn z.2
        have fin : ∀ {M3 : Mat}, Sq N M3 → (∀ a b, Dm M3 a b = if a = ii ∧ b = jj then rnd (Dm M2) kk ii jj else Dm M2 a b) → Sq N M3 ∧ RdI N E (Dm M0) kk (fun a b => a ∈ preI ∨ a = ii ∧ b ∈ preJ ++ [jj]) (Dm M3) := fun S3 h3 => ⟨S3, (I2.put nd h3).cong (fun i j _ _ => by
          rw [List.mem_append, List.mem_singleton]
          constructor
          · rintro ((h | h) | h)
            · exact .inl h
            · exact .inr ⟨h.1, .inl h.2⟩
            · exact .inr ⟨h.1, .inr h.2⟩
          · rintro (h | ⟨h1, h2 | h2⟩)
            · exact .inl (.inl h)
            · exact .inl (.inr ⟨h1, h2⟩)
            · exact .inr ⟨h1, h2⟩) B0.real⟩
        have keep : rnd (Dm M2) kk ii jj = Dm M2 ii jj → Sq N M2 ∧ RdI N E (Dm M0) kk (fun a b => a ∈ preI ∨ a = ii ∧ b ∈ preJ ++ [jj]) (Dm M2) := fun e => fin S2 fun a b => by
          split
          · rename_i q; rw [q.1, q.2, e]
          · rfl
        obtain ⟨r1, a1, _, _, a4⟩ := S2.get hii hk
        obtain ⟨r2, b1, _, _, b4⟩ := S2.get hk hjj
        obtain ⟨r3, c1, _, _, c4⟩ := S2.get hii hjj
        refine Pg.bnd_of (Pg.and_of (b1 := (Dm M2 ii kk).isSome) (b2 := (Dm M2 kk jj).isSome) (Pg.opt_of a1 (Pg.opt_of a4 rfl)) fun _ => Pg.opt_of b1 (Pg.opt_of b4 rfl)) ?_
        rintro z rfl
        rw [iteG_pure]
        cases hx : Dm M2 ii kk with
        | none =>
          rw [if_neg (by simp)]
          refine keep ?_
          unfold rnd
          rw [hx]
          cases Dm M2 ii jj <;> rfl
        | some x =>
          cases hy : Dm M2 kk jj with
          | none =>
            rw [if_neg (by simp)]
            refine keep ?_
            unfold rnd
            rw [hx, hy]
            cases Dm M2 ii jj <;> rfl
          | some y =>
            rw [if_pos (by simp)]
            rw [hx] at a4
            rw [hy] at b4
            have er : rnd (Dm M2) kk ii jj = mnO (Dm M2 ii jj) (some (x + y)) := by unfold rnd; rw [hx, hy]; rfl
            refine Pg.bnd_of (p := fun c => ∃ M3, c = Ctl.nx M3 ∧ Sq N M3 ∧ ∀ a b, Dm M3 a b = if a = ii ∧ b = jj then rnd (Dm M2) kk ii jj else Dm M2 a b) ?_ (fun c hc => by
              obtain ⟨M3, rfl, S3, h3⟩ := hc
              exact fin S3 h3)
            refine Pg.opt_of a1 (Pg.opt_of a4 (Pg.opt_of rfl (Pg.opt_of b1 (Pg.opt_of b4 (Pg.opt_of rfl ?_)))))
            let v : Bool := match Dm M2 ii jj with | none => true | some o => decide (x + y < o)
            refine Pg.bnd_of (p := fun z => z = v) ?_ ?_
            · cases hD : Dm M2 ii jj with
              | none =>
                rw [hD] at c4
                have ev : v = true := by show (match Dm M2 ii jj with | none => true | some o => decide (x + y < o)) = true; rw [hD]
                rw [ev]
                exact Pg.or_of (b1 := true) (b2 := false) (Pg.opt_of c1 (Pg.opt_of c4 rfl)) fun z => by cases z
              | some o =>
                rw [hD] at c4
                have ev : v = decide (x + y < o) := by show (match Dm M2 ii jj with | none => true | some o => decide (x + y < o)) = _; rw [hD]
                rw [ev]
                exact Pg.or_of (b1 := false) (b2 := decide (x + y < o)) (Pg.opt_of c1 (Pg.opt_of c4 rfl)) fun _ => Pg.opt_of c1 (Pg.opt_of c4 (Pg.opt_of rfl rfl))
            rintro z rfl
            rw [iteG_pure]
            obtain ⟨row', p1, p2, p3, p4, p5⟩ := S2.put hii hjj (some (x + y))
            cases hv : v with
            | true =>
              rw [if_pos rfl]
              refine ⟨row', p1, _, p2, _, p3, _, rfl, p4, fun a b => ?_⟩
              rw [p5, er]
              have hv : (match Dm M2 ii jj with | none => true | some o => decide (x + y < o)) = true := hv
              cases hD : Dm M2 ii jj with
              | none => rfl
              | some o =>
                rw [hD] at hv
                have := of_decide_eq_true hv
                have e : mnO (some o) (some (x + y)) = some (x + y) := by show some (min o (x + y)) = _; congr 1; omega
                rw [e]
            | false =>
              rw [if_neg Bool.false_ne_true]
              refine ⟨_, rfl, S2, fun a b => ?_⟩
              rw [er]
              have hv : (match Dm M2 ii jj with | none => true | some o => decide (x + y < o)) = false := hv
              cases hD : Dm M2 ii jj with
              | none => rw [hD] at hv; cases hv
              | some o =>
                rw [hD] at hv
                have : ¬ x + y < o := of_decide_eq_false hv
                have e : mnO (some o) (some (x + y)) = some o := by show some (min o (x + y)) = _; congr 1; omega
                rw [e]
                split
                · rename_i q; rw [q.1, q.2, hD]
                · rfl
      · rintro c ⟨M, rfl, SM, IM⟩
        rw [seqG_nx]
        obtain ⟨r1, r2⟩ := rnd_end (P := fun q => q ∈ pre) B0 hk IM T0
        exact ⟨SM, r1, fun hd q hq => r2 hd q (by
          rcases List.mem_append.mp hq with hq | hq
          · exact .inl hq
          · exact .inr (List.mem_singleton.mp hq))⟩
  · rintro c ⟨M, rfl, hM⟩
    show Pg.wp (Pg.comp _ _ _ >>= _) _
    refine Pg.bnd_of (Pg.comp_of (fun _ => true) id _ (fun _ _ => rfl) fun _ _ _ => rfl) ?_
    rintro l rfl
    rw [filt_true, List.map_id]
    exact q M hM
end K43

/-! P3: fits, keeps, times, rounds that are judged. -/
namespace K43
open PySem L2 Nz Hh
structure OkNet (N : Nat) (E : List Edge) : Prop where
  lo : 1 ≤ N
  hi : N ≤ 8
  ok : OkE N E
  w : ∀ e ∈ E, -99 ≤ e.2.2 ∧ e.2.2 ≤ 99
theorem decT {p : Prop} [Decidable p] (h : p) : decide p = true := decide_eq_true h
theorem dec2 {a b c : Int} (h : a ≤ b ∧ b < c) : (decide (a ≤ b) && decide (b < c)) = true := by rw [decT h.1, decT h.2]; rfl
theorem all_const {α : Type} (l : List α) : (l.map fun _ => true).all id = true := by rw [List.all_map]; exact List.all_eq_true.mpr fun _ _ => rfl
theorem any_const {α : Type} (l : List α) : (l.map fun _ => false).any id = false := by rw [List.any_map]; exact List.any_eq_false.mpr fun _ _ => Bool.false_ne_true
theorem outU_of {m : Pg (Ctl Unit Empty Unit)} {k : Unit → Prop} (h : m.wp (outU k)) : (Pg.outGU m).wp k := h
section
variable {N : Nat} {E : List Edge}
theorem check_net_of (h : OkNet N E) {k : Unit → Prop} (q : k ()) : (m_check_net ((N : Int), E)).wp k := by
  have lo := h.lo
  have hi := h.hi
  unfold m_check_net
  refine outU_of ?_
  simp only [Pg.pure_bnd, Pg.andG_pure]
  refine Pg.bnd_of (Pg.comp_of (fun _ => true) (fun _ => true) _ (fun _ _ => rfl) fun e he _ => ?_) ?_
  · obtain ⟨⟨a1, a2⟩, b1, b2⟩ := h.ok e he
    obtain ⟨c1, c2⟩ := h.w e he
    show (decide (0 ≤ e.1) && decide (e.1 < (N : Int)) && (decide (0 ≤ e.2.1) && decide (e.2.1 < (N : Int)) && (decide (-99 ≤ e.2.2) && decide (e.2.2 ≤ 99)))) = true
    rw [decT a1, decT a2, decT b1, decT b2, decT c1, decT c2]; rfl
  · rintro l rfl
    rw [Pg.orG_pure, Pg.pure_bnd, Pg.ifG_pure, filt_true, all_const]
    have e : (!(decide ((1 : Int) ≤ (N : Int)) && decide ((N : Int) ≤ 8))) = false := by rw [decT (by omega), decT (by omega)]; rfl
    rw [show (!(decide ((1 : Int) ≤ ((N : Int), E).1) && decide (((N : Int), E).1 ≤ 8))) = false from e]
    exact q
/-- from what is closed and fits -/
theorem CS.cl {M : Mat} (C : CS N E M) (n : ¬ Neg N E) : Cl N E (Dm M) := C.bs.cl (C.tr fun i hi => by
  obtain ⟨d, e, _⟩ := C.bs.dg i hi
  refine ⟨d, e, ?_⟩
  apply Classical.byContradiction
  intro z
  obtain ⟨_, _, c⟩ := C.bs.real i i d e
  exact n ⟨i, d, hi, by omega, c⟩)
/-- the least time of a point, by the closed net -/
def etf (N : Nat) (D : Int → Int → Option Int) (k : Int) : Int := maxL ([(0 : Int)] ++ ((rg (N : Int)).filter fun j => (D k j).isSome).map fun j => -((D k j).getD 0))
theorem Cl.etf {D : Int → Int → Option Int} (C : Cl N E D) (ok : OkE N E) : Et N E (etf N D) := by
  have sp : ∀ k, _ := fun k => maxL_spec (l := [(0 : Int)] ++ ((rg (N : Int)).filter fun j => (D k j).isSome).map fun j => -((D k j).getD 0)) (by simp)
  refine C.et ok (fun k hk => ⟨(sp k).2 0 (by simp), fun j d hd => (sp k).2 (-d) ?_⟩) (fun k hk => ?_)
  · refine List.mem_append_right _ (List.mem_map.mpr ⟨j, List.mem_filter.mpr ⟨mem_rg.mpr (C.f1 _ _ _ hd).2.1, by rw [hd]; rfl⟩, by rw [hd]; rfl⟩)
  · rcases List.mem_append.mp (sp k).1 with h | h
    · left; exact List.mem_singleton.mp h
    · right
      obtain ⟨j, hj, e⟩ := List.mem_map.mp h
      obtain ⟨_, hs⟩ := List.mem_filter.mp hj
      obtain ⟨d, hd⟩ := Option.isSome_iff_exists.mp hs
      exact ⟨j, d, hd, by unfold K43.etf; rw [← e, hd]; rfl⟩
/-- a net fits as it closes -/
theorem CS.fit {M : Mat} (C : CS N E M) (ok : OkE N E) : ¬ Neg N E ↔ ∀ i, inN N i → ∃ d, Dm M i i = some d ∧ 0 ≤ d := by
  constructor
  · intro n i hi
    exact ⟨0, (C.cl n).dg n hi, Int.le_refl _⟩
  · intro h
    have cl := C.bs.cl (C.tr h)
    exact (cl.etf ok).kp.fit
theorem ex_ed (ok : OkE N E) : ∀ (l pre : List Edge) (D : Int → Int → Option Int), (∀ e ∈ l, e ∈ E) → EdI N E pre D → ∃ D', EdI N E (pre ++ l) D'
  | [], pre, D, _, h => ⟨D, by rw [List.append_nil]; exact h⟩
  | e :: l, pre, D, hl, h => by
    obtain ⟨D', h'⟩ := ex_ed ok l (pre ++ [e]) _ (fun x hx => hl x (List.mem_cons_of_mem _ hx)) (h.put (D' := fun a b => if a = e.1 ∧ b = e.2.1 then mnO (D a b) (some e.2.2) else D a b) ok (hl e List.mem_cons_self) fun _ _ => rfl)
    exact ⟨D', by rw [List.append_assoc] at h'; exact h'⟩
theorem ex_rd : ∀ (l : List Int) (D : Int → Int → Option Int) (P : Int → Prop), (∀ k ∈ l, inN N k) → Base N E D → ((∀ i, inN N i → ∃ d, D i i = some d ∧ 0 ≤ d) → ∀ q, P q → Tri D q) → ∃ D', Base N E D' ∧ ((∀ i, inN N i → ∃ d, D' i i = some d ∧ 0 ≤ d) → ∀ q, P q ∨ q ∈ l → Tri D' q)
  | [], D, P, _, B, T => ⟨D, B, fun hd q hq => T hd q (hq.resolve_right (by simp))⟩
  | k :: l, D, P, hl, B, T => by
    obtain ⟨B1, T1⟩ := rnd_end (D := rnd D k) B (hl k List.mem_cons_self) ⟨B.real.rnd, fun i j x hx => rnd_le i j hx, fun d hd h0 i j => ⟨fun _ => rfl, fun z => (z trivial).elim⟩⟩ T
    obtain ⟨D', B2, T2⟩ := ex_rd l (rnd D k) (fun q => P q ∨ q = k) (fun q hq => hl q (List.mem_cons_of_mem _ hq)) B1 T1
    exact ⟨D', B2, fun hd q hq => T2 hd q (by
      rcases hq with hq | hq
      · exact .inl (.inl hq)
      · rcases List.mem_cons.mp hq with rfl | hq
        · exact .inl (.inr rfl)
        · exact .inr hq)⟩
theorem ex_cl (ok : OkE N E) (n : ¬ Neg N E) : ∃ D, Cl N E D := by
  obtain ⟨D0, I⟩ := ex_ed ok E [] _ (fun e he => he) (EdI.start (N := N) E)
  obtain ⟨D, B, T⟩ := ex_rd (rg (N : Int)) D0 (fun _ => False) (fun k hk => mem_rg.mp hk) I.base fun _ q hq => hq.elim
  refine ⟨D, B.cl fun k hk => T (fun i hi => ?_) k (.inr (mem_rg.mpr hk))⟩
  obtain ⟨d, e, _⟩ := B.dg i hi
  refine ⟨d, e, ?_⟩
  apply Classical.byContradiction
  intro z
  obtain ⟨_, _, c⟩ := B.real i i d e
  exact n ⟨i, d, hi, by omega, c⟩
theorem fit_iff (ok : OkE N E) : ¬ Neg N E ↔ ∃ t, Et N E t := by
  constructor
  · intro n
    obtain ⟨D, C⟩ := ex_cl ok n
    exact ⟨_, C.etf ok⟩
  · rintro ⟨t, h⟩
    exact h.kp.fit
/-! ### the programs -/
theorem closed_net_of (h : OkNet N E) {k : Mat → Prop} (q : ∀ M, CS N E M → k M) : (m_closed_net ((N : Int), E)).wp k := by
  unfold m_closed_net
  refine Pg.out_of ?_
  exact check_net_of h (Pg.bnd_of (closed_of_of h.hi h.ok (k := CS N E) fun M hM => hM) fun M hM => q M hM)
theorem fits_of (h : OkNet N E) {k : Bool → Prop} (q : ∀ b, (b = true ↔ ¬ Neg N E) → k b) : (m_fits ((N : Int), E)).wp k := by
  have hi := h.hi
  unfold m_fits
  refine Pg.out_of ?_
  refine Pg.bnd_of (closed_net_of h (k := CS N E) fun M hM => hM) ?_
  intro M C
  simp only [Pg.pure_bnd]
  refine Pg.ask_of (by show -100000 ≤ (N : Int) ∧ (N : Int) ≤ 100000; omega) ?_
  refine Pg.bnd_of (Pg.comp_of (fun _ => true) (fun i => decide (0 ≤ (Dm M i i).getD 0)) _ (fun _ _ => rfl) fun i hm _ => ?_) ?_
  · have hin := mem_rg.mp hm
    obtain ⟨row, a1, _, _, a4⟩ := C.sq.get hin hin
    obtain ⟨d, e, _⟩ := C.bs.dg i hin
    refine Pg.opt_of a1 (Pg.opt_of a4 (Pg.opt_of e ?_))
    show decide _ = decide _
    rw [e]; rfl
  · rintro l rfl
    rw [filt_true]
    refine q _ ?_
    rw [C.fit h.ok, List.all_map, List.all_eq_true]
    constructor
    · intro hh i hin
      obtain ⟨d, e, _⟩ := C.bs.dg i hin
      have : 0 ≤ (Dm M i i).getD 0 := of_decide_eq_true (hh i (mem_rg.mpr hin))
      rw [e] at this
      exact ⟨d, e, this⟩
    · intro hh i hm
      obtain ⟨d, e, l⟩ := hh i (mem_rg.mp hm)
      show decide (0 ≤ (Dm M i i).getD 0) = true
      rw [e]
      exact decT l
def tf (ts : List Int) (i : Int) : Int := (ts[i.toNat]?).getD 0
theorem tf_at {ts : List Int} {i : Int} (hl : ts.length = N) (hi : inN N i) : atI ts i = some (tf ts i) := by
  have : i.toNat < ts.length := by rw [hl]; have := hi.2; omega
  rw [atI_in hi.1]
  unfold tf
  rw [List.getElem?_eq_getElem this]
  rfl
theorem keeps_of (h : OkNet N E) {ts : List Int} (hl : ts.length = N) {k : Bool → Prop} (q : ∀ b, (b = true ↔ Keeps E (tf ts)) → k b) : (m_keeps (((N : Int), E), ts)).wp k := by
  unfold m_keeps
  refine Pg.out_of ?_
  refine check_net_of h ?_
  let v : Bool := (E.map fun e => decide (tf ts e.2.1 - tf ts e.1 ≤ e.2.2)).all id
  refine Pg.bnd_of (Pg.and_of (b1 := true) (b2 := v) ?_ fun _ => Pg.bnd_of (Pg.comp_of (fun _ => true) (fun e => decide (tf ts e.2.1 - tf ts e.1 ≤ e.2.2)) _ (fun _ _ => rfl) fun e he _ => ?_) ?_) ?_
  · show decide _ = true
    exact decT (by rw [hl])
  · obtain ⟨a, b⟩ := h.ok e he
    exact Pg.opt_of (tf_at hl b) (Pg.opt_of (tf_at hl a) rfl)
  · rintro l rfl
    rw [filt_true]
    rfl
  · rintro z rfl
    refine q _ ?_
    rw [Bool.true_and]
    show (E.map _).all id = true ↔ _
    rw [List.all_map, List.all_eq_true]
    exact ⟨fun hh e he => of_decide_eq_true (hh e he), fun hh e he => decT (hh e he)⟩
theorem earliest_of_of (hi : N ≤ 8) (ok : OkE N E) {k : Option (List Int) → Prop} (qn : Neg N E → k none) (qs : ¬ Neg N E → ∀ ts : List Int, ts.length = N → Et N E (tf ts) → k (some ts)) : (m_earliest_of ((N : Int), E)).wp k := by
  have hN : -100000 ≤ (N : Int) ∧ (N : Int) ≤ 100000 := by omega
  unfold m_earliest_of
  refine Pg.out_of ?_
  refine Pg.bnd_of (closed_of_of hi ok (k := CS N E) fun M hM => hM) ?_
  intro M C
  simp only [Pg.pure_bnd]
  refine Pg.ask_of hN ?_
  refine Pg.bnd_of (Pg.comp_of (fun _ => true) (fun i => decide ((Dm M i i).getD 0 < 0)) _ (fun _ _ => rfl) fun i hm _ => ?_) ?_
  · have hin := mem_rg.mp hm
    obtain ⟨row, a1, _, _, a4⟩ := C.sq.get hin hin
    obtain ⟨d, e, _⟩ := C.bs.dg i hin
    refine Pg.opt_of a1 (Pg.opt_of a4 (Pg.opt_of e ?_))
    show decide _ = decide _
    rw [e]; rfl
  rintro l rfl
  rw [filt_true, Pg.ifG_pure]
  cases hv : ((rg (N : Int)).map fun i => decide ((Dm M i i).getD 0 < 0)).any id with
  | true =>
    rw [if_pos rfl]
    refine qn ?_
    rw [List.any_map, List.any_eq_true] at hv
    obtain ⟨i, hm, hlt⟩ := hv
    have hin := mem_rg.mp hm
    obtain ⟨d, e, _⟩ := C.bs.dg i hin
    have hlt : (Dm M i i).getD 0 < 0 := of_decide_eq_true hlt
    rw [e] at hlt
    exact ⟨i, d, hin, hlt, (C.bs.real i i d e).2.2⟩
  | false =>
    rw [if_neg Bool.false_ne_true]
    have n : ¬ Neg N E := (C.fit ok).mpr fun i hin => by
      rw [List.any_map, List.any_eq_false] at hv
      have := hv i (mem_rg.mpr hin)
      obtain ⟨d, e, _⟩ := C.bs.dg i hin
      refine ⟨d, e, ?_⟩
      apply Classical.byContradiction
      intro z
      exact this (decT (by rw [e]; show d < 0; omega))
    refine Pg.ask_of hN ?_
    refine Pg.bnd_of (Pg.comp_of (fun _ => true) (etf N (Dm M)) _ (fun _ _ => rfl) fun i hm _ => ?_) ?_
    · have hin := mem_rg.mp hm
      refine Pg.ask_of (by show 1 ≤ 100000; omega) (Pg.ask_of hN ?_)
      refine Pg.bnd_of (Pg.comp_of (fun j => (Dm M i j).isSome) (fun j => -((Dm M i j).getD 0)) _ (fun j hj => ?_) fun j hj hs => ?_) ?_
      · obtain ⟨row, a1, _, _, a4⟩ := C.sq.get hin (mem_rg.mp hj)
        exact Pg.opt_of a1 (Pg.opt_of a4 rfl)
      · obtain ⟨row, a1, _, _, a4⟩ := C.sq.get hin (mem_rg.mp hj)
        obtain ⟨d, e⟩ := Option.isSome_iff_exists.mp hs
        refine Pg.opt_of a1 (Pg.opt_of a4 (Pg.opt_of e ?_))
        show -d = _
        rw [e]; rfl
      · rintro l rfl
        refine Pg.ask_of ?_ (Pg.ask_of (by simp) rfl)
        show ([(0 : Int)] ++ _).length ≤ 100000
        rw [List.length_append, List.length_map]
        have h1 := List.length_filter_le (fun j => (Dm M i j).isSome) (rg (N : Int))
        have h2 : (rg (N : Int)).length = N := by rw [rg_nat]; simp
        simp only [List.length_cons, List.length_nil]
        omega
    · rintro l rfl
      rw [filt_true]
      refine qs n _ (by rw [rg_nat]; simp) ?_
      have hE := (C.cl n).etf ok
      have e : ∀ i, inN N i → tf ((rg (N : Int)).map (etf N (Dm M))) i = etf N (Dm M) i := fun i hin => by
        unfold tf
        rw [rg_nat, List.map_map, List.getElem?_map, List.getElem?_range (by have := hin.2; omega)]
        show etf N (Dm M) ((i.toNat : Nat) : Int) = _
        rw [Int.toNat_of_nonneg hin.1]
      exact ⟨fun i hin => by rw [e i hin]; exact hE.nn i hin, fun x hx => by rw [e _ (ok x hx).2, e _ (ok x hx).1]; exact hE.kp x hx, fun i hin => by rw [e i hin]; exact hE.ti i hin⟩
theorem earliest_of' (h : OkNet N E) {k : Option (List Int) → Prop} (qn : Neg N E → k none) (qs : ¬ Neg N E → ∀ ts : List Int, ts.length = N → Et N E (tf ts) → k (some ts)) : (m_earliest ((N : Int), E)).wp k := by
  unfold m_earliest
  refine Pg.out_of ?_
  exact check_net_of h (Pg.bnd_of (earliest_of_of h.hi h.ok (k := fun r => k r) qn qs) fun r hr => hr)
theorem range_of_of (h : OkNet N E) (n : ¬ Neg N E) {i j : Int} (hi : inN N i) (hj : inN N j) {k : Option Int × Option Int → Prop} (q : ∀ M, CS N E M → k ((Dm M i j).map fun d => -d, Dm M j i)) : (m_range_of (((N : Int), E), i, j)).wp k := by
  unfold m_range_of
  refine Pg.out_of ?_
  refine Pg.bnd_of (fits_of h (k := fun b => b = true) fun b hb => hb.mpr n) ?_
  rintro b rfl
  rw [Pg.ifG_pure, if_neg (by simp)]
  refine Pg.bnd_of (closed_net_of h (k := CS N E) fun M hM => hM) ?_
  intro M C
  obtain ⟨r1, a1, _, _, a4⟩ := C.sq.get hj hi
  obtain ⟨r2, b1, _, _, b4⟩ := C.sq.get hi hj
  refine Pg.opt_of a1 (Pg.opt_of a4 ?_)
  rw [Pg.pure_bnd]
  refine Pg.bnd_of (p := fun z => z = (Dm M i j).map fun d => -d) ?_ ?_
  · refine Pg.if_of (b := (Dm M i j).isNone) (Pg.opt_of b1 (Pg.opt_of b4 rfl)) ?_
    cases hD : Dm M i j with
    | none => rw [if_pos (by rfl)]; rfl
    | some d =>
      rw [hD] at b4
      rw [if_neg (by simp)]
      exact Pg.opt_of b1 (Pg.opt_of b4 (Pg.opt_of rfl rfl))
  · rintro z rfl
    exact q M C
end
end K43

/-! P4: rounds that do not fit. -/
namespace K43
open PySem L2 Nz Hh
def ed (E : List Edge) (r : Int) : Edge := (E[r.toNat]?).getD (0, 0, 0)
abbrev es (E : List Edge) (row : List Int) : List Edge := row.map (ed E)
structure Circ (E : List Edge) (row : List Int) : Prop where
  ne : row ≠ []
  rg : ∀ r ∈ row, 0 ≤ r ∧ r < (E.length : Int)
  ch : ∃ i, Ch E i i (es E row)
  wt : wt (es E row) < 0
section
variable {N : Nat} {E : List Edge}
theorem ed_at {r : Int} (h : 0 ≤ r ∧ r < (E.length : Int)) : atI E r = some (ed E r) := by
  have : r.toNat < E.length := by omega
  rw [atI_in h.1]
  unfold ed
  rw [List.getElem?_eq_getElem this]; rfl
theorem ed_mem {r : Int} (h : 0 ≤ r ∧ r < (E.length : Int)) : ed E r ∈ E := by
  have : r.toNat < E.length := by omega
  unfold ed
  rw [List.getElem?_eq_getElem this]
  exact List.getElem_mem this
theorem cutT {α : Type} (l : List α) : cut l (some 1) none = l.drop 1 := by
  unfold cut
  have e1 : HT.sIx l.length 0 (some 1) = min 1 l.length := by
    show (if (1 : Int) < 0 then (1 + (l.length : Int)).toNat else min (1 : Int).toNat l.length) = _
    rw [if_neg (by omega)]
    rfl
  have e2 : HT.sIx l.length l.length none = l.length := rfl
  rw [e1, e2]
  cases l with
  | nil => rfl
  | cons x l =>
    have : min 1 (x :: l).length = 1 := by simp
    rw [this, List.take_of_length_le (by simp)]
theorem cut1 {α : Type} (l : List α) : cut l none (some 1) = l.take 1 := by
  unfold cut
  have e1 : HT.sIx l.length 0 none = 0 := rfl
  have e2 : HT.sIx l.length l.length (some 1) = min 1 l.length := by
    show (if (1 : Int) < 0 then (1 + (l.length : Int)).toNat else min (1 : Int).toNat l.length) = _
    rw [if_neg (by omega)]
    rfl
  rw [e1, e2]
  cases l <;> simp
theorem ch_pairs : ∀ {es : List Edge} {e : Edge} {i j : Int} {x : Edge}, Ch E i j (e :: es) → x.1 = j → ∀ p ∈ List.zip (e :: es) (es ++ [x]), p.1.2.1 = p.2.1
  | [], e, i, j, x, h, hx, p, hp => by
    simp at hp
    subst hp
    have : e.2.1 = j := h.2.2
    rw [this]; exact hx.symm
  | e2 :: es, e, i, j, x, h, hx, p, hp => by
    rw [List.cons_append, List.zip_cons_cons] at hp
    rcases List.mem_cons.mp hp with rfl | hp
    · exact h.2.2.2.1.symm
    · exact ch_pairs h.2.2 hx p hp
theorem takes_circle_of (h : OkNet N E) {row : List Int} (c : Circ E row) (hl : row.length ≤ 50) {k : Bool → Prop} (q : k true) : (m_takes_circle (((N : Int), E), row)).wp k := by
  unfold m_takes_circle
  refine Pg.out_of ?_
  refine check_net_of h ?_
  refine Pg.bnd_of (p := fun z => z = false) (Pg.or_of (b1 := false) (b2 := false) ?_ fun _ => Pg.bnd_of (Pg.comp_of (fun _ => true) (fun _ => true) _ (fun _ _ => rfl) fun r hr _ => ?_) ?_) ?_
  · show (!(!row.isEmpty)) = false
    cases hr : row with
    | nil => exact (c.ne hr).elim
    | cons _ _ => rfl
  · obtain ⟨a, b⟩ := c.rg r hr
    refine Pg.bnd_of (Pg.and_of (b1 := true) (b2 := true) (decT a) fun _ => decT b) ?_
    rintro z rfl
    rfl
  · rintro l rfl
    rw [filt_true, all_const]
    rfl
  rintro z rfl
  rw [Pg.ifG_pure, if_neg Bool.false_ne_true]
  refine Pg.bnd_of (Pg.comp_of (fun _ => true) (ed E) _ (fun _ _ => rfl) fun r hr _ => Pg.opt_of (ed_at (c.rg r hr)) rfl) ?_
  rintro l rfl
  rw [filt_true]
  simp only [Pg.pure_bnd]
  obtain ⟨i, hc⟩ := c.ch
  have hw := c.wt
  rw [cutT, cut1]
  refine Pg.ask_of ?_ ?_
  · show (List.drop 1 (row.map (ed E)) ++ List.take 1 (row.map (ed E))).length ≤ 100000
    rw [List.length_append, List.length_drop, List.length_take, List.length_map]
    omega
  refine Pg.bnd_of (Pg.comp_of (fun _ => true) (fun _ => true) _ (fun _ _ => rfl) fun p hp _ => ?_) ?_
  · show decide _ = true
    refine decT ?_
    cases hr : row with
    | nil => exact (c.ne hr).elim
    | cons r rs =>
      rw [hr] at hp hc
      exact ch_pairs hc (hc.2.1) p hp
  rintro l rfl
  rw [filt_true, all_const, Pg.ifG_pure, if_neg (by simp)]
  refine Pg.bnd_of (Pg.comp_of (fun _ => true) (fun e : Edge => e.2.2) _ (fun _ _ => rfl) fun _ _ _ => rfl) ?_
  rintro l rfl
  rw [filt_true]
  show k (decide _)
  rw [decT (show ((row.map (ed E)).map fun e : Edge => e.2.2).sum < 0 from hw)]
  exact q
/-! ### rows of bounds, level by level -/
abbrev Lev := List (List Int × Int)
def lastE (E : List Edge) (row : List Int) : Edge := ed E ((row.getLast?).getD 0)
structure RowP (E : List Edge) (t : Nat) (x : List Int × Int) : Prop where
  len : x.1.length = t + 1
  rg : ∀ r ∈ x.1, 0 ≤ r ∧ r < (E.length : Int)
  ch : ∃ i j, Ch E i j (es E x.1)
  wt : x.2 = wt (es E x.1)
structure LevP (E : List Edge) (t : Nat) (l : Lev) : Prop where
  ok : ∀ x ∈ l, RowP E t x
  all : ∀ row : List Int, row.length = t + 1 → (∀ r ∈ row, 0 ≤ r ∧ r < (E.length : Int)) → row.Nodup → (∃ i j, Ch E i j (es E row)) → (row, wt (es E row)) ∈ l
  len : l.length ≤ E.length ^ (t + 1)
def ext (E : List Edge) (x : List Int × Int) : Lev := ((enumZ E).filter fun y => decide (y.2.1 = (lastE E x.1).2.1) && !decide (y.1 ∈ x.1)).map fun y => (x.1 ++ [y.1], x.2 + y.2.2.2)
theorem last_snoc (row : List Int) (r : Int) : lastE E (row ++ [r]) = ed E r := by unfold lastE; rw [List.getLast?_concat]; rfl
theorem ch_last : ∀ {row : List Int} {i j : Int}, row ≠ [] → Ch E i j (es E row) → j = (lastE E row).2.1 := by
  intro row i j hne h
  have e := List.dropLast_concat_getLast hne
  rw [← e] at h ⊢
  rw [last_snoc]
  unfold es at h
  rw [List.map_append] at h
  obtain ⟨k, h1, h2⟩ := Ch.split h
  exact h2.2.2.symm
theorem ch_first {row : List Int} {i j : Int} (hne : row ≠ []) (h : Ch E i j (es E row)) : i = (ed E ((row.head?).getD 0)).1 := by
  cases row with
  | nil => exact (hne rfl).elim
  | cons r rs => exact h.2.1.symm
theorem lev_next {t : Nat} {l fresh : Lev} (L : LevP E t l) (hf : fresh.Perm (l.flatMap (ext E))) : LevP E (t + 1) fresh := by
  constructor
  · intro x hx
    obtain ⟨y, hy, hx⟩ := List.mem_flatMap.mp (hf.subset hx)
    have R := L.ok y hy
    obtain ⟨z, hz, rfl⟩ := List.mem_map.mp hx
    obtain ⟨hz1, hz2⟩ := List.mem_filter.mp hz
    obtain ⟨h0, hg⟩ := mem_enumZ.mp hz1
    have hlt := (List.getElem?_eq_some_iff.mp hg).1
    have hr : 0 ≤ z.1 ∧ z.1 < (E.length : Int) := ⟨h0, by omega⟩
    have hz2 : (decide (z.2.1 = (lastE E y.1).2.1) && !decide (z.1 ∈ y.1)) = true := hz2
    obtain ⟨c1, c2⟩ := Bool.and_eq_true_iff.mp hz2
    have he : ed E z.1 = z.2 := by unfold ed; rw [hg]; rfl
    obtain ⟨i, j, hc⟩ := R.ch
    have hne : y.1 ≠ [] := fun e => by have := R.len; rw [e] at this; simp at this
    refine ⟨by show (y.1 ++ [z.1]).length = _; rw [List.length_append, R.len]; rfl, fun r hr' => ?_, ⟨i, (ed E z.1).2.1, ?_⟩, ?_⟩
    · rcases List.mem_append.mp hr' with h | h
      · exact R.rg r h
      · rw [List.mem_singleton.mp h]; exact hr
    · show Ch E i _ ((y.1 ++ [z.1]).map (ed E))
      rw [List.map_append]
      refine hc.app ⟨ed_mem hr, ?_, rfl⟩
      rw [ch_last hne hc, he]
      exact of_decide_eq_true c1
    · show y.2 + z.2.2.2 = wt ((y.1 ++ [z.1]).map (ed E))
      rw [List.map_append, wt_app, R.wt]
      show _ = _ + wt [ed E z.1]
      rw [wt_cons, wt_nil, he]
      show wt (es E y.1) + z.2.2.2 = wt (List.map (ed E) y.1) + (z.2.2.2 + 0)
      have : es E y.1 = List.map (ed E) y.1 := rfl
      rw [this]; omega
  · intro row hl hr hn ⟨i, j, hc⟩
    have hne : row ≠ [] := fun e => by rw [e] at hl; simp at hl
    have e := List.dropLast_concat_getLast hne
    have hlast := hr _ (List.getLast_mem hne)
    have hpre : (row.dropLast, wt (es E row.dropLast)) ∈ l := by
      refine L.all _ (by rw [List.length_dropLast]; omega) (fun r h => hr r (List.dropLast_subset _ h)) ((List.dropLast_sublist row).nodup hn) ?_
      rw [← e] at hc
      unfold es at hc
      rw [List.map_append] at hc
      obtain ⟨k, h1, h2⟩ := Ch.split hc
      exact ⟨i, k, h1⟩
    refine hf.symm.subset (List.mem_flatMap.mpr ⟨_, hpre, ?_⟩)
    refine List.mem_map.mpr ⟨(row.getLast hne, ed E (row.getLast hne)), List.mem_filter.mpr ⟨?_, ?_⟩, ?_⟩
    · refine mem_enumZ.mpr ⟨hlast.1, ?_⟩
      have : (row.getLast hne).toNat < E.length := by omega
      unfold ed
      rw [List.getElem?_eq_getElem this]; rfl
    · have c2 : row.getLast hne ∉ row.dropLast := fun z => by
        have hn2 := hn
        rw [← e, List.nodup_append] at hn2
        exact hn2.2.2 _ z _ (List.mem_singleton.mpr rfl) rfl
      have c1 : (ed E (row.getLast hne)).1 = (lastE E row.dropLast).2.1 := by
        have hd : row.dropLast ≠ [] := fun z => by
          have := congrArg List.length z
          rw [List.length_dropLast] at this
          simp at this
          omega
        rw [← e] at hc
        unfold es at hc
        rw [List.map_append] at hc
        obtain ⟨k, h1, h2⟩ := Ch.split hc
        rw [← ch_last hd h1]
        exact h2.2.1
      show (decide _ && !decide _) = true
      rw [decT c1, decide_eq_false c2]
      rfl
    · show (row.dropLast ++ [row.getLast hne], _) = (row, _)
      rw [e]
      congr 1
      have : wt (es E row) = wt (es E (row.dropLast ++ [row.getLast hne])) := by rw [e]
      rw [this]
      show _ = wt (List.map (ed E) (row.dropLast ++ [row.getLast hne]))
      rw [List.map_append, wt_app]
      show _ = _ + wt [ed E (row.getLast hne)]
      rw [wt_cons, wt_nil]
      show wt (List.map (ed E) row.dropLast) + (ed E (row.getLast hne)).2.2 = wt (List.map (ed E) row.dropLast) + ((ed E (row.getLast hne)).2.2 + 0)
      omega
  · rw [hf.length_eq]
    have : ∀ l : Lev, (l.flatMap (ext E)).length ≤ l.length * E.length := by
      intro l
      induction l with
      | nil => simp
      | cons x l ih =>
        rw [List.flatMap_cons, List.length_append, List.length_cons, Nat.succ_mul]
        have h1 : (ext E x).length ≤ E.length := by
          unfold ext
          rw [List.length_map]
          exact Nat.le_trans (List.length_filter_le _ _) (by rw [enumZ_len]; exact Nat.le_refl _)
        omega
    exact Nat.le_trans (this l) (Nat.mul_le_mul_right _ L.len)
abbrev encR : List Int × Int → PyData := fun p => PyData.tuple [(fun xs => PyData.tuple (List.map PyData.int xs)) p.1, PyData.int p.2]
theorem alikeI : ∀ a b : List Int, PySem.W.alikeAll (a.map PyData.int) (b.map PyData.int) = true
  | [], _ => rfl
  | _ :: _, [] => rfl
  | x :: a, y :: b => by
    rw [List.map_cons, List.map_cons, PySem.W.alikeAll, alikeI a b]
    simp [PySem.W.alike]
theorem alikeR (a b : List Int × Int) : PySem.W.alike (encR a) (encR b) = true := by
  have := alikeI a.1 b.1
  simp only [PySem.W.alike, PySem.W.alikeAll, this, Bool.and_self]
theorem depthR (a : List Int × Int) : (encR a).depth ≤ 60 := by
  have e0 : ∀ l : List Int, PyData.depthAll (l.map PyData.int) = 0 := fun l => by
    induction l with
    | nil => rfl
    | cons m ms ih => rw [List.map_cons, PyData.depthAll, ih]; rfl
  have : (encR a).depth = max (PyData.depthAll (a.1.map PyData.int) + 1) (max 0 0) + 1 := by
    simp [PyData.depth, PyData.depthAll]
  rw [this, e0]
  omega
theorem bad_circle_of (h : OkNet N E) (hle : E.length ≤ 14) {k : Option (List Int) → Prop} (qn : ¬ Neg N E → k none) (qs : Neg N E → (∃ row : List Int, Circ E row ∧ row.Nodup ∧ row.length ≤ N ∧ row.length ≤ 4) ∧ ∀ row, Circ E row → row.length ≤ 4 → k (some row)) : (m_bad_circle ((N : Int), E)).wp k := by
  have hlo := h.lo
  have hhi := h.hi
  unfold m_bad_circle
  refine Pg.out_of ?_
  refine check_net_of h ?_
  refine Pg.bnd_of (fits_of h (k := fun b => b = true ↔ ¬ Neg N E) fun b hb => hb) ?_
  intro b hb
  rw [Pg.ifG_pure]
  cases b with
  | true => rw [if_pos rfl]; exact qn (hb.mp rfl)
  | false =>
    rw [if_neg Bool.false_ne_true]
    have hneg : Neg N E := Classical.byContradiction fun z => by have := hb.mpr z; cases this
    obtain ⟨⟨row0, c0, n0, l0, l4⟩, qs⟩ := qs hneg
    refine Pg.ask_of (by show -100000 ≤ (E.length : Int) ∧ (E.length : Int) ≤ 100000; omega) ?_
    refine Pg.bnd_of (Pg.comp_of (fun _ => true) (fun r : Int => ([r], (ed E r).2.2)) _ (fun _ _ => rfl) fun r hr _ => Pg.ask_of (by show 1 ≤ 100000; omega) (Pg.opt_of (ed_at (mem_rg.mp hr)) rfl)) ?_
    rintro l rfl
    rw [filt_true]
    simp only [Pg.pure_bnd]
    refine Pg.ask_of (by show -100000 ≤ (N : Int) ∧ (N : Int) ≤ 100000; omega) ?_
    have p14 : ∀ {t : Nat}, t ≤ 4 → E.length ^ t ≤ 38416 := fun {t} ht => Nat.le_trans (Nat.pow_le_pow_left hle t) (Nat.le_trans (Nat.pow_le_pow_right (by omega) ht) (by decide))
    have L0 : LevP E 0 ((rg (E.length : Int)).map fun r : Int => ([r], (ed E r).2.2)) := by
      refine ⟨fun x hx => ?_, fun row hl hr hn hc => ?_, by rw [rg_nat]; simp⟩
      · obtain ⟨r, hr, rfl⟩ := List.mem_map.mp hx
        have hr := mem_rg.mp hr
        refine ⟨rfl, fun z hz => by rw [List.mem_singleton.mp hz]; exact hr, ⟨_, _, ⟨ed_mem hr, rfl, rfl⟩⟩, ?_⟩
        show (ed E r).2.2 = wt [ed E r]
        rw [wt_cons, wt_nil]; omega
      · match row, hl with
        | [r], _ =>
          refine List.mem_map.mpr ⟨r, mem_rg.mpr (hr r (by simp)), ?_⟩
          show ([r], _) = ([r], wt [ed E r])
          rw [wt_cons, wt_nil]
          congr 1
          omega
    refine Pg.bnd_of (p := fun c => match c with | .rt r => k r | _ => False) ?_ ?_
    · refine Pg.forc_of (fun pre l => LevP E pre.length l ∧ pre.length < row0.length) ⟨L0, List.length_pos_iff.mpr c0.ne⟩ (fun pre x post l hE I => ?_) (fun l I => ?_)
      · obtain ⟨L, hlt⟩ := I
        have rw0 : ∀ x ∈ l, x.1 ≠ [] := fun x hx e => by have := (L.ok x hx).len; rw [e] at this; simp at this
        have first : ∀ x ∈ l, atI x.1 0 = some ((x.1.head?).getD 0) ∧ atI x.1 (-1) = some ((x.1.getLast?).getD 0) := fun x hx => by
          obtain ⟨xr, xt⟩ := x
          cases hx1 : xr with
          | nil => exact (rw0 _ hx hx1).elim
          | cons r rs =>
            constructor
            · show atI (r :: rs) 0 = some r
              exact Hh.atI_nat (r :: rs) 0
            · show atI (r :: rs) (-1) = _
              unfold atI ixN
              rw [if_neg (by omega), if_pos (by simp only [List.length_cons]; omega)]
              show (r :: rs)[((-1 : Int) + ((r :: rs).length : Int)).toNat]? = _
              have e : ((-1 : Int) + ((r :: rs).length : Int)).toNat = (r :: rs).length - 1 := by omega
              rw [e, ← List.getLast?_eq_getElem?]
              rw [List.getLast?_eq_some_getLast (by simp)]
              rfl
        have inr : ∀ x ∈ l, (0 ≤ (x.1.head?).getD 0 ∧ (x.1.head?).getD 0 < (E.length : Int)) ∧ 0 ≤ (x.1.getLast?).getD 0 ∧ (x.1.getLast?).getD 0 < (E.length : Int) := fun x hx => by
          have R := L.ok x hx
          have hne := rw0 x hx
          constructor
          · rw [List.head?_eq_some_head hne]; exact R.rg _ (List.head_mem hne)
          · rw [List.getLast?_eq_some_getLast hne]; exact R.rg _ (List.getLast_mem hne)
        let hit : List Int × Int → Bool := fun x => decide ((ed E ((x.1.head?).getD 0)).1 = (lastE E x.1).2.1) && decide (x.2 < 0)
        refine Pg.bnd_of (p := fun c => match c with | .nx _ => ∀ x ∈ l, hit x = false | .rt r => k r | _ => False) ?_ ?_
        · refine Pg.forc_of (fun pre2 _ => ∀ x ∈ pre2, hit x = false) (by simp) (fun pre2 x post2 s hl2 I2 => ?_) (fun s I2 => I2)
          have hl2 : l = pre2 ++ x :: post2 := hl2
          have hx : x ∈ l := by rw [hl2]; simp
          obtain ⟨f1, f2⟩ := first x hx
          obtain ⟨i1, i2⟩ := inr x hx
          refine Pg.bnd_of (p := fun z => z = hit x) (Pg.and_of (b1 := decide ((ed E ((x.1.head?).getD 0)).1 = (lastE E x.1).2.1)) (b2 := decide (x.2 < 0)) (Pg.opt_of f1 (Pg.opt_of (ed_at i1) (Pg.opt_of f2 (Pg.opt_of (ed_at i2) rfl)))) fun _ => rfl) ?_
          rintro z rfl
          rw [Pg.ifG_pure]
          cases hh : hit x with
          | true =>
            rw [if_pos rfl]
            have R := L.ok x hx
            obtain ⟨a, b⟩ := Bool.and_eq_true_iff.mp hh
            obtain ⟨i, j, hc⟩ := R.ch
            have e1 := ch_first (rw0 x hx) hc
            have e2 := ch_last (rw0 x hx) hc
            have e3 := of_decide_eq_true a
            refine qs x.1 ⟨rw0 x hx, R.rg, ⟨i, ?_⟩, ?_⟩ ?_
            · have : i = j := by rw [e1, e2]; exact e3
              rw [← this] at hc; exact hc
            · rw [← R.wt]; exact of_decide_eq_true b
            · rw [R.len]; omega
          | false =>
            rw [if_neg Bool.false_ne_true]
            intro y hy
            rcases List.mem_append.mp hy with hy | hy
            · exact I2 y hy
            · rw [List.mem_singleton.mp hy]; exact hh
        · intro c hc
          cases c with
          | bk s => exact hc.elim
          | ct s => exact hc.elim
          | rt r => exact hc
          | nx s =>
            have hc : ∀ x ∈ l, hit x = false := hc
            rw [seqG_nx]
            have hlt2 : pre.length + 1 < row0.length := by
              apply Classical.byContradiction
              intro z
              have hm := L.all row0 (by omega) c0.rg n0 (by obtain ⟨i, hc⟩ := c0.ch; exact ⟨i, i, hc⟩)
              have := hc _ hm
              obtain ⟨i, hch⟩ := c0.ch
              have e1 := ch_first c0.ne hch
              have e2 := ch_last c0.ne hch
              have a1 : decide ((ed E ((row0.head?).getD 0)).1 = (lastE E row0).2.1) = true := decT (by rw [← e1, ← e2])
              have a2 : decide (wt (es E row0) < 0) = true := decT c0.wt
              have this : (decide ((ed E ((row0.head?).getD 0)).1 = (lastE E row0).2.1) && decide (wt (es E row0) < 0)) = false := this
              rw [a1, a2] at this
              cases this
            have hpow : E.length ^ (pre.length + 2) ≤ 38416 := p14 (by omega)
            have hlen : ∀ l' : Lev, l'.length ≤ l.length → (l'.flatMap (ext E)).length ≤ l.length * E.length := by
              intro l'
              induction l' with
              | nil => intro _; simp
              | cons x l' ih =>
                intro hl'
                have : ∀ l'' : Lev, (l''.flatMap (ext E)).length ≤ l''.length * E.length := by
                  intro l''
                  induction l'' with
                  | nil => simp
                  | cons x l ih =>
                    rw [List.flatMap_cons, List.length_append, List.length_cons, Nat.succ_mul]
                    have h1 : (ext E x).length ≤ E.length := by
                      unfold ext
                      rw [List.length_map]
                      exact Nat.le_trans (List.length_filter_le _ _) (by rw [enumZ_len]; exact Nat.le_refl _)
                    omega
                exact Nat.le_trans (this _) (Nat.mul_le_mul_right _ hl')
            have hmul : l.length * E.length ≤ 38416 := Nat.le_trans (Nat.mul_le_mul_right _ L.len) (by rw [← Nat.pow_succ]; exact hpow)
            refine Pg.bnd_of (p := fun c => c = Ctl.nx (l.flatMap (ext E))) ?_ ?_
            · refine Pg.forc_of (fun pre2 s => s = pre2.flatMap (ext E)) rfl (fun pre2 x post2 s hl2 I2 => ?_) (fun s I2 => by rw [I2])
              subst I2
              have hl2 : l = pre2 ++ x :: post2 := hl2
              have hx : x ∈ l := by rw [hl2]; simp
              obtain ⟨f1, f2⟩ := first x hx
              obtain ⟨i1, i2⟩ := inr x hx
              let g : Int × Edge → Bool := fun y => decide (y.2.1 = (lastE E x.1).2.1) && !decide (y.1 ∈ x.1)
              have hsum : (pre2.flatMap (ext E)).length + E.length ≤ 38416 + 14 := by
                have := hlen pre2 (by rw [hl2]; simp)
                omega
              refine Pg.bnd_of (p := fun c => c = Ctl.nx (pre2.flatMap (ext E) ++ ext E x)) ?_ (fun c hc => by
                subst hc
                rw [seqG_nx]
                show _ = (pre2 ++ [x]).flatMap (ext E)
                rw [List.flatMap_append]
                simp)
              refine Pg.forc_of (fun pre3 s => s = pre2.flatMap (ext E) ++ (pre3.filter g).map fun y => (x.1 ++ [y.1], x.2 + y.2.2.2)) (by simp) (fun pre3 y post3 s hl3 I3 => ?_) (fun s I3 => by rw [I3]; rfl)
              subst I3
              have hp3 : pre3.length ≤ E.length := by
                have := congrArg List.length hl3
                have e : (enumZ E).length = E.length := enumZ_len E
                have this : (enumZ E).length = (pre3 ++ y :: post3).length := this
                rw [e, List.length_append] at this
                omega
              refine Pg.bnd_of (p := fun z => z = g y) (Pg.and_of (b1 := decide (y.2.1 = (lastE E x.1).2.1)) (b2 := !decide (y.1 ∈ x.1)) (Pg.opt_of f2 (Pg.opt_of (ed_at i2) rfl)) fun _ => rfl) ?_
              rintro z rfl
              rw [iteG_pure]
              have hf : (pre3 ++ [y]).filter g = pre3.filter g ++ (if g y = true then [y] else []) := by
                rw [List.filter_append]
                cases hg : g y <;> simp [hg]
              cases hg : g y with
              | true =>
                rw [if_pos rfl]
                refine ⟨by show 1 ≤ 100000; omega, ?_, ?_, ?_⟩
                · show (x.1 ++ [y.1]).length ≤ 100000
                  rw [List.length_append, (L.ok x hx).len]
                  simp only [List.length_cons, List.length_nil]
                  omega
                · show (pre2.flatMap (ext E) ++ (pre3.filter g).map _).length < 100000
                  rw [List.length_append, List.length_map]
                  have := List.length_filter_le g pre3
                  omega
                · show _ = _ ++ List.map _ ((pre3 ++ [y]).filter g)
                  rw [hf, hg, if_pos rfl, List.map_append, List.append_assoc]
                  rfl
              | false =>
                rw [if_neg Bool.false_ne_true]
                show _ = _ ++ List.map _ ((pre3 ++ [y]).filter g)
                rw [hf, hg, if_neg Bool.false_ne_true, List.append_nil]
            · rintro c rfl
              rw [seqG_nx]
              refine Pg.ask_of ⟨?_, ?_, fun x _ => depthR x⟩ ?_
              · intro d hd d' hd'
                obtain ⟨x, _, rfl⟩ := List.mem_map.mp hd
                obtain ⟨y, _, rfl⟩ := List.mem_map.mp hd'
                exact alikeR x y
              · left
                intro d hd
                obtain ⟨x, _, rfl⟩ := List.mem_map.mp hd
                exact ⟨_, _, rfl⟩
              · show LevP E (pre ++ [x]).length _ ∧ _
                rw [List.length_append]
                exact ⟨lev_next L (List.mergeSort_perm _ _), hlt2⟩
      · have : (rg (N : Int)).length = N := by rw [rg_nat]; simp
        rw [this] at I
        exact absurd I.2 (by omega)
    · intro c hc
      cases c with
      | bk s => exact hc.elim
      | ct s => exact hc.elim
      | nx s => exact hc.elim
      | rt r => exact hc
end
end K43

/-! P5: nets turned, named, multiplied (plain). -/
namespace K43
open PySem L2 Nz Hh
section
variable {N : Nat} {E E' : List Edge} {i j w c : Int}
theorem Wk.to {σ : Int → Int} (h : ∀ e ∈ E, Wk E' (σ e.1) (σ e.2.1) (c * e.2.2)) (q : Wk E i j w) : Wk E' (σ i) (σ j) (c * w) :=
  q.ind (P := fun i j w => Wk E' (σ i) (σ j) (c * w)) (fun i => by rw [Int.mul_zero]; exact .nil E' _) fun e he j w hw => by
    rw [Int.mul_add]
    exact (h e he).app hw
theorem Wk.to1 {σ : Int → Int} (h : ∀ e ∈ E, Wk E' (σ e.1) (σ e.2.1) e.2.2) (q : Wk E i j w) : Wk E' (σ i) (σ j) w := by
  have := q.to (σ := σ) (c := 1) (E' := E') fun e he => by rw [Int.one_mul]; exact h e he
  rwa [Int.one_mul] at this
/-! #### backward -/
def flip (e : Edge) : Edge := (e.2.1, e.1, e.2.2)
def backE (E : List Edge) : List Edge := E.reverse.map flip
theorem mem_back {e : Edge} : e ∈ backE E ↔ flip e ∈ E := by
  unfold backE
  rw [List.mem_map]
  constructor
  · rintro ⟨x, hx, rfl⟩
    exact List.mem_reverse.mp hx
  · intro h
    exact ⟨flip e, List.mem_reverse.mpr h, rfl⟩
theorem wk_back (q : Wk (backE E) i j w) : Wk E j i w :=
  q.ind (P := fun i j w => Wk E j i w) (fun i => .nil E i) fun e he j w hw => by
    have := hw.app (Wk.one (mem_back.mp he))
    rw [Int.add_comm]
    exact this
theorem back_back : backE (backE E) = E := by
  unfold backE
  rw [← List.map_reverse, List.reverse_reverse, List.map_map]
  have : flip ∘ flip = id := rfl
  rw [this, List.map_id]
theorem wk_back' (q : Wk E j i w) : Wk (backE E) i j w := wk_back (E := backE E) (by rw [back_back]; exact q)
theorem back_ok (ok : OkE N E) : OkE N (backE E) := fun e he => by
  obtain ⟨a, b⟩ := ok _ (mem_back.mp he)
  exact ⟨b, a⟩
theorem back_neg : Neg N (backE E) ↔ Neg N E := ⟨fun ⟨i, w, a, b, q⟩ => ⟨i, w, a, b, wk_back q⟩, fun ⟨i, w, a, b, q⟩ => ⟨i, w, a, b, wk_back' q⟩⟩
theorem back_cl {D : Int → Int → Option Int} (h : Cl N (backE E) D) (ok : OkE N E) : Cl N E fun i j => D j i where
  f1 := fun i j w hw => by
    obtain ⟨a, b, q⟩ := h.f1 _ _ _ hw
    exact ⟨b, a, wk_back q⟩
  f2 := fun i j w hi hw => by
    obtain ⟨es, hc, _⟩ := id hw
    exact h.f2 j i w (hc.last ok hi) (wk_back' hw)
theorem back_ch : ∀ {es : List Edge} {i j : Int}, Ch E i j es → Ch (backE E) j i (es.reverse.map flip)
  | [], i, j, h => (show i = j from h).symm
  | e :: es, i, j, ⟨h1, h2, h3⟩ => by
    rw [List.reverse_cons, List.map_append]
    refine (back_ch h3).app ⟨mem_back.mpr h1, rfl, h2⟩
theorem wt_perm {a b : List Edge} (h : a.Perm b) : wt a = wt b := by
  induction h with
  | nil => rfl
  | cons x _ ih => rw [wt_cons, wt_cons, ih]
  | swap x y l => rw [wt_cons, wt_cons, wt_cons, wt_cons]; omega
  | trans _ _ a b => rw [a, b]
theorem wt_flip : ∀ es : List Edge, wt (es.map flip) = wt es
  | [] => rfl
  | e :: es => by
    rw [List.map_cons, wt_cons, wt_cons, wt_flip es]; rfl
theorem ed_back {r : Int} (h : 0 ≤ r ∧ r < (E.length : Int)) : ed (backE E) ((E.length : Int) - 1 - r) = flip (ed E r) := by
  unfold ed backE
  have h1 : ((E.length : Int) - 1 - r).toNat < E.length := by omega
  rw [List.getElem?_map, List.getElem?_reverse h1]
  have e : E.length - 1 - ((E.length : Int) - 1 - r).toNat = r.toNat := by omega
  rw [e, List.getElem?_eq_getElem (by omega)]
  rfl
theorem circ_back {row : List Int} (c : Circ E row) : Circ (backE E) (row.reverse.map fun k => (E.length : Int) - 1 - k) := by
  have e : es (backE E) (row.reverse.map fun k => (E.length : Int) - 1 - k) = (es E row).reverse.map flip := by
    unfold es
    rw [List.map_map, ← List.map_reverse, List.map_map]
    apply List.map_congr_left
    intro r hr
    exact ed_back (c.rg r (List.mem_reverse.mp hr))
  refine ⟨fun z => c.ne (by simpa using z), fun r hr => ?_, ?_, ?_⟩
  · obtain ⟨x, hx, rfl⟩ := List.mem_map.mp hr
    have := c.rg x (List.mem_reverse.mp hx)
    have el : (backE E).length = E.length := by unfold backE; simp
    rw [el]
    omega
  · obtain ⟨i, hc⟩ := c.ch
    rw [e]
    exact ⟨i, back_ch hc⟩
  · rw [e, wt_flip, wt_perm (List.reverse_perm _)]
    exact c.wt
theorem circ_rot {row : List Int} (c : Circ E row) : Circ E (row.drop 1 ++ row.take 1) := by
  cases row with
  | nil => exact (c.ne rfl).elim
  | cons r rs =>
    obtain ⟨i, hc⟩ := c.ch
    have hw := c.wt
    have e : es E (rs ++ [r]) = es E rs ++ [ed E r] := by unfold es; rw [List.map_append]; rfl
    show Circ E (rs ++ [r])
    refine ⟨by simp, fun x hx => c.rg x (by
      rcases List.mem_append.mp hx with h | h
      · exact List.mem_cons_of_mem _ h
      · rw [List.mem_singleton.mp h]; exact List.mem_cons_self), ⟨(ed E r).2.1, ?_⟩, ?_⟩
    · rw [e]
      have hc : Ch E i i (ed E r :: es E rs) := hc
      exact hc.2.2.app ⟨hc.1, hc.2.1, rfl⟩
    · rw [e, wt_app]
      have hw : wt (ed E r :: es E rs) < 0 := hw
      rw [wt_cons] at hw
      rw [wt_cons, wt_nil]
      omega
/-! #### multiplied, twice -/
def mulE (c : Int) (E : List Edge) : List Edge := (E ++ E).map fun e => (e.1, e.2.1, c * e.2.2)
theorem mem_mul {e : Edge} : e ∈ mulE c E ↔ ∃ x ∈ E, (x.1, x.2.1, c * x.2.2) = e := by
  unfold mulE
  rw [List.mem_map]
  constructor
  · rintro ⟨x, hx, rfl⟩
    exact ⟨x, (List.mem_append.mp hx).elim id id, rfl⟩
  · rintro ⟨x, hx, rfl⟩
    exact ⟨x, List.mem_append_left _ hx, rfl⟩
theorem wk_mul (q : Wk E i j w) : Wk (mulE c E) i j (c * w) := q.to (σ := fun x => x) fun e he => Wk.one (E := mulE c E) (e := (e.1, e.2.1, c * e.2.2)) (mem_mul.mpr ⟨e, he, rfl⟩)
theorem wk_mul' (q : Wk (mulE c E) i j w) : ∃ v, w = c * v ∧ Wk E i j v :=
  q.ind (P := fun i j w => ∃ v, w = c * v ∧ Wk E i j v) (fun i => ⟨0, by rw [Int.mul_zero], .nil E i⟩) fun e he j w ⟨v, ev, hv⟩ => by
    obtain ⟨x, hx, rfl⟩ := mem_mul.mp he
    exact ⟨x.2.2 + v, by rw [Int.mul_add, ev], (Wk.one hx).app hv⟩
theorem mul_ok (ok : OkE N E) : OkE N (mulE c E) := fun e he => by
  obtain ⟨x, hx, rfl⟩ := mem_mul.mp he
  exact ok x hx
theorem mul_neg (h : 0 < c) : Neg N (mulE c E) ↔ Neg N E := by
  constructor
  · rintro ⟨i, w, a, b, q⟩
    obtain ⟨v, rfl, hv⟩ := wk_mul' q
    refine ⟨i, v, a, ?_, hv⟩
    apply Classical.byContradiction
    intro z
    have := Int.mul_nonneg (Int.le_of_lt h) (show 0 ≤ v by omega)
    omega
  · rintro ⟨i, w, a, b, q⟩
    refine ⟨i, _, a, ?_, wk_mul (c := c) q⟩
    have := Int.mul_lt_mul_of_pos_left b h
    omega
theorem mul_cl {D : Int → Int → Option Int} (hc : 0 ≤ c) (h : Cl N E D) : Cl N (mulE c E) fun i j => (D i j).map (c * ·) where
  f1 := fun i j w hw => by
    obtain ⟨d, e, rfl⟩ := Option.map_eq_some_iff.mp hw
    obtain ⟨a, b, q⟩ := h.f1 _ _ _ e
    exact ⟨a, b, wk_mul q⟩
  f2 := fun i j w hi hw => by
    obtain ⟨v, rfl, hv⟩ := wk_mul' hw
    obtain ⟨d, e, l⟩ := h.f2 _ _ _ hi hv
    exact ⟨c * d, by rw [e]; rfl, Int.mul_le_mul_of_nonneg_left l hc⟩
theorem mul_et {t : Int → Int} (hc : 0 ≤ c) (h : Et N E t) : Et N (mulE c E) fun k => c * t k where
  nn := fun k hk => Int.mul_nonneg hc (h.nn k hk)
  kp := fun e he => by
    obtain ⟨x, hx, rfl⟩ := mem_mul.mp he
    have := Int.mul_le_mul_of_nonneg_left (h.kp x hx) hc
    rw [Int.mul_sub] at this
    exact this
  ti := fun k hk => by
    rcases h.ti k hk with e | ⟨j, w, hj, hw, e⟩
    · left; rw [e, Int.mul_zero]
    · exact .inr ⟨j, c * w, hj, wk_mul hw, by rw [e, Int.mul_neg]⟩
theorem ed_mul {r : Int} (h : 0 ≤ r ∧ r < (E.length : Int)) : ed (mulE c E) r = ((ed E r).1, (ed E r).2.1, c * (ed E r).2.2) := by
  unfold ed mulE
  have h1 : r.toNat < E.length := by omega
  rw [List.getElem?_map, List.getElem?_append_left h1, List.getElem?_eq_getElem h1]
  rfl
theorem ch_map {f : Edge → Edge} {σ : Int → Int} (h : ∀ e ∈ E, f e ∈ E' ∧ (f e).1 = σ e.1 ∧ (f e).2.1 = σ e.2.1) : ∀ {es : List Edge} {i j : Int}, Ch E i j es → Ch E' (σ i) (σ j) (es.map f)
  | [], i, j, hc => by
    have hc : i = j := hc
    rw [hc]; rfl
  | e :: es, i, j, ⟨h1, h2, h3⟩ => by
    obtain ⟨a, b, d⟩ := h e h1
    refine ⟨a, by rw [b, h2], ?_⟩
    rw [d]
    exact ch_map h h3
theorem wt_map {f : Edge → Edge} (h : ∀ e, (f e).2.2 = c * e.2.2) : ∀ es : List Edge, wt (es.map f) = c * wt es
  | [] => by rw [List.map_nil, wt_nil, Int.mul_zero]
  | e :: es => by rw [List.map_cons, wt_cons, wt_cons, wt_map h es, h, Int.mul_add]
theorem circ_map {f : Edge → Edge} {σ : Int → Int} {row : List Int} (k : Circ E row) (hl : E.length ≤ E'.length) (he : ∀ r ∈ row, ed E' r = f (ed E r)) (h : ∀ e ∈ E, f e ∈ E' ∧ (f e).1 = σ e.1 ∧ (f e).2.1 = σ e.2.1) (hc : 0 < c) (hw : ∀ e, (f e).2.2 = c * e.2.2) : Circ E' row := by
  have e : es E' row = (es E row).map f := by
    unfold es
    rw [List.map_map]
    exact List.map_congr_left fun r hr => he r hr
  refine ⟨k.ne, fun r hr => by have := k.rg r hr; omega, ?_, ?_⟩
  · obtain ⟨i, hch⟩ := k.ch
    exact ⟨σ i, by rw [e]; exact ch_map h hch⟩
  · rw [e, wt_map hw]
    have := Int.mul_lt_mul_of_pos_left k.wt hc
    omega
theorem circ_mul {row : List Int} (k : Circ E row) (hc : 0 < c) : Circ (mulE c E) row :=
  circ_map (f := fun e => (e.1, e.2.1, c * e.2.2)) (σ := fun x => x) (c := c) k (by unfold mulE; simp) (fun r hr => ed_mul (k.rg r hr)) (fun e he => ⟨mem_mul.mpr ⟨e, he, rfl⟩, rfl, rfl⟩) hc fun _ => rfl
/-! #### names -/
def sg (names : List Int) (p : Int) : Int := (names[p.toNat]?).getD 0
structure OkN (N : Nat) (names : List Int) : Prop where
  len : names.length = N
  nd : names.Nodup
  rng : ∀ x ∈ names, inN N x
variable {names : List Int}
theorem OkN.at' (O : OkN N names) {p : Int} (h : inN N p) : atI names p = some (sg names p) := by
  have hi : p.toNat < names.length := by rw [O.len]; have := h.2; omega
  rw [atI_in h.1]
  unfold sg
  rw [List.getElem?_eq_getElem hi]
  rfl
theorem OkN.im (O : OkN N names) {p : Int} (h : inN N p) : inN N (sg names p) := by
  have hi : p.toNat < names.length := by rw [O.len]; have := h.2; omega
  refine O.rng _ ?_
  unfold sg
  rw [List.getElem?_eq_getElem hi]
  exact List.getElem_mem hi
theorem OkN.inj (O : OkN N names) {p q : Int} (h : inN N p) (h' : inN N q) (e : sg names p = sg names q) : p = q := by
  have hi : p.toNat < names.length := by rw [O.len]; have := h.2; omega
  have hj : q.toNat < names.length := by rw [O.len]; have := h'.2; omega
  unfold sg at e
  rw [List.getElem?_eq_getElem hi, List.getElem?_eq_getElem hj] at e
  have := (List.getElem_inj O.nd (h₀ := hi) (h₁ := hj)).mp e
  have a := h.1
  have b := h'.1
  omega
theorem OkN.sur (O : OkN N names) {q : Int} (h : inN N q) : ∃ j : Nat, names.findIdx? (fun x => decide (x = q)) = some j ∧ inN N (j : Int) ∧ sg names (j : Int) = q := by
  have hl : ((List.range N).map fun i => ((i : Nat) : Int)).length ≤ names.length := by simp [O.len]
  have nd2 : ((List.range N).map fun i => ((i : Nat) : Int)).Nodup := by
    unfold List.Nodup
    rw [List.pairwise_map]
    refine List.nodup_range.imp fun hne e => hne (by omega)
  have hm := nodup_sub_all (l := names) (m := (List.range N).map fun i => ((i : Nat) : Int)) O.nd (fun x hx => by
    have := O.rng x hx
    exact List.mem_map.mpr ⟨x.toNat, List.mem_range.mpr (by have := this.2; omega), by have := this.1; omega⟩) nd2 hl q (List.mem_map.mpr ⟨q.toNat, List.mem_range.mpr (by have := h.2; omega), by have := h.1; omega⟩)
  cases e : names.findIdx? (fun x => decide (x = q)) with
  | none =>
    have := List.findIdx?_eq_none_iff.mp e q hm
    simp at this
  | some j =>
    obtain ⟨hj, h1, _⟩ := List.findIdx?_eq_some_iff_getElem.mp e
    refine ⟨j, rfl, ⟨by omega, by rw [← O.len]; omega⟩, ?_⟩
    unfold sg
    rw [Int.toNat_natCast, List.getElem?_eq_getElem hj]
    exact of_decide_eq_true h1
def namE (names : List Int) (E : List Edge) : List Edge := E.map fun e => (sg names e.1, sg names e.2.1, e.2.2)
theorem wk_nam (q : Wk E i j w) : Wk (namE names E) (sg names i) (sg names j) w := q.to1 (σ := sg names) fun e he => Wk.one (E := namE names E) (e := (sg names e.1, sg names e.2.1, e.2.2)) (List.mem_map_of_mem he)
theorem wk_nam' (O : OkN N names) (ok : OkE N E) (q : Wk (namE names E) i j w) : ∀ p, inN N p → sg names p = i → ∃ r, inN N r ∧ sg names r = j ∧ Wk E p r w :=
  q.ind (P := fun i j w => ∀ p, inN N p → sg names p = i → ∃ r, inN N r ∧ sg names r = j ∧ Wk E p r w) (fun i p hp e => ⟨p, hp, e, .nil E p⟩) fun e he j w ih p hp ep => by
    obtain ⟨x, hx, rfl⟩ := List.mem_map.mp he
    obtain ⟨ha, hb⟩ := ok x hx
    have : p = x.1 := O.inj hp ha ep
    subst this
    obtain ⟨r, hr, er, hw⟩ := ih x.2.1 hb rfl
    exact ⟨r, hr, er, (Wk.one hx).app hw⟩
theorem nam_ok (O : OkN N names) (ok : OkE N E) : OkE N (namE names E) := fun e he => by
  obtain ⟨x, hx, rfl⟩ := List.mem_map.mp he
  exact ⟨O.im (ok x hx).1, O.im (ok x hx).2⟩
theorem nam_neg (O : OkN N names) (ok : OkE N E) : Neg N (namE names E) ↔ Neg N E := by
  constructor
  · rintro ⟨i, w, a, b, q⟩
    obtain ⟨p, _, hp, e⟩ := O.sur a
    obtain ⟨r, hr, er, hw⟩ := wk_nam' O ok q _ hp e
    have := O.inj hr hp (by rw [er, e])
    rw [this] at hw
    exact ⟨_, w, hp, b, hw⟩
  · rintro ⟨i, w, a, b, q⟩
    exact ⟨_, w, O.im a, b, wk_nam q⟩
theorem nam_cl {D : Int → Int → Option Int} (O : OkN N names) (ok : OkE N E) (h : Cl N (namE names E) D) : Cl N E fun i j => if inN N i ∧ inN N j then D (sg names i) (sg names j) else none where
  f1 := fun i j w hw => by
    split at hw
    · rename_i hij
      obtain ⟨_, _, q⟩ := h.f1 _ _ _ hw
      obtain ⟨r, hr, er, q2⟩ := wk_nam' O ok q i hij.1 rfl
      rw [O.inj hr hij.2 er] at q2
      exact ⟨hij.1, hij.2, q2⟩
    · cases hw
  f2 := fun i j w hi hw => by
    obtain ⟨es, hc, _⟩ := id hw
    have hj := hc.last ok hi
    obtain ⟨d, e, l⟩ := h.f2 _ _ _ (O.im hi) (wk_nam hw)
    exact ⟨d, by rw [if_pos ⟨hi, hj⟩]; exact e, l⟩
theorem nam_et {t : Int → Int} (O : OkN N names) (ok : OkE N E) (h : Et N (namE names E) t) : Et N E fun k => t (sg names k) where
  nn := fun k hk => h.nn _ (O.im hk)
  kp := fun e he => h.kp (sg names e.1, sg names e.2.1, e.2.2) (List.mem_map_of_mem he)
  ti := fun k hk => by
    rcases h.ti _ (O.im hk) with e | ⟨j, w, hj, hw, e⟩
    · exact .inl e
    · obtain ⟨r, hr, er, q2⟩ := wk_nam' O ok hw k hk rfl
      exact .inr ⟨r, w, hr, q2, e⟩
theorem circ_nam {row : List Int} (k : Circ E row) : Circ (namE names E) row :=
  circ_map (f := fun e => (sg names e.1, sg names e.2.1, e.2.2)) (σ := sg names) (c := 1) k (by unfold namE; simp) (fun r hr => by
    have h := k.rg r hr
    have h1 : r.toNat < E.length := by omega
    unfold ed namE
    rw [List.getElem?_map, List.getElem?_eq_getElem h1]
    rfl) (fun e he => ⟨List.mem_map_of_mem he, rfl, rfl⟩) (by omega) fun e => by rw [Int.one_mul]
/-! #### a short round -/
theorem neg_row (ok : OkE N E) (n : Neg N E) : ∃ row : List Int, Circ E row ∧ row.Nodup ∧ row.length ≤ N := by
  obtain ⟨i, w, hi, hw, es0, hc0, rfl⟩ := n
  obtain ⟨i', es1, hi', hc, hw, hnd⟩ := round ok es0.length (Nat.le_refl _) hc0 hw
  have hmem := hc.mem
  let ix : Edge → Int := fun e => ((E.idxOf e : Nat) : Int)
  have hix : ∀ e ∈ es1, ed E (ix e) = e ∧ 0 ≤ ix e ∧ ix e < (E.length : Int) := fun e he => by
    have h1 : E.idxOf e < E.length := List.idxOf_lt_length_of_mem (hmem e he)
    refine ⟨?_, by show 0 ≤ ((E.idxOf e : Nat) : Int); omega, by show ((E.idxOf e : Nat) : Int) < _; omega⟩
    unfold ed
    show (E[((E.idxOf e : Nat) : Int).toNat]?).getD _ = e
    rw [Int.toNat_natCast, List.getElem?_eq_getElem h1]
    exact List.getElem_idxOf h1
  have e1 : es E (es1.map ix) = es1 := by
    unfold es
    rw [List.map_map]
    conv => rhs; rw [← List.map_id es1]
    exact List.map_congr_left fun e he => (hix e he).1
  refine ⟨es1.map ix, ⟨fun z => ?_, fun r hr => ?_, ⟨i', by rw [e1]; exact hc⟩, by rw [e1]; exact hw⟩, ?_, ?_⟩
  · have := List.map_eq_nil_iff.mp z
    rw [this, wt_nil] at hw
    omega
  · obtain ⟨e, he, rfl⟩ := List.mem_map.mp hr
    exact (hix e he).2
  · unfold List.Nodup
    rw [List.pairwise_map]
    unfold List.Nodup at hnd
    rw [List.pairwise_map] at hnd
    have : es1.Pairwise fun a b => a ∈ es1 ∧ b ∈ es1 ∧ a.1 ≠ b.1 := by
      rw [List.pairwise_iff_getElem] at hnd ⊢
      intro a b ha hb hab
      exact ⟨List.getElem_mem _, List.getElem_mem _, hnd a b ha hb hab⟩
    refine this.imp ?_
    rintro a b ⟨ha, hb, hne⟩ e
    have h1 := (hix a ha).1
    rw [e, (hix b hb).1] at h1
    exact hne (by rw [h1])
  · rw [List.length_map]
    have := len_rng (N := N) hnd fun x hx => by
      obtain ⟨e, he, rfl⟩ := List.mem_map.mp hx
      exact (ok e (hmem e he)).1
    rwa [List.length_map] at this
end
end K43

/-! P6: drawn nets; the net closed anew. -/
namespace K43
open PySem L2 Nz Hh
structure Drawn (N : Nat) (E : List Edge) : Prop where
  lo : 1 ≤ N
  hi : N ≤ 4
  ok : OkE N E
  w : ∀ e ∈ E, -6 ≤ e.2.2 ∧ e.2.2 ≤ 16
  len : E.length ≤ 7
section
variable {N : Nat} {E : List Edge}
theorem Drawn.net (d : Drawn N E) : OkNet N E := ⟨d.lo, by have := d.hi; omega, d.ok, fun e he => by have := d.w e he; omega⟩
theorem law_net_of {k : Int × List Edge → Prop} (q : ∀ N E, Drawn N E → k ((N : Int), E)) : (m_law_net 4).wp k := by
  unfold m_law_net
  refine Pg.out_of ?_
  refine ⟨by omega, fun r hr0 hr1 => ?_⟩
  simp only [Pg.pure_bnd]
  obtain ⟨N, hN⟩ := Int.eq_ofNat_of_zero_le (show 0 ≤ 1 + r by omega)
  rw [hN]
  refine ⟨by omega, fun m hm0 hm1 => ?_⟩
  refine ⟨by omega, ?_⟩
  change Pg.wp (_ >>= _) _
  refine Pg.bnd_of (p := fun c => ∃ E, c = Ctl.nx E ∧ Drawn N E) ?_ (fun c hc => by
    obtain ⟨E, rfl, hE⟩ := hc
    rw [seqG_nx]
    exact q N E hE)
  refine Pg.forc_of (fun pre (s : List Edge) => s.length = pre.length ∧ OkE N s ∧ ∀ e ∈ s, -6 ≤ e.2.2 ∧ e.2.2 ≤ 16) ⟨rfl, (fun e he => nomatch he), by simp⟩ (fun pre x post s e I => ?_) (fun s I => ⟨s, rfl, by omega, by omega, I.2.1, I.2.2, ?_⟩)
  · obtain ⟨hl, ho, hw⟩ := I
    have hp : pre.length < 7 := by
      have e3 := congrArg List.length e
      unfold rg at e3
      simp only [List.length_map, List.length_range, List.length_append, List.length_cons] at e3
      omega
    refine ⟨by omega, fun a ha0 ha1 => ?_⟩
    refine ⟨by omega, fun b hb0 hb1 => ?_⟩
    refine ⟨by omega, fun c hc0 hc1 => ?_⟩
    refine ⟨by unfold big; omega, ?_⟩
    refine ⟨by simp [hl], fun e he => ?_, fun e he => ?_⟩
    · rcases List.mem_append.mp he with he | he
      · exact ho e he
      · rw [List.mem_singleton.mp he]
        exact ⟨⟨ha0, ha1⟩, hb0, hb1⟩
    · rcases List.mem_append.mp he with he | he
      · exact hw e he
      · rw [List.mem_singleton.mp he]
        show -6 ≤ c - 6 ∧ c - 6 ≤ 16
        omega
  · rw [I.1]
    unfold rg
    simp only [List.length_map, List.length_range]
    omega
theorem law_sum_of {x y : Option Int} {k : Option Int → Prop} (q : k (sumO x y)) : (m_law_sum (x, y)).wp k := by
  unfold m_law_sum
  refine Pg.out_of ?_
  cases x with
  | none => exact q
  | some a =>
    cases y with
    | none => exact q
    | some b => exact ⟨a, rfl, b, rfl, q⟩
theorem law_least_of {x y : Option Int} {k : Option Int → Prop} (q : k (mnO x y)) : (m_law_least [x, y]).wp k := by
  unfold m_law_least
  refine Pg.out_of ?_
  refine Pg.bnd_of (Pg.comp_of (fun o : Option Int => o.isSome) (fun o : Option Int => o.getD 0) _ (fun _ _ => rfl) fun o _ ho => ?_) ?_
  · cases o with
    | none => cases ho
    | some a => exact ⟨a, rfl, rfl⟩
  rintro l rfl
  cases x with
  | none =>
    cases y with
    | none => exact q
    | some b => exact ⟨by simp, q⟩
  | some a =>
    cases y with
    | none => exact ⟨by simp, q⟩
    | some b =>
      refine ⟨by simp, ?_⟩
      exact q
theorem mk_fun {f : Int → Int → Option Int} (h : ∀ i j, ¬ (inN N i ∧ inN N j) → f i j = none) : Dm (mkM N f) = f := funext fun i => funext fun j => by
  by_cases q : inN N i ∧ inN N j
  · exact mkM_get f q.1 q.2
  · rw [Dm_out (mkM_sq f) q, h i j q]
theorem law_closed_of (h2 : N ≤ 8) (ok : OkE N E) (n : ¬ Neg N E) {k : Mat → Prop} (q : ∀ M, Sq N M → Cl N E (Dm M) → k M) : (m_law_closed ((N : Int), E)).wp k := by
  unfold m_law_closed
  refine Pg.out_of ?_
  have hN : -100000 ≤ (N : Int) ∧ (N : Int) ≤ 100000 := by omega
  simp only [Pg.pure_bnd]
  refine Pg.ask_of hN ?_
  refine Pg.bnd_of (Pg.comp_of (fun _ => true) (fun i => (rg (N : Int)).map fun j => if decide (i = j) = true then some (0 : Int) else none) _ (fun _ _ => rfl) fun i hi _ => Pg.ask_of hN (Pg.bnd_of (Pg.comp_of (fun _ => true) (fun j => if decide (i = j) = true then some (0 : Int) else none) _ (fun _ _ => rfl) fun j hj _ => ?_) ?_)) ?_
  · rw [Pg.ifG_pure]
    cases decide (i = j) <;> rfl
  · rintro l rfl
    rw [filt_true]
    rfl
  rintro c7 rfl
  rw [filt_true]
  have e0 : ((rg (N : Int)).map fun i => (rg (N : Int)).map fun j => if decide (i = j) = true then some (0 : Int) else none) = mkM N fun i j => if i = j then some 0 else none := by
    unfold mkM
    simp only [decide_eq_true_eq]
  rw [e0]
  refine Pg.bnd_of (p := fun c => ∃ M, c = Ctl.nx M ∧ Sq N M ∧ EdI N E E (Dm M)) ?_ ?_
  · refine Pg.bnd_of (p := fun c => ∃ M, c = Ctl.nx M ∧ Sq N M ∧ EdI N E E (Dm M)) ?_ (fun c hc => by
      obtain ⟨M, rfl, hM⟩ := hc
      rw [seqG_nx]
      exact ⟨M, rfl, hM⟩)
    refine Pg.forc_of (fun pre M => Sq N M ∧ EdI N E pre (Dm M)) ⟨mkM_sq _, EdI.start E⟩ (fun pre e post M hE I => ?_) (fun M I => ⟨M, rfl, I⟩)
    obtain ⟨S, I⟩ := I
    have hE : E = pre ++ e :: post := hE
    have he : e ∈ E := by rw [hE]; simp
    obtain ⟨ha, hb⟩ := ok e he
    obtain ⟨row, g1, g2, g3, g4⟩ := S.get ha hb
    refine Pg.opt_of g1 (Pg.opt_of g4 (Pg.ask_of (by unfold big; simp) ?_))
    refine Pg.bnd_of (law_least_of (k := fun r => r = mnO (Dm M e.1 e.2.1) (some e.2.2)) rfl) ?_
    rintro r rfl
    obtain ⟨row', p1, p2, p3, p4, p5⟩ := S.put ha hb (mnO (Dm M e.1 e.2.1) (some e.2.2))
    refine Pg.opt_of p1 (Pg.opt_of p2 (Pg.opt_of p3 ?_))
    refine ⟨p4, I.put ok he fun a b => ?_⟩
    rw [p5]
    split
    · rename_i z
      rw [z.1, z.2]
    · rfl
  rintro c ⟨M, rfl, S, I⟩
  show Pg.wp (Pg.ask _ >>= fun _ => _) _
  refine Pg.ask_of hN ?_
  refine Pg.bnd_of (p := fun c => ∃ M, c = Ctl.nx M ∧ Sq N M ∧ Cl N E (Dm M)) ?_ ?_
  · refine Pg.forc_of (fun pre M => Sq N M ∧ Base N E (Dm M) ∧ ∀ q, q ∈ pre → Tri (Dm M) q) ⟨S, I.base, fun q hq => by cases hq⟩ (fun pre kk post M0 hE I0 => ?_) (fun M I => ⟨M, rfl, I.1, I.2.1.cl fun k hk => I.2.2 k (mem_rg.mpr hk)⟩)
    obtain ⟨S0, B0, T0⟩ := I0
    have hk : inN N kk := mem_rg.mp (by rw [hE]; simp)
    refine Pg.ask_of hN ?_
    refine Pg.bnd_of (p := fun l => l = mkM N (rnd (Dm M0) kk)) (Pg.cons (Pg.comp_of (fun _ => true) (fun i => (rg (N : Int)).map fun j => rnd (Dm M0) kk i j) _ (fun _ _ => rfl) fun i hi _ => Pg.ask_of hN (Pg.bnd_of (Pg.comp_of (fun _ => true) (fun j => rnd (Dm M0) kk i j) _ (fun _ _ => rfl) fun j hj _ => ?_) ?_)) ?_) ?_
    · have hi := mem_rg.mp hi
      have hj := mem_rg.mp hj
      obtain ⟨r1, a1, _, _, a4⟩ := S0.get hi hj
      obtain ⟨r2, b1, _, _, b4⟩ := S0.get hi hk
      obtain ⟨r3, c1, _, _, c4⟩ := S0.get hk hj
      refine Pg.opt_of a1 (Pg.opt_of a4 (Pg.opt_of b1 (Pg.opt_of b4 (Pg.opt_of c1 (Pg.opt_of c4 ?_)))))
      refine Pg.bnd_of (law_sum_of (k := fun r => r = sumO (Dm M0 i kk) (Dm M0 kk j)) rfl) ?_
      rintro r rfl
      refine Pg.ask_of (by unfold big; simp) ?_
      exact Pg.bnd_of (law_least_of (k := fun r => r = rnd (Dm M0) kk i j) rfl) fun r hr => hr
    · rintro l rfl
      rw [filt_true]
      rfl
    · rintro l rfl
      rw [filt_true]
      rfl
    rintro l rfl
    obtain ⟨d, ed, _⟩ := B0.dg kk hk
    have d0 : 0 ≤ d := by
      apply Classical.byContradiction
      intro z
      obtain ⟨_, _, c⟩ := B0.real _ _ _ ed
      exact n ⟨kk, d, hk, by omega, c⟩
    have eD : Dm (mkM N (rnd (Dm M0) kk)) = rnd (Dm M0) kk := mk_fun fun i j hij => by
      cases e : rnd (Dm M0) kk i j with
      | none => rfl
      | some w => obtain ⟨a, b, _⟩ := (B0.real.rnd (k := kk)) i j w e; exact (hij ⟨a, b⟩).elim
    refine ⟨mkM_sq _, ?_, fun q hq => ?_⟩
    · rw [eD]
      exact B0.le B0.real.rnd fun i j x hx => rnd_le i j hx
    · rw [eD]
      refine tri_rnd (P := fun q => q ∈ pre) T0 ed d0 q ?_
      rcases List.mem_append.mp hq with hq | hq
      · exact .inl hq
      · exact .inr (List.mem_singleton.mp hq)
  rintro c ⟨M, rfl, S, C⟩
  rw [seqG_nx]
  refine Pg.bnd_of (Pg.comp_of (fun _ => true) (fun r => r) _ (fun _ _ => rfl) fun _ _ _ => rfl) ?_
  rintro l rfl
  rw [filt_true, List.map_id']
  exact q M S C
end
end K43

/-! P7: turns_right. -/
namespace K43
open PySem L2 Nz Hh
section
variable {N : Nat} {E : List Edge}
theorem fit_same {A B : Prop} {b b' : Bool} (h : b = true ↔ A) (h' : b' = true ↔ B) (e : A ↔ B) : (!decide (b = b')) = false := by
  have : b = b' := by
    cases b with
    | true => exact (h'.mpr (e.mp (h.mp rfl))).symm
    | false =>
      cases hb : b' with
      | false => rfl
      | true => exact absurd (h.mpr (e.mpr (h'.mp hb))) Bool.false_ne_true
  rw [decT this]; rfl
theorem nd {p : Prop} [Decidable p] (h : p) : (!decide p) = false := by rw [decT h]; rfl
theorem tf_ext {l l' : List Int} (h : l.length = N) (h' : l'.length = N) (e : ∀ i, inN N i → tf l i = tf l' i) : l = l' := by
  refine List.ext_getElem (by rw [h, h']) fun i h1 h2 => ?_
  have := e (i : Int) ⟨by omega, by omega⟩
  unfold tf at this
  rw [Int.toNat_natCast, List.getElem?_eq_getElem h1, List.getElem?_eq_getElem h2] at this
  exact this
theorem tf_map {l : List Int} {f : Int → Int} (h : l.length = N) {i : Int} (hi : inN N i) : tf (l.map f) i = f (tf l i) := by
  have : i.toNat < l.length := by rw [h]; have := hi.2; omega
  unfold tf
  rw [List.getElem?_map, List.getElem?_eq_getElem this]
  rfl
theorem tf_mem {l : List Int} (h : l.length = N) {x : Int} (hx : x ∈ l) : ∃ i, inN N i ∧ tf l i = x := by
  obtain ⟨i, hi, e⟩ := List.mem_iff_getElem.mp hx
  refine ⟨(i : Int), ⟨by omega, by omega⟩, ?_⟩
  unfold tf
  rw [Int.toNat_natCast, List.getElem?_eq_getElem hi]
  exact e
theorem rg_len : (rg (N : Int)).length = N := by rw [rg_nat]; simp
theorem tf_rg {f : Int → Int} {i : Int} (hi : inN N i) : tf ((rg (N : Int)).map f) i = f i := by
  rw [tf_map rg_len hi]
  congr 1
  unfold tf
  have : i.toNat < N := by have := hi.2; omega
  rw [rg_nat, List.getElem?_map, List.getElem?_range this]
  show ((i.toNat : Nat) : Int) = i
  have := hi.1
  omega
theorem loop_ok {α β L : Type} {xs : List α} {f : α → Unit → Pg (Ctl β Unit Unit)} {k : Ctl β L Unit → Prop} (h : ∀ x ∈ xs, (f x ()).wp fun c => c = .nx ()) (q : k (.nx ())) : (Pg.forc xs () f).wp k := by
  refine Pg.forc_of (fun _ _ => True) trivial (fun pre x post s e _ => ?_) (fun _ _ => q)
  refine Pg.cons (h x (by rw [e]; simp)) ?_
  rintro c rfl
  trivial
theorem mul_net {c : Int} (d : Drawn N E) (h : 1 ≤ c ∧ c ≤ 5) : OkNet N (mulE c E) := ⟨d.lo, by have := d.hi; omega, mul_ok d.ok, fun e he => by
  obtain ⟨x, hx, rfl⟩ := mem_mul.mp he
  obtain ⟨w1, w2⟩ := d.w x hx
  obtain ⟨c1, c2⟩ := h
  have : c = 1 ∨ c = 2 ∨ c = 3 ∨ c = 4 ∨ c = 5 := by omega
  show -99 ≤ c * x.2.2 ∧ c * x.2.2 ≤ 99
  rcases this with rfl | rfl | rfl | rfl | rfl <;> omega⟩
theorem back_net (d : OkNet N E) : OkNet N (backE E) := ⟨d.lo, d.hi, back_ok d.ok, fun e he => d.w (flip e) (mem_back.mp he)⟩
theorem nam_net {names : List Int} (O : OkN N names) (d : OkNet N E) : OkNet N (namE names E) := ⟨d.lo, d.hi, nam_ok O d.ok, fun e he => by
  obtain ⟨x, hx, rfl⟩ := List.mem_map.mp he
  exact d.w x hx⟩
theorem back_keeps {ts : List Int} (hl : ts.length = N) (ok : OkE N E) (h : Keeps E (tf ts)) : Keeps (backE E) (tf (ts.map fun y => 0 - y)) := fun e he => by
  have hm := mem_back.mp he
  obtain ⟨a, b⟩ : inN N e.2.1 ∧ inN N e.1 := ok _ hm
  have : tf ts e.1 - tf ts e.2.1 ≤ e.2.2 := h _ hm
  rw [tf_map hl a, tf_map hl b]
  omega
set_option maxHeartbeats 1000000 in
theorem turns_of (d : Drawn N E) : (m_law_turns_right ((N : Int), E)).wp fun b => b = true := by
  have hi := d.hi
  have hle := d.len
  unfold m_law_turns_right
  refine Pg.out_of ?_
  simp only [Pg.pure_bnd]
  have hN : -100000 ≤ (N : Int) ∧ (N : Int) ≤ 100000 := by omega
  refine Pg.bnd_of (fits_of d.net (k := fun b => b = true ↔ ¬ Neg N E) fun b h => h) ?_
  intro fit hfit
  refine Pg.bnd_of (closed_net_of d.net (k := CS N E) fun M h => h) ?_
  intro M C
  refine Pg.bnd_of (Pg.comp_of (fun _ => true) flip _ (fun _ _ => rfl) fun _ _ _ => rfl) ?_
  rintro bk rfl
  rw [filt_true]
  change Pg.wp (Pg.ask _ >>= fun _ => _) _
  refine Pg.ask_of hN (Pg.ask_of hN ?_)
  refine Pg.bnd_of (p := fun c => ∃ left names, c = Ctl.nx (left, names) ∧ OkN N names) ?_ ?_
  · refine Pg.forc_of (fun pre s => s.2.length = pre.length ∧ (s.2 ++ s.1).Perm (rg (N : Int))) ⟨rfl, by simp⟩ (fun pre x post s e I => ?_) (fun s I => ?_)
    · obtain ⟨left, names⟩ := s
      obtain ⟨hl, hp⟩ := I
      have hl : names.length = pre.length := hl
      have hp : (names ++ left).Perm (rg (N : Int)) := hp
      obtain ⟨rfl, hlt⟩ := rg_pre e
      have hpl := hp.length_eq
      rw [rg_nat] at hpl
      simp only [List.length_append, List.length_map, List.length_range] at hpl
      refine ⟨by show (0 : Int) < (left.length : Int) ∧ (left.length : Int) < 1073741824; omega, fun r hr0 hr1 => ?_⟩
      have hr1 : r < (left.length : Int) := hr1
      have hr2 : r.toNat < left.length := by omega
      refine ⟨by show 0 ≤ r ∧ r ≤ 100000 ∧ names.length < 100000; omega, left[r.toNat], List.getElem?_eq_getElem hr2, ?_, ?_⟩
      · show (names ++ [_]).length = (pre ++ [_]).length
        rw [List.length_append, List.length_append, hl]; rfl
      · show ((names ++ [left[r.toNat]]) ++ left.eraseIdx r.toNat).Perm _
        rw [List.append_assoc]
        refine (List.Perm.append_left names ?_).trans hp
        exact erase_perm left r.toNat hr2
    · obtain ⟨left, names⟩ := s
      obtain ⟨hl, hp⟩ := I
      have hp : (names ++ left).Perm (rg (N : Int)) := hp
      have el : (rg (N : Int)).length = N := rg_len
      have hl0 : names.length = N := by rw [← el]; exact hl
      have hpl := hp.length_eq
      rw [el, List.length_append] at hpl
      have h0 : left = [] := List.length_eq_zero_iff.mp (by omega)
      clear hl
      subst h0
      rw [List.append_nil] at hp
      have nd2 : (rg (N : Int)).Nodup := by
        rw [rg_nat]
        unfold List.Nodup
        rw [List.pairwise_map]
        exact List.nodup_range.imp fun hne e => hne (by omega)
      exact ⟨_, names, rfl, hl0, hp.nodup_iff.mpr nd2, fun x hx => mem_rg.mp (hp.subset hx)⟩
  rintro c ⟨left, names, rfl, O⟩
  rw [seqG_nx]
  refine Pg.bnd_of (Pg.comp_of (fun _ => true) (fun e : Edge => (sg names e.1, sg names e.2.1, e.2.2)) _ (fun _ _ => rfl) fun e he _ => ?_) ?_
  · obtain ⟨a, b⟩ := d.ok e he
    exact Pg.opt_of (O.at' a) (Pg.opt_of (O.at' b) rfl)
  rintro nm rfl
  rw [filt_true]
  refine ⟨by omega, fun r hr0 hr1 => ?_⟩
  obtain ⟨c, hc⟩ : ∃ c, c = 1 + r := ⟨_, rfl⟩
  have c5 : 1 ≤ c ∧ c ≤ 5 := by omega
  have cm : ∀ x, CMul c x := fun x => .inl (by omega)
  simp only [Pg.pure_bnd]
  rw [← hc]
  refine Pg.ask_of (by show (E ++ E).length ≤ 100000; rw [List.length_append]; omega) ?_
  refine Pg.bnd_of (Pg.comp_of (fun _ => true) (fun e : Edge => (e.1, e.2.1, c * e.2.2)) _ (fun _ _ => rfl) fun e he _ => Pg.ask_of (cm _) rfl) ?_
  rintro gr rfl
  rw [filt_true]
  have B1 := back_net d.net
  have B2 := nam_net O d.net
  have B3 := mul_net d c5
  have n1 : Neg N (backE E) ↔ Neg N E := back_neg
  have n2 : Neg N (namE names E) ↔ Neg N E := nam_neg O d.ok
  have n3 : Neg N (mulE c E) ↔ Neg N E := mul_neg (by omega)
  have ff : ∀ {E' : List Edge}, OkNet N E' → (Neg N E' ↔ Neg N E) → (m_fits ((N : Int), E') >>= fun r => (pure (!decide (r = fit)) : Pg Bool)).wp fun z => z = false := fun h e => Pg.bnd_of (fits_of h (k := fun b => b = true ↔ ¬ Neg N _) fun b h => h) fun b hb => fit_same hb hfit (not_congr e)
  refine Pg.bnd_of (Pg.or_of (b1 := false) (b2 := false) (ff B1 n1) fun _ => Pg.or_of (b1 := false) (b2 := false) (ff B2 n2) fun _ => ff B3 n3) ?_
  rintro z rfl
  rw [Pg.ifG_pure, if_neg (by simp)]
  rw [Pg.ifG_pure]
  cases hf : fit with
  | false =>
    have hneg : Neg N E := Classical.byContradiction fun z => by
      have := hfit.mpr z
      rw [hf] at this
      cases this
    rw [if_pos (show (!false) = true from rfl)]
    refine Pg.bnd_of (bad_circle_of d.net (by omega) (k := fun r => ∃ row, r = some row ∧ Circ E row ∧ row.length ≤ 4) (fun z => (z hneg).elim) fun _ => ⟨?_, fun row c l => ⟨row, rfl, c, l⟩⟩) ?_
    · obtain ⟨row, r1, r2, r3⟩ := neg_row d.ok hneg
      exact ⟨row, r1, r2, r3, by omega⟩
    rintro r ⟨row, rfl, cr, l4⟩
    have tk : ∀ {E' : List Edge} {row' : List Int}, OkNet N E' → Circ E' row' → row'.length ≤ 4 → (m_takes_circle (((N : Int), E'), row') >>= fun r => (pure (!decide (r = true)) : Pg Bool)).wp fun z => z = false := fun h c l => Pg.bnd_of (takes_circle_of h c (by omega) (k := fun b => b = true) rfl) fun b hb => nd hb
    refine Pg.bnd_of (Pg.or_of (b1 := false) (b2 := false) (Pg.opt_of rfl (tk d.net cr l4)) fun _ => Pg.or_of (b1 := false) (b2 := false) (Pg.opt_of rfl (tk B3 (circ_mul cr (by omega)) l4)) fun _ => Pg.opt_of rfl (tk B2 (circ_nam cr) l4)) ?_
    rintro z rfl
    rw [Pg.ifG_pure, if_neg (by simp)]
    refine Pg.bnd_of (Pg.or_of (b1 := false) (b2 := false) (Pg.opt_of rfl (Pg.bnd_of (Pg.comp_of (fun _ => true) (fun y => (E.length : Int) - 1 - y) _ (fun _ _ => rfl) fun _ _ _ => rfl) ?_)) fun _ => ?_) ?_
    · rintro l rfl
      rw [filt_true]
      exact tk B1 (circ_back cr) (by simp; exact l4)
    · exact Pg.bnd_of (earliest_of' d.net (k := fun r => r = none) (fun _ => rfl) (fun z => (z hneg).elim)) fun r hr => by rw [hr]; rfl
    rintro z rfl
    rw [Pg.ifG_pure, if_neg (by simp)]
    refine Pg.bnd_of (Pg.and_of (b1 := true) (b2 := true) (Pg.opt_of rfl (Pg.opt_of rfl (Pg.ask_of ?_ ?_))) fun _ => ?_) ?_
    · rw [cutT, cut1]
      show (row.drop 1 ++ row.take 1).length ≤ 100000
      simp only [List.length_append, List.length_drop, List.length_take]
      omega
    · rw [cutT, cut1]
      exact Pg.bnd_of (takes_circle_of d.net (circ_rot cr) (by simp only [List.length_append, List.length_drop, List.length_take]; omega) (k := fun b => b = true) rfl) fun b hb => decT hb
    · exact Pg.bnd_of (earliest_of' B3 (k := fun r => r = none) (fun _ => rfl) (fun z => (z (n3.mpr hneg)).elim)) fun r hr => by rw [hr]; rfl
    rintro z rfl
    rfl
  | true =>
    have n : ¬ Neg N E := hfit.mp hf
    rw [if_neg (show ¬ (!true) = true from Bool.false_ne_true)]
    have Cc := C.cl n
    have same : ∀ {M' : Mat}, Sq N M' → Cl N E (Dm M') → M' = M := fun S h => S.ext C.sq fun i j _ _ => h.same Cc i j
    refine Pg.bnd_of (Pg.or_of (b1 := false) (b2 := false) (Pg.bnd_of (law_closed_of d.net.hi d.ok n (k := fun M' => M' = M) fun M' S h => same S h) fun M' hM => nd hM.symm) fun _ => Pg.bnd_of (bad_circle_of d.net (by omega) (k := fun r => r = none) (fun _ => rfl) fun z => (n z).elim) fun r hr => by rw [hr]; rfl) ?_
    rintro z rfl
    rw [Pg.ifG_pure, if_neg (by simp)]
    refine Pg.bnd_of (closed_net_of B1 (k := CS N (backE E)) fun M h => h) ?_
    intro Mb Cb
    have Cb' := Cb.cl (fun z => n (n1.mp z))
    refine Pg.ask_of hN ?_
    refine Pg.bnd_of (p := fun l => l = mkM N fun i j => Dm M j i) (Pg.cons (Pg.comp_of (fun _ => true) (fun i => (rg (N : Int)).map fun j => Dm M j i) _ (fun _ _ => rfl) fun i hi' _ => Pg.ask_of hN (Pg.bnd_of (Pg.comp_of (fun _ => true) (fun j => Dm M j i) _ (fun _ _ => rfl) fun j hj _ => ?_) ?_)) ?_) ?_
    · obtain ⟨row, g1, _, _, g4⟩ := C.sq.get (mem_rg.mp hj) (mem_rg.mp hi')
      exact Pg.opt_of g1 (Pg.opt_of g4 rfl)
    · rintro l rfl
      rw [filt_true]
      rfl
    · rintro l rfl
      rw [filt_true]
      rfl
    rintro l rfl
    rw [Pg.ifG_pure, if_neg (by
      rw [nd (Cb.sq.ext (mkM_sq _) fun i j a b => by
        rw [mkM_get _ a b]
        exact (back_cl Cb' d.ok).same Cc j i)]
      exact Bool.false_ne_true)]
    refine Pg.bnd_of (closed_net_of B2 (k := CS N (namE names E)) fun M h => h) ?_
    intro Mo Co
    have Co' := Co.cl (fun z => n (n2.mp z))
    have eo : ∀ i j, inN N i → inN N j → Dm Mo (sg names i) (sg names j) = Dm M i j := fun i j a b => by
      have := (nam_cl O d.ok Co').same Cc i j
      rw [if_pos ⟨a, b⟩] at this
      exact this
    refine Pg.bnd_of (closed_net_of B3 (k := CS N (mulE c E)) fun M h => h) ?_
    intro Mg Cg
    have Cg' := Cg.cl (fun z => n (n3.mp z))
    have eg : ∀ i j, Dm Mg i j = (Dm M i j).map (c * ·) := fun i j => Cg'.same (mul_cl (by omega) Cc) i j
    refine Pg.ask_of hN ?_
    refine Pg.bnd_of (p := fun c => c = Ctl.nx ()) (loop_ok (fun i hi' => ?_) rfl) ?_
    · refine Pg.ask_of hN ?_
      refine Pg.bnd_of (p := fun c => c = Ctl.nx ()) (loop_ok (fun j hj => ?_) rfl) ?_
      · have hi' := mem_rg.mp hi'
        have hj := mem_rg.mp hj
        obtain ⟨r1, a1, _, _, a4⟩ := Co.sq.get (O.im hi') (O.im hj)
        obtain ⟨r2, b1, _, _, b4⟩ := C.sq.get hi' hj
        obtain ⟨r3, c1, _, _, c4⟩ := Cg.sq.get hi' hj
        obtain ⟨r4, e1, _, _, e4⟩ := C.sq.get hj hi'
        refine Pg.bnd_of (Pg.or_of (b1 := false) (b2 := false) (Pg.opt_of (O.at' hi') (Pg.opt_of a1 (Pg.opt_of (O.at' hj) (Pg.opt_of a4 (Pg.opt_of b1 (Pg.opt_of b4 (nd (eo i j hi' hj)))))))) fun _ => Pg.opt_of c1 (Pg.opt_of c4 (Pg.bnd_of (p := fun z => z = (Dm M i j).map (c * ·)) ?_ ?_))) ?_
        · refine Pg.if_of (b := (Dm M i j).isNone) (Pg.opt_of b1 (Pg.opt_of b4 rfl)) ?_
          cases hD : Dm M i j with
          | none => rfl
          | some x =>
            rw [hD] at b4
            exact Pg.opt_of b1 (Pg.opt_of b4 (Pg.opt_of rfl (Pg.ask_of (cm _) rfl)))
        · rintro z rfl
          exact nd (eg i j)
        rintro z rfl
        rw [Pg.ifG_pure, if_neg (by simp)]
        refine Pg.bnd_of (range_of_of d.net n hi' hj (k := fun r => r = ((Dm M i j).map fun d => -d, Dm M j i)) fun M' C' => ?_) ?_
        · rw [same C'.sq (C'.cl n)]
        rintro r rfl
        refine Pg.bnd_of (p := fun z => z = (Dm M i j).map fun d => -d) ?_ ?_
        · refine Pg.if_of (b := (Dm M i j).isNone) (Pg.opt_of b1 (Pg.opt_of b4 rfl)) ?_
          cases hD : Dm M i j with
          | none => rfl
          | some x =>
            rw [hD] at b4
            refine Pg.opt_of b1 (Pg.opt_of b4 (Pg.opt_of rfl ?_))
            show some (0 - x) = some (-x)
            rw [Int.zero_sub]
        rintro z rfl
        refine Pg.opt_of e1 (Pg.opt_of e4 ?_)
        rw [Pg.ifG_pure, if_neg (by rw [nd rfl]; exact Bool.false_ne_true)]
        rfl
      · rintro c rfl
        rfl
    rintro _ rfl
    rw [seqG_nx]
    refine Pg.bnd_of (earliest_of' d.net (k := fun r => ∃ ts, r = some ts ∧ ts.length = N ∧ Et N E (tf ts)) (fun z => (n z).elim) fun _ ts a b => ⟨ts, rfl, a, b⟩) ?_
    rintro r ⟨ts, rfl, tl, te⟩
    refine Pg.bnd_of (Pg.or_of (b1 := false) (b2 := false) (Pg.bnd_of (earliest_of' B3 (k := fun r => r = some (ts.map (c * ·))) (fun z => (n (n3.mp z)).elim) fun _ tg a b => ?_) fun r hr => Pg.opt_of rfl (Pg.bnd_of (Pg.comp_of (fun _ => true) (c * ·) _ (fun _ _ => rfl) fun _ _ _ => Pg.ask_of (cm _) rfl) fun l hl => ?_)) fun _ => Pg.bnd_of (earliest_of' B2 (k := fun r => ∃ tg, r = some tg ∧ tg.length = N ∧ Et N (namE names E) (tf tg)) (fun z => (n (n2.mp z)).elim) fun _ ts a b => ⟨ts, rfl, a, b⟩) fun r hr => ?_) ?_
    · congr 1
      refine tf_ext a (by simp [tl]) fun i hi' => ?_
      rw [tf_map tl hi']
      exact b.uniq (mul_et (by omega) te) i hi'
    · rw [hr, hl, filt_true]
      exact nd rfl
    · obtain ⟨to, rfl, ol, oe⟩ := hr
      refine Pg.ask_of hN (Pg.bnd_of (Pg.comp_of (fun _ => true) (fun y => tf to y) _ (fun _ _ => rfl) fun y hy _ => ?_) ?_)
      · obtain ⟨j, j1, j2, j3⟩ := O.sur (mem_rg.mp hy)
        refine Pg.opt_of rfl (Pg.opt_of j1 (Pg.opt_of (tf_at tl j2) ?_))
        have := (nam_et O d.ok oe).uniq te (j : Int) j2
        show tf ts (j : Int) = tf to y
        rw [← j3]
        exact this.symm
      · rintro l rfl
        rw [filt_true]
        refine nd ?_
        congr 1
        exact tf_ext ol (by simp [rg_len]) fun i hi' => (tf_rg hi').symm
    rintro z rfl
    rw [Pg.ifG_pure, if_neg (by simp)]
    refine Pg.bnd_of (Pg.and_of (b1 := true) (b2 := true) (Pg.opt_of rfl (Pg.bnd_of (keeps_of d.net tl (k := fun b => b = true) fun b hb => hb.mpr te.kp) fun b hb => decT hb)) fun _ => Pg.and_of (b1 := true) (b2 := true) (Pg.opt_of rfl (Pg.ask_of ?_ (decT ?_))) fun _ => Pg.opt_of rfl (Pg.bnd_of (Pg.comp_of (fun _ => true) (fun y => 0 - y) _ (fun _ _ => rfl) fun _ _ _ => rfl) ?_)) ?_
    · rintro rfl
      have := d.lo
      rw [← tl] at this
      simp at this
    · have hne : ts ≠ [] := by
        rintro rfl
        have := d.lo
        rw [← tl] at this
        simp at this
      obtain ⟨i, a, b⟩ := tf_mem tl (minL_spec hne).1
      rw [← b]
      exact te.nn i a
    · rintro l rfl
      rw [filt_true]
      exact Pg.bnd_of (keeps_of B1 (by simp [tl]) (k := fun b => b = true) fun b hb => hb.mpr (back_keeps tl d.ok te.kp)) fun b hb => decT hb
    rintro z rfl
    rfl
end
end K43

/-! P8: times_right. -/
namespace K43
open PySem L2 Nz Hh
section
variable {N : Nat} {E : List Edge} {M : Mat}
theorem wt_bd {lo hi : Int} (h0 : lo ≤ 0) (h1 : 0 ≤ hi) : ∀ {es : List Edge} (m : Nat), es.length ≤ m → (∀ e ∈ es, lo ≤ e.2.2 ∧ e.2.2 ≤ hi) → lo * (m : Int) ≤ wt es ∧ wt es ≤ hi * (m : Int)
  | [], m, _, _ => by
    rw [wt_nil]
    exact ⟨Int.mul_nonpos_of_nonpos_of_nonneg h0 (by omega), Int.mul_nonneg h1 (by omega)⟩
  | e :: es, 0, hl, _ => absurd hl (by simp)
  | e :: es, m + 1, hl, h => by
    obtain ⟨a, b⟩ := wt_bd h0 h1 (es := es) m (by simpa using hl) fun x hx => h x (List.mem_cons_of_mem _ hx)
    obtain ⟨c, d⟩ := h e List.mem_cons_self
    rw [wt_cons]
    have e1 : ((m + 1 : Nat) : Int) = (m : Int) + 1 := by omega
    rw [e1, Int.mul_add, Int.mul_add, Int.mul_one, Int.mul_one]
    omega
theorem cl_bd {D : Int → Int → Option Int} {lo hi : Int} (h0 : lo ≤ 0) (h1 : 0 ≤ hi) (ok : OkE N E) (n : ¬ Neg N E) (C : Cl N E D) (h : ∀ e ∈ E, lo ≤ e.2.2 ∧ e.2.2 ≤ hi) {i j w : Int} (hw : D i j = some w) : lo * (N : Int) ≤ w ∧ w ≤ hi * (N : Int) := by
  obtain ⟨a, b, es, hc, rfl⟩ := C.f1 _ _ _ hw
  obtain ⟨es', c1, c2, c3⟩ := shorten n ok es.length (Nat.le_refl _) hc
  have hl : es'.length ≤ N := by
    have := len_rng (N := N) c3 fun x hx => by
      obtain ⟨e, he, rfl⟩ := List.mem_map.mp hx
      exact (ok e (c1.mem e he)).1
    rwa [List.length_map] at this
  obtain ⟨b1, b2⟩ := wt_bd h0 h1 N hl fun e he => h e (c1.mem e he)
  obtain ⟨d, e1, l⟩ := C.f2 _ _ _ a ⟨es', c1, rfl⟩
  rw [hw] at e1
  cases e1
  omega
/-- every least weight as a bound -/
def rowW (N : Nat) (D : Int → Int → Option Int) (i : Int) : List Edge := ((rg (N : Int)).filter fun j => (D i j).isSome).map fun j => (i, j, (D i j).getD 0)
def wideW (N : Nat) (D : Int → Int → Option Int) : List Edge := (rg (N : Int)).flatMap (rowW N D)
theorem mem_wide {D : Int → Int → Option Int} (h : ∀ i j w, D i j = some w → inN N i ∧ inN N j) {e : Edge} : e ∈ wideW N D ↔ D e.1 e.2.1 = some e.2.2 := by
  unfold wideW rowW
  rw [List.mem_flatMap]
  constructor
  · rintro ⟨i, hi, he⟩
    obtain ⟨j, hj, rfl⟩ := List.mem_map.mp he
    obtain ⟨_, hs⟩ := List.mem_filter.mp hj
    obtain ⟨w, hw⟩ := Option.isSome_iff_exists.mp hs
    show D i j = some ((D i j).getD 0)
    rw [hw]; rfl
  · intro hw
    obtain ⟨a, b⟩ := h _ _ _ hw
    refine ⟨e.1, mem_rg.mpr a, List.mem_map.mpr ⟨e.2.1, List.mem_filter.mpr ⟨mem_rg.mpr b, by rw [hw]; rfl⟩, ?_⟩⟩
    rw [hw]; rfl
section
variable {D : Int → Int → Option Int}
theorem Cl.wide (C : Cl N E D) : (∀ e, e ∈ wideW N D ↔ D e.1 e.2.1 = some e.2.2) := fun e => mem_wide fun i j w h => ⟨(C.f1 i j w h).1, (C.f1 i j w h).2.1⟩
theorem Cl.wide_wk (C : Cl N E D) {i j w : Int} (q : Wk (wideW N D) i j w) : Wk E i j w := q.to1 (σ := fun x => x) fun e he => (C.f1 _ _ _ ((C.wide e).mp he)).2.2
theorem Cl.wide_cl (C : Cl N E D) : Cl N (wideW N D) D where
  f1 := fun i j w hw => ⟨(C.f1 i j w hw).1, (C.f1 i j w hw).2.1, Wk.one (e := (i, j, w)) ((C.wide (i, j, w)).mpr hw)⟩
  f2 := fun i j w hi hw => C.f2 i j w hi (C.wide_wk hw)
theorem Cl.wide_keeps (C : Cl N E D) (ok : OkE N E) {t : Int → Int} : Keeps (wideW N D) t ↔ Keeps E t := by
  constructor
  · intro h e he
    obtain ⟨d, e1, l⟩ := C.f2 _ _ _ (ok e he).1 (.one he)
    have := h (e.1, e.2.1, d) ((C.wide _).mpr e1)
    have : t e.2.1 - t e.1 ≤ d := this
    omega
  · intro h e he
    exact h.wk (C.f1 _ _ _ ((C.wide e).mp he)).2.2
theorem Cl.wide_ok (C : Cl N E D) : OkE N (wideW N D) := fun e he => by
  obtain ⟨a, b, _⟩ := C.f1 _ _ _ ((C.wide e).mp he)
  exact ⟨a, b⟩
theorem Cl.wide_neg (C : Cl N E D) (n : ¬ Neg N E) : ¬ Neg N (wideW N D) := fun ⟨i, w, a, b, q⟩ => n ⟨i, w, a, b, C.wide_wk q⟩
end
set_option maxHeartbeats 1000000 in
theorem times_of (d : Drawn N E) : (m_law_times_right ((N : Int), E)).wp fun b => b = true := by
  have hi := d.hi
  have hle := d.len
  unfold m_law_times_right
  refine Pg.out_of ?_
  simp only [Pg.pure_bnd]
  have hN : -100000 ≤ (N : Int) ∧ (N : Int) ≤ 100000 := by omega
  refine Pg.bnd_of (closed_net_of d.net (k := CS N E) fun M h => h) ?_
  intro M C
  refine Pg.ask_of hN ?_
  refine Pg.bnd_of (p := fun ts : List Int => ts.length = N ∧ ∀ i, inN N i → 0 ≤ tf ts i) (Pg.cons (comp_rel (R := fun _ (y : Int) => 0 ≤ y) _ fun x _ => ⟨by omega, fun r h0 _ => h0⟩) ?_) ?_
  · rintro l ⟨h1, h2⟩
    rw [rg_len] at h1
    refine ⟨h1, fun i hi' => ?_⟩
    have hl : i.toNat < l.length := by rw [h1]; have := hi'.2; omega
    have := h2 i.toNat (by rw [rg_len]; omega) hl
    unfold tf
    rw [List.getElem?_eq_getElem hl]
    exact this
  rintro ts ⟨tl, t0⟩
  refine Pg.bnd_of (Pg.comp_of (fun _ => true) (fun e : Edge => decide (tf ts e.2.1 - tf ts e.1 ≤ e.2.2)) _ (fun _ _ => rfl) fun e he _ => ?_) ?_
  · obtain ⟨a, b⟩ := d.ok e he
    exact Pg.opt_of (tf_at tl b) (Pg.opt_of (tf_at tl a) rfl)
  rintro l rfl
  rw [filt_true]
  obtain ⟨due, hdue⟩ : ∃ due, due = (E.map fun e : Edge => decide (tf ts e.2.1 - tf ts e.1 ≤ e.2.2)).all id := ⟨_, rfl⟩
  rw [← hdue]
  have hdk : due = true ↔ Keeps E (tf ts) := by
    rw [hdue, List.all_map, List.all_eq_true]
    exact ⟨fun h e he => of_decide_eq_true (h e he), fun h e he => decT (h e he)⟩
  refine ⟨by omega, fun r hr0 hr1 => ?_⟩
  simp only [Pg.pure_bnd]
  refine Pg.bnd_of (Pg.or_of (b1 := false) (b2 := false) (Pg.bnd_of (keeps_of d.net tl (k := fun b => b = true ↔ Keeps E (tf ts)) fun b hb => hb) fun b hb => fit_same hb hdk Iff.rfl) fun _ => Pg.bnd_of (Pg.comp_of (fun _ => true) (fun y => y + (r - 49)) _ (fun _ _ => rfl) fun _ _ _ => rfl) ?_) ?_
  · rintro l rfl
    rw [filt_true]
    refine Pg.bnd_of (keeps_of d.net (by simp [tl]) (k := fun b => b = true ↔ Keeps E (tf (ts.map fun y => y + (r - 49)))) fun b hb => hb) fun b hb => fit_same hb hdk ?_
    constructor
    · intro h e he
      obtain ⟨a, b⟩ := d.ok e he
      have := h e he
      rw [tf_map tl a, tf_map tl b] at this
      omega
    · intro h e he
      obtain ⟨a, b⟩ := d.ok e he
      have := h e he
      rw [tf_map tl a, tf_map tl b]
      omega
  rintro z rfl
  rw [Pg.ifG_pure, if_neg (by simp)]
  refine Pg.bnd_of (fits_of d.net (k := fun b => b = true ↔ ¬ Neg N E) fun b h => h) ?_
  intro fit hfit
  rw [Pg.ifG_pure]
  cases hf : fit with
  | false =>
    have hneg : Neg N E := Classical.byContradiction fun z => by
      have := hfit.mpr z
      rw [hf] at this
      cases this
    rw [if_pos (show (!false) = true from rfl)]
    show (!due) = true
    cases hb : due with
    | false => rfl
    | true => exact ((hdk.mp hb).fit hneg).elim
  | true =>
    have n : ¬ Neg N E := hfit.mp hf
    rw [if_neg (show ¬ (!true) = true from Bool.false_ne_true)]
    have Cc := C.cl n
    refine Pg.ask_of hN ?_
    refine Pg.bnd_of (p := fun c => c = Ctl.nx (wideW N (Dm M))) ?_ ?_
    · refine Pg.forc_of (fun pre s => s = pre.flatMap (rowW N (Dm M)) ∧ s.length ≤ 4 * pre.length) ⟨rfl, by simp⟩ (fun pre i post s e I => ?_) (fun s I => by rw [I.1]; rfl)
      obtain ⟨I1, I2⟩ := I
      have hp : pre.length < 4 := by
        have := (rg_pre e).2
        omega
      have hin : inN N i := mem_rg.mp (by rw [e]; simp)
      refine Pg.ask_of hN ?_
      refine Pg.bnd_of (Pg.comp_of (fun j => (Dm M i j).isSome) (fun j => (i, j, (Dm M i j).getD 0)) _ (fun j hj => ?_) fun j hj hs => ?_) ?_
      · obtain ⟨row, g1, _, _, g4⟩ := C.sq.get hin (mem_rg.mp hj)
        exact Pg.opt_of g1 (Pg.opt_of g4 rfl)
      · obtain ⟨row, g1, _, _, g4⟩ := C.sq.get hin (mem_rg.mp hj)
        obtain ⟨w, hw⟩ := Option.isSome_iff_exists.mp hs
        refine Pg.opt_of g1 (Pg.opt_of g4 (Pg.opt_of hw ?_))
        show (_, _, w) = (_, _, (Dm M i j).getD 0)
        rw [hw]; rfl
      rintro l rfl
      have hl : (rowW N (Dm M) i).length ≤ 4 := by
        unfold rowW
        rw [List.length_map]
        have := List.length_filter_le (fun j => (Dm M i j).isSome) (rg (N : Int))
        rw [rg_len] at this
        omega
      have hl' : (s ++ rowW N (Dm M) i).length ≤ 4 * (pre.length + 1) := by rw [List.length_append]; omega
      refine Pg.ask_of (show (s ++ rowW N (Dm M) i).length ≤ 100000 by omega) ?_
      refine ⟨?_, ?_⟩
      · show s ++ rowW N (Dm M) i = _
        rw [List.flatMap_append, I1]
        simp
      · show (s ++ rowW N (Dm M) i).length ≤ _
        rw [List.length_append (as := pre)]
        exact hl'
    rintro _ rfl
    rw [seqG_nx]
    have Wok : OkNet N (wideW N (Dm M)) := ⟨d.lo, by omega, Cc.wide_ok, fun e he => by
      have := cl_bd (lo := -6) (hi := 16) (by omega) (by omega) d.ok n Cc d.w ((Cc.wide e).mp he)
      omega⟩
    have Wn : ¬ Neg N (wideW N (Dm M)) := Cc.wide_neg n
    have Ee := Cc.etf d.ok
    have Ew := Cc.wide_cl.etf Cc.wide_ok
    refine Pg.bnd_of (Pg.or_of (b1 := false) (b2 := false) (Pg.bnd_of (closed_net_of Wok (k := fun M' => M' = M) fun M' h => h.sq.ext C.sq fun i j _ _ => (h.cl Wn).same Cc.wide_cl i j) fun M' hM => nd hM) fun _ => Pg.or_of (b1 := false) (b2 := false) (Pg.bnd_of (keeps_of Wok tl (k := fun b => b = true ↔ Keeps (wideW N (Dm M)) (tf ts)) fun b hb => hb) fun b hb => fit_same hb hdk (Cc.wide_keeps d.ok)) fun _ => Pg.bnd_of (earliest_of' Wok (k := fun r => ∃ tw, r = some tw ∧ tw.length = N ∧ Et N (wideW N (Dm M)) (tf tw)) (fun z => (Wn z).elim) fun _ ts a b => ⟨ts, rfl, a, b⟩) fun r hr => ?_) ?_
    · obtain ⟨tw, rfl, wl, we⟩ := hr
      refine Pg.bnd_of (earliest_of' d.net (k := fun r => r = some tw) (fun z => (n z).elim) fun _ te a b => ?_) fun r hr => nd hr.symm
      congr 1
      exact tf_ext a wl fun i hi' => by rw [b.uniq Ee i hi', we.uniq Ew i hi']
    rintro z rfl
    rw [Pg.ifG_pure, if_neg (by simp)]
    refine Pg.bnd_of (earliest_of' d.net (k := fun r => ∃ te, r = some te ∧ te.length = N ∧ Et N E (tf te)) (fun z => (n z).elim) fun _ ts a b => ⟨ts, rfl, a, b⟩) ?_
    rintro r ⟨te, rfl, el, ee⟩
    refine Pg.bnd_of (Pg.and_of (b1 := due) (b2 := false) rfl fun hd => Pg.ask_of hN (Pg.bnd_of (Pg.comp_of (fun _ => true) (fun _ => false) _ (fun _ _ => rfl) fun y hy _ => ?_) ?_)) ?_
    · have hy := mem_rg.mp hy
      refine Pg.opt_of rfl (Pg.opt_of (tf_at el hy) (Pg.opt_of (tf_at tl hy) ?_))
      show decide (tf ts y < tf te y) = false
      have := ee.le (hdk.mp hd) t0 y hy
      exact decide_eq_false (by omega)
    · rintro l rfl
      exact any_const _
    rintro z rfl
    rw [Pg.ifG_pure, if_neg (by simp)]
    have hlo := d.lo
    refine ⟨by omega, fun a a0 a1 => ?_⟩
    refine ⟨by omega, fun b b0 b1 => ?_⟩
    refine ⟨by omega, fun c c0 c1 => ?_⟩
    refine Pg.ask_of (by show 1 ≤ 100000; omega) ?_
    have Bl : (E ++ [(a, b, c - 5)]).length ≤ 100000 := by rw [List.length_append]; show E.length + 1 ≤ 100000; omega
    refine Pg.ask_of Bl ?_
    have sub : ∀ e ∈ E, e ∈ E ++ [(a, b, c - 5)] := fun e he => List.mem_append_left _ he
    have Bok : OkNet N (E ++ [(a, b, c - 5)]) := ⟨d.lo, by omega, fun e he => by
      rcases List.mem_append.mp he with he | he
      · exact d.ok e he
      · rw [List.mem_singleton.mp he]; exact ⟨⟨a0, a1⟩, b0, b1⟩, fun e he => by
      rcases List.mem_append.mp he with he | he
      · exact d.net.w e he
      · rw [List.mem_singleton.mp he]
        show -99 ≤ c - 5 ∧ c - 5 ≤ 99
        omega⟩
    refine Pg.bnd_of (fits_of Bok (k := fun b => b = true ↔ ¬ Neg N _) fun b h => h) ?_
    intro fb hfb
    rw [Pg.ifG_pure]
    cases hb : fb with
    | false =>
      rw [if_pos (show (!false) = true from rfl)]
      rfl
    | true =>
      have nb := hfb.mp hb
      rw [if_neg (show ¬ (!true) = true from Bool.false_ne_true)]
      refine Pg.bnd_of (closed_net_of Bok (k := CS N _) fun M h => h) ?_
      intro Ml Cl0
      have Cl' := Cl0.cl nb
      refine Pg.ask_of hN ?_
      refine Pg.bnd_of (p := fun c => c = Ctl.nx ()) (loop_ok (fun i hi' => ?_) rfl) ?_
      · refine Pg.ask_of hN ?_
        refine Pg.bnd_of (p := fun c => c = Ctl.nx ()) (loop_ok (fun j hj => ?_) rfl) ?_
        · have hi' := mem_rg.mp hi'
          have hj := mem_rg.mp hj
          obtain ⟨r2, p1, _, _, p4⟩ := C.sq.get hi' hj
          obtain ⟨r3, q1, _, _, q4⟩ := Cl0.sq.get hi' hj
          refine Pg.bnd_of (p := fun z => z = false) ?_ ?_
          · cases hD : Dm M i j with
            | none =>
              rw [hD] at p4
              refine Pg.cons (Pg.or_of (b1 := (Dm Ml i j).isNone && false) (b2 := false) (Pg.bnd_of (Pg.and_of (Pg.opt_of q1 (Pg.opt_of q4 rfl)) fun _ => Pg.opt_of p1 (Pg.opt_of p4 rfl)) fun z hz => hz) fun _ => Pg.bnd_of (Pg.and_of (b1 := false) (b2 := false) (Pg.opt_of p1 (Pg.opt_of p4 rfl)) fun z => by cases z) fun z hz => hz) ?_
              rintro z rfl
              simp
            | some w =>
              obtain ⟨w', e1, l1⟩ := Cl'.f2 i j w hi' ((Cc.f1 _ _ _ hD).2.2.mono sub)
              rw [hD] at p4
              rw [e1] at q4
              refine Pg.cons (Pg.or_of (b1 := false) (b2 := false) (Pg.bnd_of (Pg.and_of (b1 := false) (b2 := false) (Pg.opt_of q1 (Pg.opt_of q4 rfl)) fun z => by cases z) fun z hz => hz) fun _ => Pg.bnd_of (Pg.and_of (b1 := true) (b2 := false) (Pg.opt_of p1 (Pg.opt_of p4 rfl)) fun _ => Pg.opt_of q1 (Pg.opt_of q4 (Pg.opt_of rfl (Pg.opt_of p1 (Pg.opt_of p4 (Pg.opt_of rfl ?_)))))) fun z hz => hz) ?_
              · show decide (w < w') = false
                exact decide_eq_false (by omega)
              · rintro z rfl
                rfl
          rintro z rfl
          rw [Pg.ifG_pure, if_neg Bool.false_ne_true]
          rfl
        · rintro c rfl
          rfl
      rintro _ rfl
      rw [seqG_nx]
      refine Pg.ask_of hN ?_
      refine Pg.bnd_of (Pg.comp_of (fun _ => true) (fun _ => true) _ (fun _ _ => rfl) fun y hy _ => ?_) ?_
      · have hy := mem_rg.mp hy
        refine Pg.bnd_of (earliest_of' Bok (k := fun r => ∃ tb, r = some tb ∧ tb.length = N ∧ Et N _ (tf tb)) (fun z => (nb z).elim) fun _ ts a b => ⟨ts, rfl, a, b⟩) ?_
        rintro r ⟨tb, rfl, bl, be⟩
        refine Pg.opt_of rfl (Pg.opt_of (tf_at bl hy) (Pg.opt_of rfl (Pg.opt_of (tf_at el hy) ?_)))
        exact decT (ee.le (be.kp.mono sub) be.nn y hy)
      rintro l rfl
      exact all_const _
end
end K43

/-! P9: joined_right. -/
namespace K43
open PySem L2 Nz Hh
def Sh (s : Int) (e : Edge) : Edge := (e.1 + s, e.2.1 + s, e.2.2)
def Dj (s : Int) (D1 D2 : Int → Int → Option Int) (i j : Int) : Option Int :=
  if i ≤ s then (if j ≤ s then D1 i j else sumO (D1 i s) (D2 0 (j - s))) else (if j ≤ s then sumO (D2 (i - s) 0) (D1 s j) else D2 (i - s) (j - s))
theorem sumO_0 (x : Option Int) : sumO (some 0) x = x := by
  cases x with
  | none => rfl
  | some a => show some (0 + a) = _; rw [Int.zero_add]
theorem sumO_0' (x : Option Int) : sumO x (some 0) = x := by
  cases x with
  | none => rfl
  | some a => show some (a + 0) = _; rw [Int.add_zero]
section
variable {N1 N2 : Nat} {E1 E2 : List Edge} {s : Int} {D1 D2 : Int → Int → Option Int}
theorem J4 {i j : Int} (hi : i ≤ s) (hj : j ≤ s) : Dj s D1 D2 i j = D1 i j := by unfold Dj; rw [if_pos hi, if_pos hj]
theorem J1 (z2 : D2 0 0 = some 0) {i k : Int} (hi : i ≤ s) (hk : 0 ≤ k) : Dj s D1 D2 i (s + k) = sumO (D1 i s) (D2 0 k) := by
  unfold Dj
  rw [if_pos hi]
  by_cases h : s + k ≤ s
  · have : k = 0 := by omega
    subst this
    rw [if_pos h, z2, sumO_0', Int.add_zero]
  · rw [if_neg h, show s + k - s = k by omega]
theorem J2 (z1 : D1 s s = some 0) (z2 : D2 0 0 = some 0) {k j : Int} (hk : 0 ≤ k) (hj : j ≤ s) : Dj s D1 D2 (s + k) j = sumO (D2 k 0) (D1 s j) := by
  unfold Dj
  by_cases h : s + k ≤ s
  · have : k = 0 := by omega
    subst this
    rw [if_pos h, if_pos hj, z2, sumO_0, Int.add_zero]
  · rw [if_neg h, if_pos hj, show s + k - s = k by omega]
theorem J3 (z1 : D1 s s = some 0) (z2 : D2 0 0 = some 0) {k l : Int} (hk : 0 ≤ k) (hl : 0 ≤ l) : Dj s D1 D2 (s + k) (s + l) = D2 k l := by
  by_cases h : s + l ≤ s
  · have : l = 0 := by omega
    subst this
    rw [Int.add_zero, J2 z1 z2 hk (Int.le_refl _), z1, sumO_0']
  · by_cases h2 : s + k ≤ s
    · have : k = 0 := by omega
      subst this
      rw [Int.add_zero, J1 z2 (Int.le_refl _) hl, z1, sumO_0]
    · unfold Dj
      rw [if_neg h2, if_neg h, show s + k - s = k by omega, show s + l - s = l by omega]
theorem wk_sh {E' : List Edge} (h : ∀ e ∈ E2, Sh s e ∈ E') {i j w : Int} (q : Wk E2 i j w) : Wk E' (i + s) (j + s) w := q.to1 (σ := fun x => x + s) fun e he => Wk.one (E := E') (e := Sh s e) (h e he)
theorem join_cl {N : Nat} (hs : s = (N1 : Int) - 1) (l1 : 1 ≤ N1) (l2 : 1 ≤ N2) (hN : (N : Int) = s + (N2 : Int)) (o1 : OkE N1 E1) (o2 : OkE N2 E2) (n1 : ¬ Neg N1 E1) (n2 : ¬ Neg N2 E2) (C1 : Cl N1 E1 D1) (C2 : Cl N2 E2 D2) : Cl N (E1 ++ E2.map (Sh s)) (Dj s D1 D2) := by
  have z1 : D1 s s = some 0 := C1.dg n1 ⟨by omega, by omega⟩
  have z2 : D2 0 0 = some 0 := C2.dg n2 ⟨by omega, by omega⟩
  have m1 : ∀ e ∈ E1, e ∈ E1 ++ E2.map (Sh s) := fun e he => List.mem_append_left _ he
  have m2 : ∀ e ∈ E2, Sh s e ∈ E1 ++ E2.map (Sh s) := fun e he => List.mem_append_right _ (List.mem_map_of_mem he)
  have w2 : ∀ {i j w : Int}, Wk E2 i j w → Wk (E1 ++ E2.map (Sh s)) (s + i) (s + j) w := fun q => by
    rw [Int.add_comm s, Int.add_comm s]
    exact wk_sh m2 q
  refine ⟨fun i j w hw => ?_, fun i j w hi hw => ?_⟩
  · by_cases hi : i ≤ s
    · by_cases hj : j ≤ s
      · rw [J4 hi hj] at hw
        obtain ⟨⟨a1, a2⟩, ⟨b1, b2⟩, c⟩ := C1.f1 _ _ _ hw
        exact ⟨⟨a1, by omega⟩, ⟨b1, by omega⟩, c.mono m1⟩
      · obtain ⟨l, rfl⟩ : ∃ l, j = s + l := ⟨j - s, by omega⟩
        rw [J1 z2 hi (by omega)] at hw
        obtain ⟨x, y, ex, ey, rfl⟩ := sumO_some hw
        obtain ⟨⟨a1, a2⟩, _, c⟩ := C1.f1 _ _ _ ex
        obtain ⟨_, ⟨b1, b2⟩, c'⟩ := C2.f1 _ _ _ ey
        have := w2 c'
        rw [Int.add_zero] at this
        exact ⟨⟨a1, by omega⟩, ⟨by omega, by omega⟩, (c.mono m1).app this⟩
    · obtain ⟨k, rfl⟩ : ∃ k, i = s + k := ⟨i - s, by omega⟩
      by_cases hj : j ≤ s
      · rw [J2 z1 z2 (by omega) hj] at hw
        obtain ⟨x, y, ex, ey, rfl⟩ := sumO_some hw
        obtain ⟨⟨a1, a2⟩, _, c⟩ := C2.f1 _ _ _ ex
        obtain ⟨_, ⟨b1, b2⟩, c'⟩ := C1.f1 _ _ _ ey
        have := w2 c
        rw [Int.add_zero] at this
        exact ⟨⟨by omega, by omega⟩, ⟨b1, by omega⟩, this.app (c'.mono m1)⟩
      · obtain ⟨l, rfl⟩ : ∃ l, j = s + l := ⟨j - s, by omega⟩
        rw [J3 z1 z2 (by omega) (by omega)] at hw
        obtain ⟨⟨a1, a2⟩, ⟨b1, b2⟩, c⟩ := C2.f1 _ _ _ hw
        exact ⟨⟨by omega, by omega⟩, ⟨by omega, by omega⟩, w2 c⟩
  · have : inN N i → ∃ d, Dj s D1 D2 i j = some d ∧ d ≤ w := hw.ind (P := fun i j w => inN N i → ∃ d, Dj s D1 D2 i j = some d ∧ d ≤ w) (fun i hi => ?_) fun e he j w ih hi => ?_
    · exact this hi
    · by_cases h : i ≤ s
      · rw [J4 h h]
        exact ⟨0, C1.dg n1 ⟨hi.1, by omega⟩, Int.le_refl _⟩
      · obtain ⟨k, rfl⟩ : ∃ k, i = s + k := ⟨i - s, by omega⟩
        rw [J3 z1 z2 (by omega) (by omega)]
        exact ⟨0, C2.dg n2 ⟨by omega, by have := hi.2; omega⟩, Int.le_refl _⟩
    · rcases List.mem_append.mp he with he | he
      · obtain ⟨⟨a1, a2⟩, b1, b2⟩ := o1 e he
        obtain ⟨d, e1, ld⟩ := ih ⟨b1, by omega⟩
        by_cases hj : j ≤ s
        · rw [J4 (by omega) hj] at e1
          obtain ⟨_, _, c⟩ := C1.f1 _ _ _ e1
          obtain ⟨d', e2, l'⟩ := C1.f2 _ _ _ ⟨a1, a2⟩ ((Wk.one he).app c)
          exact ⟨d', by rw [J4 (by omega) hj]; exact e2, by omega⟩
        · obtain ⟨l, rfl⟩ : ∃ l, j = s + l := ⟨j - s, by omega⟩
          rw [J1 z2 (by omega) (by omega)] at e1
          obtain ⟨x, y, ex, ey, rfl⟩ := sumO_some e1
          obtain ⟨_, _, c⟩ := C1.f1 _ _ _ ex
          obtain ⟨d', e2, l'⟩ := C1.f2 _ _ _ ⟨a1, a2⟩ ((Wk.one he).app c)
          exact ⟨d' + y, by rw [J1 z2 (by omega) (by omega), e2, ey]; rfl, by omega⟩
      · obtain ⟨x0, hx0, rfl⟩ := List.mem_map.mp he
        obtain ⟨⟨a1, a2⟩, b1, b2⟩ := o2 x0 hx0
        have eb : (Sh s x0).2.1 = s + x0.2.1 := Int.add_comm _ _
        have ea : (Sh s x0).1 = s + x0.1 := Int.add_comm _ _
        have ew : (Sh s x0).2.2 = x0.2.2 := rfl
        rw [eb] at ih
        rw [ea, ew]
        obtain ⟨d, e1, ld⟩ := ih ⟨by omega, by omega⟩
        by_cases hj : j ≤ s
        · rw [J2 z1 z2 b1 hj] at e1
          obtain ⟨x, y, ex, ey, rfl⟩ := sumO_some e1
          obtain ⟨_, _, c⟩ := C2.f1 _ _ _ ex
          obtain ⟨d', e2, l'⟩ := C2.f2 _ _ _ ⟨a1, a2⟩ ((Wk.one hx0).app c)
          exact ⟨d' + y, by rw [J2 z1 z2 a1 hj, e2, ey]; rfl, by omega⟩
        · obtain ⟨l, rfl⟩ : ∃ l, j = s + l := ⟨j - s, by omega⟩
          rw [J3 z1 z2 b1 (by omega)] at e1
          obtain ⟨_, _, c⟩ := C2.f1 _ _ _ e1
          obtain ⟨d', e2, l'⟩ := C2.f2 _ _ _ ⟨a1, a2⟩ ((Wk.one hx0).app c)
          exact ⟨d', by rw [J3 z1 z2 a1 (by omega)]; exact e2, by omega⟩
theorem join_neg {N : Nat} (hs : s = (N1 : Int) - 1) (l1 : 1 ≤ N1) (l2 : 1 ≤ N2) (hN : (N : Int) = s + (N2 : Int)) (o1 : OkE N1 E1) (o2 : OkE N2 E2) : ¬ Neg N (E1 ++ E2.map (Sh s)) ↔ ¬ Neg N1 E1 ∧ ¬ Neg N2 E2 := by
  constructor
  · intro n
    refine ⟨fun ⟨i, w, a, b, q⟩ => n ⟨i, w, ⟨a.1, by have := a.2; omega⟩, b, q.mono fun e he => List.mem_append_left _ he⟩, fun ⟨i, w, a, b, q⟩ => n ⟨i + s, w, ⟨by have := a.1; omega, by have := a.2; omega⟩, b, wk_sh (fun e he => List.mem_append_right _ (List.mem_map_of_mem he)) q⟩⟩
  · rintro ⟨n1, n2⟩ ⟨i, w, a, b, q⟩
    obtain ⟨D1, C1⟩ := ex_cl o1 n1
    obtain ⟨D2, C2⟩ := ex_cl o2 n2
    obtain ⟨d, e, l⟩ := (join_cl hs l1 l2 hN o1 o2 n1 n2 C1 C2).f2 i i w a q
    have z1 : D1 s s = some 0 := C1.dg n1 ⟨by omega, by omega⟩
    have z2 : D2 0 0 = some 0 := C2.dg n2 ⟨by omega, by omega⟩
    have : Dj s D1 D2 i i = some 0 := by
      by_cases h : i ≤ s
      · rw [J4 h h]
        exact C1.dg n1 ⟨a.1, by omega⟩
      · obtain ⟨k, rfl⟩ : ∃ k, i = s + k := ⟨i - s, by omega⟩
        rw [J3 z1 z2 (by omega) (by omega)]
        exact C2.dg n2 ⟨by omega, by have := a.2; omega⟩
    rw [this] at e
    cases e
    omega
theorem circ_l {row : List Int} (k : Circ E1 row) : Circ (E1 ++ E2) row :=
  circ_map (f := fun e => e) (σ := fun x => x) (c := 1) k (by simp) (fun r hr => by
    have h := k.rg r hr
    have h1 : r.toNat < E1.length := by omega
    unfold ed
    rw [List.getElem?_append_left h1]) (fun e he => ⟨List.mem_append_left _ he, rfl, rfl⟩) (by omega) fun e => by rw [Int.one_mul]
theorem circ_r {row : List Int} (k : Circ E2 row) : Circ (E1 ++ E2.map (Sh s)) (row.map fun r => (E1.length : Int) + r) := by
  have e : es (E1 ++ E2.map (Sh s)) (row.map fun r => (E1.length : Int) + r) = (es E2 row).map (Sh s) := by
    unfold es
    rw [List.map_map, List.map_map]
    refine List.map_congr_left fun r hr => ?_
    have h := k.rg r hr
    have h1 : r.toNat < E2.length := by omega
    show ed (E1 ++ E2.map (Sh s)) ((E1.length : Int) + r) = Sh s (ed E2 r)
    unfold ed
    rw [List.getElem?_append_right (by omega), show ((E1.length : Int) + r).toNat - E1.length = r.toNat by omega, List.getElem?_map, List.getElem?_eq_getElem h1]
    rfl
  refine ⟨fun z => k.ne (by simpa using z), fun r hr => ?_, ?_, ?_⟩
  · obtain ⟨x, hx, rfl⟩ := List.mem_map.mp hr
    have := k.rg x hx
    rw [List.length_append, List.length_map]
    omega
  · obtain ⟨i, hc⟩ := k.ch
    rw [e]
    exact ⟨i + s, ch_map (σ := fun x => x + s) (fun e he => ⟨List.mem_append_right _ (List.mem_map_of_mem he), rfl, rfl⟩) hc⟩
  · rw [e, wt_map (c := 1) (fun e => by rw [Int.one_mul]; rfl), Int.one_mul]
    exact k.wt
end
def rowM (M : Mat) (i : Int) : List (Option Int) := (M[i.toNat]?).getD []
section
variable {N : Nat} {M : Mat}
theorem Sq.rw' (S : Sq N M) {i : Int} (hi : inN N i) : atI M i = some (rowM M i) ∧ (rowM M i).length = N ∧ ∀ j, inN N j → (rowM M i)[j.toNat]? = some (Dm M i j) := by
  have h1 : i.toNat < M.length := by rw [S.len]; have := hi.2; omega
  have er : rowM M i = M[i.toNat] := by unfold rowM; rw [List.getElem?_eq_getElem h1]; rfl
  refine ⟨?_, by rw [er]; exact S.row _ (List.getElem_mem h1), fun j hj => ?_⟩
  · rw [atI_in hi.1, er, List.getElem?_eq_getElem h1]
  · obtain ⟨row, g1, _, g3, g4⟩ := S.get hi hj
    rw [atI_in hj.1] at g4
    rw [List.getElem?_eq_getElem h1] at g3
    rw [er, Option.some.inj g3]
    exact g4
theorem cutA {α : Type} (l : List α) {n : Nat} (h : n ≤ l.length) : cut l none (some (n : Int)) = l.take n := by
  unfold cut
  have e1 : HT.sIx l.length 0 none = 0 := rfl
  have e2 : HT.sIx l.length l.length (some (n : Int)) = n := by
    show (if (n : Int) < 0 then ((n : Int) + (l.length : Int)).toNat else min (n : Int).toNat l.length) = _
    rw [if_neg (by omega), Int.toNat_natCast]
    omega
  rw [e1, e2, List.drop_zero, Nat.sub_zero]
theorem cutB {α : Type} (l : List α) {n : Nat} (h : n ≤ l.length) : cut l (some (n : Int)) none = l.drop n := by
  unfold cut
  have e1 : HT.sIx l.length 0 (some (n : Int)) = n := by
    show (if (n : Int) < 0 then ((n : Int) + (l.length : Int)).toNat else min (n : Int).toNat l.length) = _
    rw [if_neg (by omega), Int.toNat_natCast]
    omega
  have e2 : HT.sIx l.length l.length none = l.length := rfl
  rw [e1, e2, List.take_of_length_le (by simp)]
end
end K43

/-! P10: joined_right. -/
namespace K43
open PySem L2 Nz Hh
section
variable {N : Nat} {E : List Edge}
theorem fits_b (h : OkNet N E) {b : Bool} (hb : b = true ↔ ¬ Neg N E) : (m_fits ((N : Int), E)).wp fun z => z = b := fits_of h fun z hz => by
  cases b with
  | true => exact hz.mpr (hb.mp rfl)
  | false =>
    cases z with
    | false => rfl
    | true => exact absurd (hb.mpr (hz.mp rfl)) Bool.false_ne_true
theorem ex_b (p : Prop) : ∃ b : Bool, b = true ↔ p := by
  by_cases h : p
  · exact ⟨true, fun _ => h, fun _ => rfl⟩
  · exact ⟨false, fun z => (by cases z), fun z => (h z).elim⟩
variable {N1 N2 : Nat} {E1 E2 : List Edge}
set_option maxHeartbeats 1000000 in
theorem joined_of (d1 : Drawn N1 E1) (d2 : Drawn N2 E2) : (m_law_joined_right (((N1 : Int), E1), ((N2 : Int), E2))).wp fun b => b = true := by
  have h1 := d1.hi
  have l1 := d1.lo
  have h2 := d2.hi
  have l2 := d2.lo
  have le1 := d1.len
  have le2 := d2.len
  unfold m_law_joined_right
  refine Pg.out_of ?_
  simp only [Pg.pure_bnd]
  obtain ⟨s, hs⟩ : ∃ s, s = (N1 : Int) - 1 := ⟨_, rfl⟩
  rw [← hs]
  refine Pg.bnd_of (Pg.comp_of (fun _ => true) (Sh s) _ (fun _ _ => rfl) fun _ _ _ => rfl) ?_
  rintro l rfl
  rw [filt_true]
  have le3 : (E1 ++ E2.map (Sh s)).length ≤ 14 := by rw [List.length_append, List.length_map]; omega
  refine Pg.ask_of (show (E1 ++ E2.map (Sh s)).length ≤ 100000 by omega) ?_
  obtain ⟨N, hN⟩ := Int.eq_ofNat_of_zero_le (show 0 ≤ s + (N2 : Int) by omega)
  rw [hN]
  have hN' : (N : Int) = s + (N2 : Int) := hN.symm
  have Jok : OkNet N (E1 ++ E2.map (Sh s)) := ⟨by omega, by omega, fun e he => by
    rcases List.mem_append.mp he with he | he
    · obtain ⟨⟨a1, a2⟩, b1, b2⟩ := d1.ok e he
      exact ⟨⟨a1, by omega⟩, b1, by omega⟩
    · obtain ⟨x, hx, rfl⟩ := List.mem_map.mp he
      obtain ⟨⟨a1, a2⟩, b1, b2⟩ := d2.ok x hx
      exact ⟨⟨show 0 ≤ x.1 + s by omega, show x.1 + s < _ by omega⟩, show 0 ≤ x.2.1 + s by omega, show x.2.1 + s < _ by omega⟩, fun e he => by
    rcases List.mem_append.mp he with he | he
    · exact d1.net.w e he
    · obtain ⟨x, hx, rfl⟩ := List.mem_map.mp he
      exact d2.net.w x hx⟩
  have nn := join_neg hs l1 l2 hN' d1.ok d2.ok
  obtain ⟨b1, hb1⟩ := ex_b (¬ Neg N1 E1)
  obtain ⟨b2, hb2⟩ := ex_b (¬ Neg N2 E2)
  have hb : (b1 && b2) = true ↔ ¬ Neg N (E1 ++ E2.map (Sh s)) := by rw [nn, Bool.and_eq_true, hb1, hb2]
  refine Pg.bnd_of (fits_b Jok hb) ?_
  rintro r rfl
  refine Pg.bnd_of (Pg.and_of (b1 := b1) (b2 := b2) (Pg.bnd_of (fits_b d1.net hb1) fun b h => h) fun _ => Pg.bnd_of (fits_b d2.net hb2) fun b h => h) ?_
  rintro z rfl
  rw [Pg.ifG_pure, if_neg (by rw [nd rfl]; exact Bool.false_ne_true)]
  refine Pg.bnd_of (fits_b Jok hb) ?_
  rintro r rfl
  rw [Pg.ifG_pure]
  cases hB : (b1 && b2) with
  | false =>
    have hneg : Neg N (E1 ++ E2.map (Sh s)) := Classical.byContradiction fun z => by
      have := hb.mpr z
      rw [hB] at this
      cases this
    rw [if_pos (show (!false) = true from rfl)]
    refine Pg.bnd_of (bad_circle_of Jok le3 (k := fun r => ∃ row, r = some row ∧ Circ (E1 ++ E2.map (Sh s)) row ∧ row.length ≤ 4) (fun z => (z hneg).elim) fun _ => ⟨?_, fun row c l => ⟨row, rfl, c, l⟩⟩) ?_
    · by_cases q1 : Neg N1 E1
      · obtain ⟨row, r1, r2, r3⟩ := neg_row d1.ok q1
        exact ⟨row, circ_l r1, r2, by omega, by omega⟩
      · have q2 : Neg N2 E2 := Classical.byContradiction fun z => nn.mpr ⟨q1, z⟩ hneg
        obtain ⟨row, r1, r2, r3⟩ := neg_row d2.ok q2
        refine ⟨_, circ_r r1, ?_, by rw [List.length_map]; omega, by rw [List.length_map]; omega⟩
        unfold List.Nodup
        rw [List.pairwise_map]
        exact r2.imp fun hne e => hne (by omega)
    rintro r ⟨row, rfl, cr, l4⟩
    refine Pg.opt_of rfl ?_
    exact Pg.bnd_of (takes_circle_of Jok cr (by omega) (k := fun b => b = true) rfl) fun b hb => decT hb
  | true =>
    have n := hb.mp hB
    obtain ⟨n1, n2⟩ := nn.mp n
    rw [if_neg (show ¬ (!true) = true from Bool.false_ne_true)]
    refine Pg.bnd_of (closed_net_of d1.net (k := CS N1 E1) fun M h => h) ?_
    intro M1 C1
    refine Pg.bnd_of (closed_net_of d2.net (k := CS N2 E2) fun M h => h) ?_
    intro M2 C2
    refine Pg.bnd_of (closed_net_of Jok (k := CS N _) fun M h => h) ?_
    intro M C
    have K1 := C1.cl n1
    have K2 := C2.cl n2
    have KJ := join_cl hs l1 l2 hN' d1.ok d2.ok n1 n2 K1 K2
    have eD : ∀ i j, Dm M i j = Dj s (Dm M1) (Dm M2) i j := fun i j => (C.cl n).same KJ i j
    have z1 : Dm M1 s s = some 0 := K1.dg n1 ⟨by omega, by omega⟩
    have z2 : Dm M2 0 0 = some 0 := K2.dg n2 ⟨by omega, by omega⟩
    have i1 : inN N1 s := ⟨by omega, by omega⟩
    have i2 : inN N2 0 := ⟨by omega, by omega⟩
    have up1 : ∀ {i}, inN N1 i → inN N i := fun h => ⟨h.1, by have := h.2; omega⟩
    have up2 : ∀ {i}, inN N2 i → inN N (s + i) := fun h => ⟨by have := h.1; omega, by have := h.2; omega⟩
    refine Pg.ask_of (show -100000 ≤ (N1 : Int) ∧ (N1 : Int) ≤ 100000 by omega) ?_
    refine Pg.bnd_of (p := fun c => c = Ctl.nx ()) (loop_ok (fun i hi' => ?_) rfl) ?_
    · have hi' := mem_rg.mp hi'
      obtain ⟨p1, p2, p3⟩ := C.sq.rw' (up1 hi')
      obtain ⟨q1, q2, q3⟩ := C1.sq.rw' hi'
      refine Pg.opt_of p1 (Pg.opt_of q1 ?_)
      rw [Pg.ifG_pure, if_neg (by
        rw [cutA (n := N1) _ (by rw [p2]; omega), nd]
        · exact Bool.false_ne_true
        refine List.ext_getElem? fun k => ?_
        by_cases hk : k < N1
        · have ik : inN N1 (k : Int) := ⟨by omega, by omega⟩
          rw [List.getElem?_take_of_lt hk]
          have a := p3 (k : Int) (up1 ik)
          have b := q3 (k : Int) ik
          rw [Int.toNat_natCast] at a b
          rw [a, b, eD, J4 (by have := hi'.2; omega) (by omega)]
        · rw [List.getElem?_eq_none (by rw [List.length_take, p2]; omega), List.getElem?_eq_none (by rw [q2]; omega)])]
      refine Pg.ask_of (show -100000 ≤ (N2 : Int) ∧ (N2 : Int) ≤ 100000 by omega) ?_
      refine Pg.bnd_of (p := fun c => c = Ctl.nx ()) (loop_ok (fun j hj => ?_) rfl) ?_
      · have hj := mem_rg.mp hj
        obtain ⟨a1, a2, _, a4⟩ := C.sq.get (up1 hi') (up2 hj)
        obtain ⟨b1, b2, _, b4⟩ := C1.sq.get hi' i1
        obtain ⟨c1, c2, _, c4⟩ := C2.sq.get i2 hj
        obtain ⟨e1, e2, _, e4⟩ := C.sq.get (up2 hj) (up1 hi')
        obtain ⟨f1, f2, _, f4⟩ := C2.sq.get hj i2
        obtain ⟨g1, g2, _, g4⟩ := C1.sq.get i1 hi'
        have his : i ≤ s := by have := hi'.2; omega
        refine Pg.bnd_of (Pg.or_of (b1 := false) (b2 := false) (Pg.opt_of a2 (Pg.opt_of a4.2 (Pg.opt_of b2 (Pg.opt_of b4.2 (Pg.opt_of c2 (Pg.opt_of c4.2 (Pg.bnd_of (law_sum_of (k := fun r => r = sumO (Dm M1 i s) (Dm M2 0 j)) rfl) fun r hr => nd (by rw [hr, eD, J1 z2 his hj.1])))))))) fun _ => Pg.opt_of e2 (Pg.opt_of e4.2 (Pg.opt_of f2 (Pg.opt_of f4.2 (Pg.opt_of g2 (Pg.opt_of g4.2 (Pg.bnd_of (law_sum_of (k := fun r => r = sumO (Dm M2 j 0) (Dm M1 s i)) rfl) fun r hr => nd (by rw [hr, eD, J2 z1 z2 hj.1 his])))))))) ?_
        rintro z rfl
        rw [Pg.ifG_pure, if_neg (by simp)]
        rfl
      · rintro c rfl
        rfl
    rintro _ rfl
    rw [seqG_nx]
    refine Pg.ask_of (show -100000 ≤ (N2 : Int) ∧ (N2 : Int) ≤ 100000 by omega) ?_
    refine Pg.bnd_of (Pg.comp_of (fun _ => true) (fun _ => true) _ (fun _ _ => rfl) fun y hy _ => ?_) ?_
    · have hy := mem_rg.mp hy
      obtain ⟨p1, p2, p3⟩ := C.sq.rw' (up2 hy)
      obtain ⟨q1, q2, q3⟩ := C2.sq.rw' hy
      refine Pg.opt_of p1 (Pg.opt_of q1 (decT ?_))
      have es : s = ((N1 - 1 : Nat) : Int) := by omega
      have ec : cut (rowM M (s + y)) (some s) none = (rowM M (s + y)).drop (N1 - 1) := by
        conv => lhs; rw [show (some s : Option Int) = some ((N1 - 1 : Nat) : Int) by rw [← es]]
        exact cutB _ (by rw [p2]; omega)
      rw [ec]
      refine List.ext_getElem? fun k => ?_
      rw [List.getElem?_drop]
      by_cases hk : k < N2
      · have ik : inN N2 (k : Int) := ⟨by omega, by omega⟩
        have a := p3 (s + (k : Int)) (up2 ik)
        have b := q3 (k : Int) ik
        rw [show (s + (k : Int)).toNat = N1 - 1 + k by omega] at a
        rw [Int.toNat_natCast] at b
        rw [a, b, eD, J3 z1 z2 hy.1 (by omega)]
      · rw [List.getElem?_eq_none (by rw [p2]; omega), List.getElem?_eq_none (by rw [q2]; omega)]
    rintro l rfl
    exact all_const _
end
end K43

/-! P11: ends that are not ours (plain). -/
namespace K43
open PySem L2 Nz Hh
abbrev Win := Int × Int × Int × Int
structure Wd (N m : Nat) (ks : List Int) (a : Int → Int) : Prop where
  m1 : 1 ≤ m
  mN : m ≤ N
  nd : ks.Nodup
  mem : ∀ p, p ∈ ks ↔ (m : Int) ≤ p ∧ p < (N : Int)
  st : ∀ p ∈ ks, 0 ≤ a p ∧ a p < (m : Int)
def sub (ks : List Int) (a lo hi : Int → Int) (e : Edge) : Edge :=
  if e.1 ∈ ks ∧ e.2.1 ∈ ks ∧ e.1 = e.2.1 then (0, 0, min e.2.2 0)
  else (if e.1 ∈ ks then a e.1 else e.1, if e.2.1 ∈ ks then a e.2.1 else e.2.1, (if e.1 ∈ ks then e.2.2 + lo e.1 else e.2.2) - (if e.2.1 ∈ ks then hi e.2.1 else 0))
section
variable {N m : Nat} {E : List Edge} {ks : List Int} {a lo hi d : Int → Int} {t t' : Int → Int}
theorem Wd.ns (D : Wd N m ks a) {p : Int} (h : p ∈ ks) : a p ∉ ks := fun z => by
  have := (D.mem _).mp z
  have := D.st p h
  omega
theorem Wd.rng (D : Wd N m ks a) {p : Int} (h : p ∈ ks) : inN N (a p) := by
  have h1 := D.st p h
  have := D.mN
  exact ⟨h1.1, by omega⟩
theorem sub_ok (D : Wd N m ks a) (ok : OkE N E) : OkE N (E.map (sub ks a lo hi)) := fun e he => by
  obtain ⟨x, hx, rfl⟩ := List.mem_map.mp he
  obtain ⟨h1, h2⟩ := ok x hx
  have := D.m1
  have := D.mN
  have z : inN N 0 := ⟨by omega, by omega⟩
  unfold sub
  split
  · exact ⟨z, z⟩
  · refine ⟨?_, ?_⟩
    · show inN N (if x.1 ∈ ks then a x.1 else x.1)
      split
      · rename_i h; exact D.rng h
      · exact h1
    · show inN N (if x.2.1 ∈ ks then a x.2.1 else x.2.1)
      split
      · rename_i h; exact D.rng h
      · exact h2
theorem keeps_out (ok : OkE N E) (h : Keeps (E.map (sub ks a lo hi)) t) (h1 : ∀ p, inN N p → p ∉ ks → t' p = t p) (h2 : ∀ p ∈ ks, t (a p) + lo p ≤ t' p ∧ t' p ≤ t (a p) + hi p) : Keeps E t' := fun e he => by
  have q := h _ (List.mem_map_of_mem he)
  obtain ⟨r1, r2⟩ := ok e he
  by_cases p1 : e.1 ∈ ks
  · by_cases p2 : e.2.1 ∈ ks
    · by_cases p3 : e.1 = e.2.1
      · unfold sub at q
        rw [if_pos ⟨p1, p2, p3⟩] at q
        have q : t 0 - t 0 ≤ min e.2.2 0 := q
        rw [p3]
        omega
      · unfold sub at q
        rw [if_neg fun z => p3 z.2.2, if_pos p1, if_pos p2, if_pos p1, if_pos p2] at q
        have q : t (a e.2.1) - t (a e.1) ≤ e.2.2 + lo e.1 - hi e.2.1 := q
        have := h2 _ p1
        have := h2 _ p2
        omega
    · unfold sub at q
      rw [if_neg fun z => p2 z.2.1, if_pos p1, if_neg p2, if_pos p1, if_neg p2] at q
      have q : t e.2.1 - t (a e.1) ≤ e.2.2 + lo e.1 - 0 := q
      have := h2 _ p1
      have := h1 _ r2 p2
      omega
  · by_cases p2 : e.2.1 ∈ ks
    · unfold sub at q
      rw [if_neg fun z => p1 z.1, if_neg p1, if_pos p2, if_neg p1, if_pos p2] at q
      have q : t (a e.2.1) - t e.1 ≤ e.2.2 - hi e.2.1 := q
      have := h2 _ p2
      have := h1 _ r1 p1
      omega
    · unfold sub at q
      rw [if_neg fun z => p1 z.1, if_neg p1, if_neg p2, if_neg p1, if_neg p2] at q
      have q : t e.2.1 - t e.1 ≤ e.2.2 - 0 := q
      have := h1 _ r1 p1
      have := h1 _ r2 p2
      omega
theorem keeps_in (h : Keeps E t) (h2 : ∀ p ∈ ks, t p = t (a p) + d p) : Keeps (E.map (sub ks a d d)) t := fun e' he' => by
  obtain ⟨e, he, rfl⟩ := List.mem_map.mp he'
  have q := h e he
  unfold sub
  by_cases p1 : e.1 ∈ ks
  · by_cases p2 : e.2.1 ∈ ks
    · by_cases p3 : e.1 = e.2.1
      · rw [if_pos ⟨p1, p2, p3⟩]
        show t 0 - t 0 ≤ min e.2.2 0
        rw [p3] at q
        omega
      · rw [if_neg fun z => p3 z.2.2, if_pos p1, if_pos p2, if_pos p1, if_pos p2]
        show t (a e.2.1) - t (a e.1) ≤ e.2.2 + d e.1 - d e.2.1
        have := h2 _ p1
        have := h2 _ p2
        omega
    · rw [if_neg fun z => p2 z.2.1, if_pos p1, if_neg p2, if_pos p1, if_neg p2]
      show t e.2.1 - t (a e.1) ≤ e.2.2 + d e.1 - 0
      have := h2 _ p1
      omega
  · by_cases p2 : e.2.1 ∈ ks
    · rw [if_neg fun z => p1 z.1, if_neg p1, if_pos p2, if_neg p1, if_pos p2]
      show t (a e.2.1) - t e.1 ≤ e.2.2 - d e.2.1
      have := h2 _ p2
      omega
    · rw [if_neg fun z => p1 z.1, if_neg p1, if_neg p2, if_neg p1, if_neg p2]
      show t e.2.1 - t e.1 ≤ e.2.2 - 0
      omega
theorem keeps_wide (h : Keeps (E.map (sub ks a d hi)) t) (hd : ∀ p ∈ ks, d p ≤ hi p) : Keeps (E.map (sub ks a d d)) t := fun e' he' => by
  obtain ⟨e, he, rfl⟩ := List.mem_map.mp he'
  have q := h _ (List.mem_map_of_mem he)
  unfold sub at q ⊢
  split
  · rename_i z
    rw [if_pos z] at q
    exact q
  · rename_i z
    rw [if_neg z] at q
    by_cases p2 : e.2.1 ∈ ks
    · have := hd _ p2
      simp only [if_pos p2] at q ⊢
      omega
    · simp only [if_neg p2] at q ⊢
      exact q
def moreE (ks : List Int) (a d : Int → Int) : List Edge := ks.flatMap fun p => [(a p, p, d p), (p, a p, 0 - d p)]
theorem keeps_more : Keeps (E ++ moreE ks a d) t ↔ Keeps E t ∧ ∀ p ∈ ks, t p = t (a p) + d p := by
  constructor
  · intro h
    refine ⟨fun e he => h e (List.mem_append_left _ he), fun p hp => ?_⟩
    have h1 := h (a p, p, d p) (List.mem_append_right _ (List.mem_flatMap.mpr ⟨p, hp, by simp⟩))
    have h2 := h (p, a p, 0 - d p) (List.mem_append_right _ (List.mem_flatMap.mpr ⟨p, hp, by simp⟩))
    have h1 : t p - t (a p) ≤ d p := h1
    have h2 : t (a p) - t p ≤ 0 - d p := h2
    omega
  · rintro ⟨h1, h2⟩ e he
    rcases List.mem_append.mp he with he | he
    · exact h1 e he
    · obtain ⟨p, hp, hm⟩ := List.mem_flatMap.mp he
      have q := h2 p hp
      rcases List.mem_cons.mp hm with rfl | hm
      · show t p - t (a p) ≤ d p
        omega
      · rw [List.mem_singleton.mp hm]
        show t (a p) - t p ≤ 0 - d p
        omega
def exd (ks : List Int) (a d t : Int → Int) (p : Int) : Int := if p ∈ ks then t (a p) + d p else t p
theorem keeps_exd (D : Wd N m ks a) (ok : OkE N E) (h : Keeps (E.map (sub ks a d d)) t) : Keeps (E ++ moreE ks a d) (exd ks a d t) := by
  have e1 : ∀ p, p ∉ ks → exd ks a d t p = t p := fun p hp => by unfold exd; rw [if_neg hp]
  have e2 : ∀ p ∈ ks, exd ks a d t p = t (a p) + d p := fun p hp => by unfold exd; rw [if_pos hp]
  refine keeps_more.mpr ⟨keeps_out ok h (fun p _ => e1 p) fun p hp => ?_, fun p hp => ?_⟩
  · rw [e2 p hp]
    omega
  · rw [e2 p hp, e1 _ (D.ns hp)]
theorem more_ok (D : Wd N m ks a) (ok : OkE N E) : OkE N (E ++ moreE ks a d) := fun e he => by
  rcases List.mem_append.mp he with he | he
  · exact ok e he
  · obtain ⟨p, hp, hm⟩ := List.mem_flatMap.mp he
    have hr := D.rng hp
    have hp' : inN N p := by
      have := (D.mem p).mp hp
      exact ⟨by omega, by omega⟩
    rcases List.mem_cons.mp hm with rfl | hm
    · exact ⟨hr, hp'⟩
    · rw [List.mem_singleton.mp hm]; exact ⟨hp', hr⟩
theorem exact_neg (D : Wd N m ks a) (ok : OkE N E) : ¬ Neg N (E.map (sub ks a d d)) ↔ ¬ Neg N (E ++ moreE ks a d) := by
  constructor
  · intro n
    obtain ⟨t, ht⟩ := (fit_iff (sub_ok D ok)).mp n
    exact (keeps_exd D ok ht.kp).fit
  · intro n
    obtain ⟨t, ht⟩ := (fit_iff (more_ok D ok)).mp n
    obtain ⟨h1, h2⟩ := keeps_more.mp ht.kp
    exact (keeps_in h1 h2).fit
theorem exact_et (D : Wd N m ks a) (ok : OkE N E) (hd : ∀ p ∈ ks, 0 ≤ d p) {ts tm : Int → Int} (es : Et N (E.map (sub ks a d d)) ts) (em : Et N (E ++ moreE ks a d) tm) {p : Int} (hp : inN N p) (hk : p ∉ ks) : ts p = tm p := by
  obtain ⟨h1, h2⟩ := keeps_more.mp em.kp
  have l1 := es.le (keeps_in h1 h2) em.nn p hp
  have l2 := em.le (keeps_exd D ok es.kp) (fun q hq => by
    unfold exd
    split
    · rename_i hq'
      have := es.nn _ (D.rng hq')
      have := hd _ hq'
      omega
    · exact es.nn q hq) p hp
  unfold exd at l2
  rw [if_neg hk] at l2
  omega
end
end K43

/-! P12: strong_times. -/
namespace K43
open PySem L2 Nz Hh
theorem forc_of2 {α β L S : Type} {f : α → S → Pg (Ctl β S S)} {k : Ctl β L S → Prop} {xs : List α} {s : S} (I : List α → S → Prop) (h0 : I [] s)
    (hb : ∀ pre x post s, xs = pre ++ x :: post → I pre s → (f x s).wp fun c => match c with | .nx s' => I (pre ++ [x]) s' | .ct s' => I (pre ++ [x]) s' | .rt b => k (.rt b) | _ => False) (hk : ∀ s, I xs s → k (.nx s)) : (Pg.forc xs s f).wp k := by
  have go : ∀ (post pre : List α) (s : S), xs = pre ++ post → I pre s → forC post s (fun x s => (f x s).wp) k := by
    intro post
    induction post with
    | nil =>
      intro pre s e h
      rw [List.append_nil] at e
      subst e
      exact hk s h
    | cons x post ih =>
      intro pre s e h
      refine (f x s).mono ?_ (hb pre x post s e h)
      intro c hc
      cases c with
      | nx s' => exact ih (pre ++ [x]) s' (by rw [e]; simp) hc
      | rt b => exact hc
      | bk s' => exact hc.elim
      | ct s' => exact ih (pre ++ [x]) s' (by rw [e]; simp) hc
  exact go xs [] s rfl h0
theorem comp_keys {ks : List Int} (nd : ks.Nodup) {α β : Type} [Inhabited β] (g : Int → α) {f : α → Pg β} {R : Int → β → Prop} (h : ∀ p ∈ ks, (f (g p)).wp (R p)) : (Pg.comp (ks.map g) (fun _ => pure true) f).wp fun l => ∃ F : Int → β, l = ks.map F ∧ ∀ p ∈ ks, R p (F p) := by
  induction ks with
  | nil => exact ⟨fun _ => default, rfl, by simp⟩
  | cons p ks ih =>
    rw [List.nodup_cons] at nd
    show Pg.wp (f (g p)) _
    refine (f (g p)).mono ?_ (h p List.mem_cons_self)
    intro y hy
    refine (Pg.comp (ks.map g) (fun _ => pure true) f).mono ?_ (ih nd.2 fun q hq => h q (List.mem_cons_of_mem _ hq))
    rintro l ⟨F, rfl, hF⟩
    refine ⟨fun q => if q = p then y else F q, ?_, fun q hq => ?_⟩
    · rw [List.map_cons, if_pos rfl]
      congr 1
      refine List.map_congr_left fun q hq => ?_
      rw [if_neg]
      rintro rfl
      exact nd.1 hq
    · rcases List.mem_cons.mp hq with rfl | hq2
      · show R _ (if _ then _ else _)
        rw [if_pos rfl]; exact hy
      · show R _ (if _ then _ else _)
        rw [if_neg]
        · exact hF q hq2
        · rintro rfl
          exact nd.1 hq2
def Wl (ks : List Int) (a lo hi : Int → Int) : List Win := ks.map fun p => (a p, p, lo p, hi p)
def en (ks : List Int) (a lo hi : Int → Int) : List (Int × (Int × Int × Int)) := ks.foldl (fun d p => dput d p (a p, lo p, hi p)) []
def mk (N : Nat) (ks : List Int) (t : Int → Int) : List (Option Int) := (rg (N : Int)).map fun p => if p ∈ ks then none else some (t p)
section
variable {N m : Nat} {E : List Edge} {ks : List Int} {a lo hi d : Int → Int} {t t' : Int → Int}
theorem en_get (p : Int) : dget (en ks a lo hi) p = if p ∈ ks then some (a p, lo p, hi p) else none := dget_puts (fun p => (a p, lo p, hi p)) ks [] p
theorem en_is (p : Int) : (dget (en ks a lo hi) p).isSome = decide (p ∈ ks) := by
  rw [en_get]
  by_cases h : p ∈ ks
  · rw [if_pos h, decT h]; rfl
  · rw [if_neg h, decide_eq_false h]; rfl
theorem en_len (nd : ks.Nodup) : (en ks a lo hi).length = ks.length := by
  have := keys_puts (fun p => (a p, lo p, hi p)) ks [] nd (by simp)
  have := congrArg List.length this
  simp only [List.length_map, List.length_append, List.map_nil, List.nil_append] at this
  exact this
theorem enumZ_rg {ts : List Int} (h : ts.length = N) : enumZ ts = (rg (N : Int)).map fun i => (i, tf ts i) := by
  refine List.ext_getElem? fun k => ?_
  unfold enumZ
  rw [List.getElem?_map, rg_nat, List.map_map, List.getElem?_map]
  by_cases hk : k < N
  · rw [List.getElem?_range hk, List.getElem?_eq_getElem (by simp; omega), List.getElem_zip, List.getElem_range]
    show some ((k : Int), ts[k]) = some ((k : Int), tf ts (k : Int))
    unfold tf
    rw [Int.toNat_natCast, List.getElem?_eq_getElem (by omega)]
    rfl
  · rw [List.getElem?_eq_none (by simp; omega), List.getElem?_eq_none (by simp; omega)]
    rfl
theorem mk_at {p : Int} (hp : inN N p) : atI (mk N ks t) p = some (if p ∈ ks then none else some (t p)) := by
  have : p.toNat < N := by have := hp.2; omega
  unfold mk
  rw [atI_in hp.1, rg_nat, List.map_map, List.getElem?_map, List.getElem?_range this]
  have e : ((p.toNat : Nat) : Int) = p := by have := hp.1; omega
  show some (if ((p.toNat : Nat) : Int) ∈ ks then none else some (t ((p.toNat : Nat) : Int))) = _
  rw [e]
theorem mk_ext (h : ∀ p, inN N p → p ∉ ks → t p = t' p) : mk N ks t = mk N ks t' := by
  unfold mk
  refine List.map_congr_left fun p hp => ?_
  by_cases q : p ∈ ks
  · rw [if_pos q, if_pos q]
  · rw [if_neg q, if_neg q, h p (mem_rg.mp hp) q]
set_option maxHeartbeats 1000000 in
theorem strong_of (h : OkNet N E) (le : E.length ≤ 14) (D : Wd N m ks a) (hb : ∀ p ∈ ks, 0 ≤ lo p ∧ lo p ≤ hi p ∧ hi p ≤ 99) {k : Option (List (Option Int)) → Prop} (qn : Neg N (E.map (sub ks a lo hi)) → k none) (qs : ¬ Neg N (E.map (sub ks a lo hi)) → ∀ ts : List Int, ts.length = N → Et N (E.map (sub ks a lo hi)) (tf ts) → k (some (mk N ks (tf ts)))) : (m_strong_times (((N : Int), E), Wl ks a lo hi)).wp k := by
  unfold m_strong_times
  refine Pg.out_of ?_
  refine check_net_of h ?_
  simp only [Pg.pure_bnd]
  refine Pg.bnd_of (p := fun d => d = en ks a lo hi) (Pg.cons (Pg.dict_of (fun _ => true) (fun y : Win => y.2.1) (fun y : Win => (y.1, y.2.2.1, y.2.2.2)) (fun _ _ => rfl) (fun _ _ _ => rfl) fun _ _ _ => rfl) ?_) ?_
  · rintro z rfl
    rw [filt_true]
    unfold Wl en
    rw [List.foldl_map]
  rintro z rfl
  have memW : ∀ {y : Win}, y ∈ Wl ks a lo hi → ∃ p ∈ ks, y = (a p, p, lo p, hi p) := fun hy => by
    obtain ⟨p, hp, e⟩ := List.mem_map.mp hy
    exact ⟨p, hp, e.symm⟩
  refine Pg.bnd_of (Pg.comp_of (fun _ => true) (fun _ => true) _ (fun _ _ => rfl) fun y hy _ => ?_) ?_
  · obtain ⟨p, hp, rfl⟩ := memW hy
    have hr := D.rng hp
    have hp' := (D.mem p).mp hp
    simp only [Pg.andG_pure, Pg.pure_bnd]
    show (!(dget (en ks a lo hi) (a p)).isSome && (decide (0 ≤ a p) && decide (a p < (N : Int)) && (decide (0 ≤ p) && decide (p < (N : Int))))) = true
    rw [en_is, decide_eq_false (D.ns hp), decT hr.1, decT hr.2, decT (by omega), decT hp'.2]
    rfl
  rintro l rfl
  rw [filt_true, all_const]
  have wl : (Wl ks a lo hi).length = ks.length := by unfold Wl; rw [List.length_map]
  rw [Pg.orG_pure, Pg.pure_bnd, Pg.ifG_pure, if_neg (by rw [en_len D.nd, wl, nd rfl]; exact Bool.false_ne_true)]
  refine Pg.bnd_of (Pg.comp_of (fun _ => true) (fun _ => false) _ (fun _ _ => rfl) fun y hy _ => ?_) ?_
  · obtain ⟨p, hp, rfl⟩ := memW hy
    obtain ⟨b1, b2, b3⟩ := hb p hp
    simp only [Pg.andG_pure, Pg.pure_bnd]
    show (!(decide (0 ≤ lo p) && (decide (lo p ≤ hi p) && decide (hi p ≤ 99)))) = false
    rw [decT b1, decT b2, decT b3]
    rfl
  rintro l rfl
  rw [filt_true, any_const, Pg.ifG_pure, if_neg Bool.false_ne_true]
  refine Pg.bnd_of (p := fun c => c = Ctl.nx (E.map (sub ks a lo hi))) ?_ ?_
  · refine forc_of2 (fun pre s => s = pre.map (sub ks a lo hi)) rfl (fun pre e post s hE I => ?_) (fun s I => by rw [I])
    have hE : E = pre ++ e :: post := hE
    have hl : s.length < 100000 := by
      rw [I, List.length_map]
      have := congrArg List.length hE
      rw [List.length_append, List.length_cons] at this
      omega
    have fin : ∀ x, x = sub ks a lo hi e → s ++ [x] = (pre ++ [e]).map (sub ks a lo hi) := fun x hx => by rw [List.map_append, I, hx]; rfl
    simp only [Pg.andG_pure, Pg.pure_bnd]
    rw [Pg.ifG_pure, en_is, en_is]
    by_cases q : e.1 ∈ ks ∧ e.2.1 ∈ ks ∧ e.1 = e.2.1
    · rw [if_pos (by rw [decT q.1, decT q.2.1, decT q.2.2]; rfl)]
      refine Pg.ask_of hl ?_
      refine fin _ ?_
      unfold sub
      rw [if_pos q]
    · rw [if_neg (by
        rw [Bool.and_eq_true, Bool.and_eq_true, decide_eq_true_eq, decide_eq_true_eq, decide_eq_true_eq]
        exact q)]
      rw [iteG_pure]
      by_cases q1 : e.1 ∈ ks
      · have g1 : dget (en ks a lo hi) e.1 = some (a e.1, lo e.1, hi e.1) := by rw [en_get, if_pos q1]
        rw [if_pos (decT q1)]
        refine Pg.bnd_of (p := fun c => c = Ctl.nx (a e.1, e.2.2 + lo e.1)) (Pg.opt_of g1 (Pg.opt_of g1 rfl)) ?_
        rintro _ rfl
        rw [seqG_nx, iteG_pure]
        by_cases q2 : e.2.1 ∈ ks
        · have g2 : dget (en ks a lo hi) e.2.1 = some (a e.2.1, lo e.2.1, hi e.2.1) := by rw [en_get, if_pos q2]
          rw [if_pos (decT q2)]
          refine Pg.bnd_of (p := fun c => c = Ctl.nx (a e.2.1, e.2.2 + lo e.1 - hi e.2.1)) (Pg.opt_of g2 (Pg.opt_of g2 rfl)) ?_
          rintro _ rfl
          rw [seqG_nx]
          refine Pg.ask_of hl (fin _ ?_)
          unfold sub
          rw [if_neg q, if_pos q1, if_pos q2, if_pos q1, if_pos q2]
        · rw [if_neg (by rw [decide_eq_true_eq]; exact q2), Pg.pure_bnd, seqG_nx]
          refine Pg.ask_of hl (fin _ ?_)
          unfold sub
          rw [if_neg q, if_pos q1, if_neg q2, if_pos q1, if_neg q2, Int.sub_zero]
      · rw [if_neg (by rw [decide_eq_true_eq]; exact q1), Pg.pure_bnd, seqG_nx, iteG_pure]
        by_cases q2 : e.2.1 ∈ ks
        · have g2 : dget (en ks a lo hi) e.2.1 = some (a e.2.1, lo e.2.1, hi e.2.1) := by rw [en_get, if_pos q2]
          rw [if_pos (decT q2)]
          refine Pg.bnd_of (p := fun c => c = Ctl.nx (a e.2.1, e.2.2 - hi e.2.1)) (Pg.opt_of g2 (Pg.opt_of g2 rfl)) ?_
          rintro _ rfl
          rw [seqG_nx]
          refine Pg.ask_of hl (fin _ ?_)
          unfold sub
          rw [if_neg q, if_neg q1, if_pos q2, if_neg q1, if_pos q2]
        · rw [if_neg (by rw [decide_eq_true_eq]; exact q2), Pg.pure_bnd, seqG_nx]
          refine Pg.ask_of hl (fin _ ?_)
          unfold sub
          rw [if_neg q, if_neg q1, if_neg q2, if_neg q1, if_neg q2, Int.sub_zero]
  rintro _ rfl
  rw [seqG_nx]
  refine Pg.bnd_of (earliest_of_of h.hi (sub_ok D h.ok) (k := fun r => (Neg N (E.map (sub ks a lo hi)) ∧ r = none) ∨ (¬ Neg N (E.map (sub ks a lo hi)) ∧ ∃ ts, ts.length = N ∧ Et N (E.map (sub ks a lo hi)) (tf ts) ∧ r = some ts)) (fun z => .inl ⟨z, rfl⟩) fun z ts a b => .inr ⟨z, ts, a, b, rfl⟩) ?_
  rintro r (⟨n, rfl⟩ | ⟨n, ts, tl, te, rfl⟩)
  · exact qn n
  · rw [show (some ts : Option (List Int)).isNone = false from rfl, Pg.ifG_pure, if_neg Bool.false_ne_true]
    refine Pg.bnd_of (p := fun c => c = some (mk N ks (tf ts))) (Pg.opt_of rfl (Pg.bnd_of (Pg.comp_of (fun _ => true) (fun y : Int × Int => if y.1 ∈ ks then none else some y.2) _ (fun _ _ => rfl) fun y hy _ => ?_) ?_)) ?_
    · rw [Pg.ifG_pure, en_is]
      by_cases q : y.1 ∈ ks
      · rw [if_pos (decT q)]
        show _ = _
        rw [if_pos q]
      · rw [if_neg (by rw [decide_eq_true_eq]; exact q)]
        show _ = _
        rw [if_neg q]
    · rintro l rfl
      rw [filt_true, enumZ_rg tl, List.map_map]
      rfl
    rintro _ rfl
    exact qs n ts tl te
end
end K43

/-! P13: ends_right; all of it. -/
namespace K43
open PySem L2 Nz Hh
theorem allGet_all {α : Type} {f : Option α → α} (hf : ∀ v, f (some v) = v) : ∀ {l : List (Option α)}, (∀ x ∈ l, ∃ v, x = some v) → Nz.allGet l = some (l.map f)
  | [], _ => rfl
  | x :: l, h => by
    obtain ⟨v, rfl⟩ := h x List.mem_cons_self
    have ih := allGet_all hf (l := l) fun y hy => h y (List.mem_cons_of_mem _ hy)
    show (Nz.allGet l).map (v :: ·) = _
    rw [ih, List.map_cons, hf]
    rfl
section
variable {N : Nat} {E : List Edge}
set_option maxHeartbeats 2000000 in
theorem ends_of (d : Drawn N E) : (m_law_ends_right ((N : Int), E)).wp fun b => b = true := by
  have hi := d.hi
  have hle := d.len
  unfold m_law_ends_right
  refine Pg.out_of ?_
  simp only [Pg.pure_bnd]
  have hN : -100000 ≤ (N : Int) ∧ (N : Int) ≤ 100000 := by omega
  rw [Pg.ifG_pure]
  by_cases h2 : (N : Int) < 2
  · rw [if_pos (decT h2)]
    rfl
  rw [if_neg (by rw [decide_eq_true_eq]; exact h2)]
  refine ⟨by omega, fun r hr0 hr1 => ?_⟩
  obtain ⟨c, hc⟩ := Int.eq_ofNat_of_zero_le (show 0 ≤ 1 + r by omega)
  change Pg.wp (_ >>= _) _
  rw [hc]
  obtain ⟨m, hm⟩ : ∃ m : Nat, m + c = N := ⟨N - c, by omega⟩
  refine Pg.ask_of (show -100000 ≤ (c : Int) ∧ (c : Int) ≤ 100000 by omega) ?_
  obtain ⟨ks, hks⟩ : ∃ ks : List Int, ks = (rg (c : Int)).map fun y => (N : Int) - 1 - y := ⟨_, rfl⟩
  have memk : ∀ p, p ∈ ks ↔ (m : Int) ≤ p ∧ p < (N : Int) := fun p => by
    rw [hks, List.mem_map]
    constructor
    · rintro ⟨y, hy, rfl⟩
      have := mem_rg.mp hy
      have h1 := this.1
      have h2 := this.2
      exact ⟨by omega, by omega⟩
    · rintro ⟨a, b⟩
      exact ⟨(N : Int) - 1 - p, mem_rg.mpr ⟨by omega, by omega⟩, by omega⟩
  have ndk : ks.Nodup := by
    rw [hks, rg_nat]
    unfold List.Nodup
    rw [List.map_map, List.pairwise_map]
    exact List.nodup_range.imp fun {a b} hne e => hne (by
      have e : (N : Int) - 1 - (a : Int) = (N : Int) - 1 - (b : Int) := e
      omega)
  have lenk : ks.length ≤ 3 := by rw [hks, List.length_map, rg_nat]; simp; omega
  have erg : rg (c : Int) = ks.map fun p => (N : Int) - 1 - p := by
    rw [hks, List.map_map]
    conv => lhs; rw [← List.map_id (rg (c : Int))]
    refine List.map_congr_left fun y _ => ?_
    show y = (N : Int) - 1 - ((N : Int) - 1 - y)
    omega
  rw [erg]
  refine Pg.bnd_of (p := fun l : List Edge => ∃ A D : Int → Int, l = ks.map (fun p => (A p, p, D p)) ∧ ∀ p ∈ ks, (0 ≤ A p ∧ A p < (m : Int)) ∧ 0 ≤ D p ∧ D p ≤ 8) (Pg.cons (comp_keys ndk (R := fun p (z : Edge) => z.2.1 = p ∧ (0 ≤ z.1 ∧ z.1 < (m : Int)) ∧ 0 ≤ z.2.2 ∧ z.2.2 ≤ 8) (fun p => (N : Int) - 1 - p) fun p hp => ?_) ?_) ?_
  · refine ⟨by omega, fun a a0 a1 => ?_⟩
    refine ⟨by omega, fun b b0 b1 => ?_⟩
    exact ⟨show (N : Int) - 1 - ((N : Int) - 1 - p) = p by omega, ⟨a0, show a < (m : Int) by omega⟩, b0, show b ≤ 8 by omega⟩
  · rintro l ⟨F, rfl, hF⟩
    refine ⟨fun p => (F p).1, fun p => (F p).2.2, List.map_congr_left fun p hp => ?_, fun p hp => (hF p hp).2⟩
    have := (hF p hp).1
    show F p = ((F p).1, p, (F p).2.2)
    conv => lhs; rw [show F p = ((F p).1, (F p).2.1, (F p).2.2) from rfl]
    rw [this]
  rintro _ ⟨A, D, rfl, hAD⟩
  have W : Wd N m ks A := ⟨by omega, by omega, ndk, memk, fun p hp => (hAD p hp).1⟩
  have hD0 : ∀ p ∈ ks, 0 ≤ D p := fun p hp => (hAD p hp).2.1
  refine Pg.bnd_of (p := fun l => l = Wl ks A D D) (Pg.cons (Pg.comp_of (fun _ => true) (fun y : Edge => (y.1, y.2.1, y.2.2, y.2.2)) _ (fun _ _ => rfl) fun _ _ _ => rfl) ?_) ?_
  · rintro l rfl
    rw [filt_true, List.map_map]
    rfl
  rintro _ rfl
  refine Pg.bnd_of (p := fun c => c = Ctl.nx (E ++ moreE ks A D)) ?_ ?_
  · refine Pg.forc_of (fun pre s => s = E ++ pre.flatMap fun y : Edge => [(y.1, y.2.1, y.2.2), (y.2.1, y.1, 0 - y.2.2)]) (by simp) (fun pre x post s e I => ?_) (fun s I => ?_)
    · have hl : s.length ≤ 7 + 2 * pre.length := by
        rw [I, List.length_append, List.length_flatMap]
        have : ∀ l : List Edge, (l.map fun y : Edge => ([(y.1, y.2.1, y.2.2), (y.2.1, y.1, 0 - y.2.2)] : List Edge).length).sum = 2 * l.length := fun l => by
          induction l with
          | nil => rfl
          | cons x l ih =>
            rw [List.map_cons, List.sum_cons, ih, List.length_cons (a := x)]
            show 2 + 2 * l.length = 2 * (l.length + 1)
            omega
        rw [this]
        omega
      have hp : pre.length < 3 := by
        have := congrArg List.length e
        rw [List.length_map, List.length_append, List.length_cons] at this
        omega
      refine Pg.ask_of (show 2 ≤ 100000 by omega) (Pg.ask_of ?_ ?_)
      · show (s ++ [_, _]).length ≤ 100000
        rw [List.length_append]
        show s.length + 2 ≤ 100000
        omega
      · show s ++ _ = _
        rw [I, List.flatMap_append, List.append_assoc]
        simp
    · rw [I, List.flatMap_map]
      rfl
  rintro _ rfl
  rw [seqG_nx]
  have Mok : OkNet N (E ++ moreE ks A D) := ⟨d.lo, by omega, more_ok W d.ok, fun e he => by
    rcases List.mem_append.mp he with he | he
    · exact d.net.w e he
    · obtain ⟨p, hp, hm⟩ := List.mem_flatMap.mp he
      obtain ⟨_, h1, h2⟩ := hAD p hp
      rcases List.mem_cons.mp hm with rfl | hm
      · show -99 ≤ D p ∧ D p ≤ 99
        omega
      · rw [List.mem_singleton.mp hm]
        show -99 ≤ 0 - D p ∧ 0 - D p ≤ 99
        omega⟩
  refine Pg.bnd_of (earliest_of' Mok (k := fun r => (Neg N (E ++ moreE ks A D) ∧ r = none) ∨ (¬ Neg N (E ++ moreE ks A D) ∧ ∃ tm, tm.length = N ∧ Et N (E ++ moreE ks A D) (tf tm) ∧ r = some tm)) (fun z => .inl ⟨z, rfl⟩) fun z ts a b => .inr ⟨z, ts, a, b, rfl⟩) ?_
  intro times ht
  refine Pg.bnd_of (p := fun l => l = ks) (Pg.cons (Pg.comp_of (fun _ => true) (fun y : Edge => y.2.1) _ (fun _ _ => rfl) fun _ _ _ => rfl) ?_) ?_
  · rintro l rfl
    rw [filt_true, List.map_map]
    exact List.map_id ks
  rintro z hz
  rw [hz]
  clear hz z
  refine Pg.bnd_of (p := fun due => (Neg N (E ++ moreE ks A D) ∧ due = none) ∨ (¬ Neg N (E ++ moreE ks A D) ∧ ∃ tm : List Int, Et N (E ++ moreE ks A D) (tf tm) ∧ due = some (mk N ks (tf tm)))) ?_ ?_
  · rcases ht with ⟨n, rfl⟩ | ⟨n, tm, ml, me, rfl⟩
    · exact .inl ⟨n, rfl⟩
    · rw [show (some tm : Option (List Int)).isNone = false from rfl, Pg.ifG_pure, if_neg Bool.false_ne_true]
      refine Pg.ask_of hN (Pg.bnd_of (Pg.comp_of (fun _ => true) (fun p => if p ∈ ks then none else some (tf tm p)) _ (fun _ _ => rfl) fun p hp _ => ?_) ?_)
      · rw [Pg.ifG_pure]
        by_cases q : p ∈ ks
        · rw [if_pos (decT q)]
          show _ = _
          rw [if_pos q]
        · rw [if_neg (by rw [decide_eq_true_eq]; exact q)]
          refine Pg.opt_of rfl (Pg.opt_of (tf_at ml (mem_rg.mp hp)) ?_)
          show _ = _
          rw [if_neg q]
      · rintro l rfl
        rw [filt_true]
        exact .inr ⟨n, tm, me, rfl⟩
  intro due hdue
  have nn : ¬ Neg N (E.map (sub ks A D D)) ↔ ¬ Neg N (E ++ moreE ks A D) := exact_neg W d.ok
  refine Pg.bnd_of (strong_of d.net (by omega) W (fun p hp => ⟨hD0 p hp, Int.le_refl _, by have := hAD p hp; omega⟩) (k := fun r => r = due) (fun z => ?_) fun z ts tl te => ?_) ?_
  · rcases hdue with ⟨n, rfl⟩ | ⟨n, tm, me, rfl⟩
    · rfl
    · exact (nn.mpr n z).elim
  · rcases hdue with ⟨n, rfl⟩ | ⟨n, tm, me, rfl⟩
    · exact (nn.mp z n).elim
    · rw [mk_ext fun p hp q => exact_et W d.ok hD0 te me hp q]
  rintro r rfl
  rw [Pg.ifG_pure, if_neg (by rw [nd rfl]; exact Bool.false_ne_true)]
  refine Pg.bnd_of (p := fun l => ∃ hi : Int → Int, l = Wl ks A D hi ∧ ∀ p ∈ ks, D p ≤ hi p ∧ hi p ≤ D p + 3) (Pg.cons (comp_keys ndk (R := fun p (z : Win) => (z.1 = A p ∧ z.2.1 = p ∧ z.2.2.1 = D p) ∧ D p ≤ z.2.2.2 ∧ z.2.2.2 ≤ D p + 3) (fun p => (A p, p, D p)) fun p hp => ?_) ?_) ?_
  · refine ⟨by omega, fun a a0 a1 => ?_⟩
    exact ⟨⟨rfl, rfl, rfl⟩, show D p ≤ D p + a by omega, show D p + a ≤ D p + 3 by omega⟩
  · rintro l ⟨F, rfl, hF⟩
    refine ⟨fun p => (F p).2.2.2, List.map_congr_left fun p hp => ?_, fun p hp => (hF p hp).2⟩
    obtain ⟨e1, e2, e3⟩ := (hF p hp).1
    show F p = (A p, p, D p, (F p).2.2.2)
    conv => lhs; rw [show F p = ((F p).1, (F p).2.1, (F p).2.2.1, (F p).2.2.2) from rfl]
    rw [e1, e2, e3]
  rintro _ ⟨hi', rfl, hhi⟩
  refine Pg.bnd_of (strong_of d.net (by omega) W (fun p hp => ⟨hD0 p hp, (hhi p hp).1, by have := hAD p hp; have := hhi p hp; omega⟩) (k := fun r => r = none ∨ ∃ tw, tw.length = N ∧ Et N (E.map (sub ks A D hi')) (tf tw) ∧ r = some (mk N ks (tf tw))) (fun z => .inl rfl) fun z ts tl te => .inr ⟨ts, tl, te, rfl⟩) ?_
  rintro told (rfl | ⟨tw, wl, we, rfl⟩)
  · rw [show (none : Option (List (Option Int))).isNone = true from rfl, Pg.ifG_pure, if_pos rfl]
    rfl
  rw [show (some (mk N ks (tf tw)) : Option (List (Option Int))).isNone = false from rfl, Pg.ifG_pure, if_neg Bool.false_ne_true]
  have kx : Keeps (E.map (sub ks A D D)) (tf tw) := keeps_wide we.kp fun p hp => (hhi p hp).1
  rcases hdue with ⟨n, rfl⟩ | ⟨n, tm, me, rfl⟩
  · exact (nn.mp kx.fit n).elim
  obtain ⟨t0, e0⟩ := (fit_iff (sub_ok W d.ok)).mp (nn.mpr n)
  have tle : ∀ p, inN N p → p ∉ ks → tf tm p ≤ tf tw p := fun p hp q => by
    rw [← exact_et W d.ok hD0 e0 me hp q]
    exact e0.le kx we.nn p hp
  refine Pg.bnd_of (p := fun z => z = false) ?_ ?_
  · refine Pg.or_of (b1 := false) (b2 := false) rfl fun _ => Pg.ask_of hN (Pg.bnd_of (Pg.comp_of (fun _ => true) (fun _ => false) _ (fun _ _ => rfl) fun y hy _ => ?_) ?_)
    · have hy := mem_rg.mp hy
      by_cases q : y ∈ ks
      · refine Pg.bnd_of (Pg.and_of (b1 := false) (b2 := false) (Pg.opt_of rfl (Pg.opt_of (mk_at hy) ?_)) fun z => by cases z) fun z hz => hz
        rw [if_pos q]
        rfl
      · refine Pg.bnd_of (Pg.and_of (b1 := true) (b2 := false) (Pg.opt_of rfl (Pg.opt_of (mk_at hy) ?_)) fun _ => Pg.opt_of rfl (Pg.opt_of (mk_at hy) (Pg.opt_of (if_neg q) (Pg.opt_of rfl (Pg.opt_of (mk_at hy) (Pg.opt_of (if_neg q) ?_)))))) fun z hz => hz
        · rw [if_neg q]
          rfl
        · have := tle y hy q
          exact decide_eq_false (by omega)
    · rintro l rfl
      exact any_const _
  rintro _ rfl
  rw [Pg.ifG_pure, if_neg Bool.false_ne_true]
  refine Pg.opt_of rfl ?_
  change Pg.wp (_ >>= _) _
  have memW : ∀ {y : Win}, y ∈ Wl ks A D hi' → ∃ p ∈ ks, y = (A p, p, D p, hi' p) := fun hy => by
    obtain ⟨p, hp, e⟩ := List.mem_map.mp hy
    exact ⟨p, hp, e.symm⟩
  refine Pg.bnd_of (p := fun c => ∃ s : List (Option Int), c = Ctl.nx s ∧ s.length = N ∧ (∀ q, inN N q → q ∉ ks → s[q.toNat]? = some (some (tf tw q))) ∧ ∀ q ∈ ks, ∃ x, s[q.toNat]? = some (some x) ∧ tf tw (A q) + D q ≤ x ∧ x ≤ tf tw (A q) + hi' q) ?_ ?_
  · refine Pg.forc_of (fun pre s => s.length = N ∧ (∀ q, inN N q → q ∉ ks → s[q.toNat]? = some (some (tf tw q))) ∧ ∀ q ∈ pre.map (fun y : Win => y.2.1), ∃ x, s[q.toNat]? = some (some x) ∧ tf tw (A q) + D q ≤ x ∧ x ≤ tf tw (A q) + hi' q) ⟨?_, fun q hq hk => ?_, by simp⟩ (fun pre x post s e I => ?_) (fun s I => ?_)
    · unfold mk; rw [List.length_map, rg_len]
    · have := mk_at (ks := ks) (t := tf tw) hq
      rw [atI_in hq.1, if_neg hk] at this
      exact this
    · obtain ⟨p, hp, rfl⟩ := memW (show x ∈ Wl ks A D hi' by rw [e]; simp)
      obtain ⟨I1, I2, I3⟩ := I
      have hr := W.rng hp
      obtain ⟨hp1, hp2⟩ := (memk p).mp hp
      have hb := hhi p hp
      refine Pg.opt_of (show atI s (A p) = some (some (tf tw (A p))) by rw [atI_in hr.1]; exact I2 _ hr (W.ns hp)) (Pg.opt_of rfl ?_)
      refine ⟨show 0 < hi' p - D p + 1 ∧ hi' p - D p + 1 < 1073741824 by omega, fun r0 r1 r2 => ?_⟩
      have r2 : r0 < hi' p - D p + 1 := r2
      refine Pg.opt_of (show ixN s.length p = some p.toNat from ixN_in (by omega) (by omega)) ?_
      have hpl : p.toNat < s.length := by omega
      refine ⟨by show (s.set _ _).length = N; rw [List.length_set]; exact I1, fun q hq hk => ?_, fun q hq => ?_⟩
      · show (s.set _ _)[q.toNat]? = _
        rw [List.getElem?_set_ne]
        · exact I2 q hq hk
        · intro z
          have h1 := hq.1
          have : p = q := by omega
          exact hk (this ▸ hp)
      · show ∃ x, (s.set _ _)[q.toNat]? = _ ∧ _
        by_cases z : q = p
        · subst z
          exact ⟨tf tw (A q) + D q + r0, by rw [List.getElem?_set_self hpl], by omega, by omega⟩
        · rw [List.map_append, List.mem_append] at hq
          rcases hq with hq | hq
          · obtain ⟨y, hy, ey⟩ := List.mem_map.mp hq
            obtain ⟨p', hp', rfl⟩ := memW (show y ∈ Wl ks A D hi' by rw [e]; exact List.mem_append_left _ hy)
            have ey : p' = q := ey
            subst ey
            have := (memk p').mp hp'
            rw [List.getElem?_set_ne (by omega)]
            exact I3 p' hq
          · exact (z (List.mem_singleton.mp hq)).elim
    · refine ⟨s, rfl, I.1, I.2.1, fun q hq => I.2.2 q (List.mem_map.mpr ⟨(A q, q, D q, hi' q), List.mem_map.mpr ⟨q, hq, rfl⟩, rfl⟩)⟩
  rintro _ ⟨s, rfl, s1, s2, s3⟩
  rw [seqG_nx]
  have all : ∀ x ∈ s, ∃ v, x = some v := fun x hx => by
    obtain ⟨i, hi0, e⟩ := List.mem_iff_getElem.mp hx
    have hin : inN N (i : Int) := ⟨by omega, by omega⟩
    have e1 : s[((i : Int)).toNat]? = some x := by rw [Int.toNat_natCast, List.getElem?_eq_getElem hi0, e]
    by_cases q : (i : Int) ∈ ks
    · obtain ⟨v, e2, _⟩ := s3 _ q
      rw [e1] at e2
      exact ⟨v, Option.some.inj e2⟩
    · have e2 := s2 _ hin q
      rw [e1] at e2
      exact ⟨_, Option.some.inj e2⟩
  refine Pg.opt_of (allGet_all (f := fun o : Option Int => o.getD 0) (fun _ => rfl) all) ?_
  have now : ∀ q x, s[q.toNat]? = some (some x) → tf (s.map fun o : Option Int => o.getD 0) q = x := fun q x e => by
    unfold tf
    rw [List.getElem?_map, e]
    rfl
  refine Pg.bnd_of (keeps_of d.net (by rw [List.length_map]; exact s1) (k := fun b => b = true) fun b hb => hb.mpr ?_) fun b hb => decT hb
  refine keeps_out d.ok we.kp (fun p hp q => now p _ (s2 p hp q)) fun p hp => ?_
  obtain ⟨x, e1, e2⟩ := s3 p hp
  rw [now p x e1]
  exact e2
theorem maths : m_law.wp fun b => b = true := by
  unfold m_law
  refine Pg.out_of ?_
  refine Pg.bnd_of (law_net_of (k := fun z => ∃ N E, Drawn N E ∧ z = ((N : Int), E)) fun N E h => ⟨N, E, h, rfl⟩) ?_
  rintro _ ⟨N, E, d, rfl⟩
  simp only [Pg.pure_bnd]
  refine Pg.bnd_of (Pg.or_of (b1 := false) (b2 := false) (Pg.bnd_of (turns_of d) fun b hb => by rw [hb]; rfl) fun _ => Pg.or_of (b1 := false) (b2 := false) (Pg.bnd_of (times_of d) fun b hb => by rw [hb]; rfl) fun _ => Pg.bnd_of (ends_of d) fun b hb => by rw [hb]; rfl) ?_
  rintro _ rfl
  rw [Pg.ifG_pure, if_neg (by simp)]
  refine Pg.bnd_of (law_net_of (k := fun z => ∃ N E, Drawn N E ∧ z = ((N : Int), E)) fun N E h => ⟨N, E, h, rfl⟩) ?_
  rintro _ ⟨N2, E2, d2, rfl⟩
  exact Pg.bnd_of (joined_of d d2) fun b hb => hb
end
end K43

open PySem PySem.W PyProof.Rows
set_option maxHeartbeats 0 in
theorem PySem.Challenge.cw_noshorterplan_k43_whole_nets_of_times_be_holds : PySem.Challenge.rw_noshorterplan_k43_whole_nets_of_times_be.Holds := by
  w_on; o_law; k_head; (case hw => w_witness2)
  k_fill
  refine LamX.walk_ofTs (l := PySem.Challenge.rw_noshorterplan_k43_whole_nets_of_times_be) (n := 63) (k := 6) (x := "script") (CX := fun _ => L2.CX0) rfl (by decide) rfl ⟨rfl, by decide, by decide⟩ (fun w h Y => PySem.W.kIn_of Y) ?F (fun _ _ _ _ _ h => h)
  case F =>
    intro w mg fa h Y KX G hmg
    refine' K43.all_mk KX G hmg K43.maths (K43.mk_check_net KX G ?a0 ?l0 ?c0 ?k0) (K43.mk_closed_of KX G ?a1 ?l1 ?c1 ?k1) (K43.mk_closed_net KX G ?a2 ?l2 ?c2 ?k2) (K43.mk_fits KX G ?a3 ?l3 ?c3 ?k3) (K43.mk_keeps KX G ?a4 ?l4 ?c4 ?k4) (K43.mk_bad_circle KX G ?a5 ?l5 ?c5 ?k5) (K43.mk_takes_circle KX G ?a6 ?l6 ?c6 ?k6) (K43.mk_earliest_of KX G ?a7 ?l7 ?c7 ?k7) (K43.mk_earliest KX G ?a8 ?l8 ?c8 ?k8) (K43.mk_range_of KX G ?a9 ?l9 ?c9 ?k9) (K43.mk_strong_times KX G ?a10 ?l10 ?c10 ?k10) (K43.mk__law_net KX G ?a11 ?l11 ?c11 ?k11) (K43.mk__law_sum KX G ?a12 ?l12 ?c12 ?k12) (K43.mk__law_least KX G ?a13 ?l13 ?c13 ?k13) (K43.mk__law_closed KX G ?a14 ?l14 ?c14 ?k14) (K43.mk__law_turns_right KX G ?a15 ?l15 ?c15 ?k15) (K43.mk__law_times_right KX G ?a16 ?l16 ?c16 ?k16) (K43.mk__law_ends_right KX G ?a17 ?l17 ?c17 ?k17) (K43.mk__law_joined_right KX G ?a18 ?l18 ?c18 ?k18) (K43.mk__law_take KX G ?a19 ?l19 ?c19 ?k19) (K43.mk__law_tape KX G ?a20 ?l20 ?c20 ?k20) (K43.md_mk KX G ?z0 ?z1 ?z2 ?z3 ?z4 ?z5 ?z6 ?z7 ?z8 ?z9 ?z10 ?z11 ?z12 ?z13 ?zc0) ?aL ?lL ?cL ?kL
    (case a0 => k_is)
    (case l0 => k_is)
    (case c0 => k_is)
    (case k0 => k_is)
    (case a1 => k_is)
    (case l1 => k_is)
    (case c1 => k_is)
    (case k1 => k_is)
    (case a2 => k_is)
    (case l2 => k_is)
    (case c2 => k_is)
    (case k2 => k_is)
    (case a3 => k_is)
    (case l3 => k_is)
    (case c3 => k_is)
    (case k3 => k_is)
    (case a4 => k_is)
    (case l4 => k_is)
    (case c4 => k_is)
    (case k4 => k_is)
    (case a5 => k_is)
    (case l5 => k_is)
    (case c5 => k_is)
    (case k5 => k_is)
    (case a6 => k_is)
    (case l6 => k_is)
    (case c6 => k_is)
    (case k6 => k_is)
    (case a7 => k_is)
    (case l7 => k_is)
    (case c7 => k_is)
    (case k7 => k_is)
    (case a8 => k_is)
    (case l8 => k_is)
    (case c8 => k_is)
    (case k8 => k_is)
    (case a9 => k_is)
    (case l9 => k_is)
    (case c9 => k_is)
    (case k9 => k_is)
    (case a10 => k_is)
    (case l10 => k_is)
    (case c10 => k_is)
    (case k10 => k_is)
    (case a11 => k_is)
    (case l11 => k_is)
    (case c11 => k_is)
    (case k11 => k_is)
    (case a12 => k_is)
    (case l12 => k_is)
    (case c12 => k_is)
    (case k12 => k_is)
    (case a13 => k_is)
    (case l13 => k_is)
    (case c13 => k_is)
    (case k13 => k_is)
    (case a14 => k_is)
    (case l14 => k_is)
    (case c14 => k_is)
    (case k14 => k_is)
    (case a15 => k_is)
    (case l15 => k_is)
    (case c15 => k_is)
    (case k15 => k_is)
    (case a16 => k_is)
    (case l16 => k_is)
    (case c16 => k_is)
    (case k16 => k_is)
    (case a17 => k_is)
    (case l17 => k_is)
    (case c17 => k_is)
    (case k17 => k_is)
    (case a18 => k_is)
    (case l18 => k_is)
    (case c18 => k_is)
    (case k18 => k_is)
    (case a19 => k_is)
    (case l19 => k_is)
    (case c19 => k_is)
    (case k19 => k_is)
    (case a20 => k_is)
    (case l20 => k_is)
    (case c20 => k_is)
    (case k20 => k_is)
    (case z0 => k_is)
    (case z1 => k_is)
    (case z2 => k_is)
    (case z3 => k_is)
    (case z4 => k_is)
    (case z5 => k_is)
    (case z6 => k_is)
    (case z7 => k_is)
    (case z8 => k_is)
    (case z9 => k_is)
    (case z10 => k_is)
    (case z11 => k_is)
    (case z12 => k_is)
    (case z13 => k_is)
    (case zc0 => k_is)
    (case aL => k_is)
    (case lL => k_is)
    (case cL => k_is)
    (case kL => k_is)
