import PyProof.Rows.All
import Wide.All
import OpenK.AllK
import Wide.FinOn
import HandS.Conv
import HandS.DeepEq
import HandS.DictComp
import HandS.DictEq
import HandS.EndTab
import HandS.ForMost
import HandS.Lambda
import HandS.More
import HandS.NestedK
import HandS.SetFor
import HandS.SetKeys
import HandS.SortInts
import HandS.Strs
import HandS.Style
import HandS.TupAny
import HandS.TupLen
import HandS.Walk
import HandS.Zip
import KE.GoesEnum
import KE.KLam
import KE.SortKeyHeap
import PyProof.EnumMake
import PySem.Challenge.RW_noshorterplan_k42_whole_picks_made_in_tw
set_option Elab.async false
set_option linter.all false
set_option maxRecDepth 100000
/-! Nz1: programs as monotone predicate transformers; heaps with what one owns; representations of data; slots. -/
namespace Nz
open PySem L2

/-! ### programs: what is wanted of the result -/
abbrev PT (α : Type) := (α → Prop) → Prop
structure Pg (α : Type) where
  wp : PT α
  mono : ∀ {k k' : α → Prop}, (∀ a, k a → k' a) → wp k → wp k'
namespace Pg
variable {α β S : Type}
def ret (a : α) : Pg α := ⟨fun k => k a, fun h => h a⟩
def bnd (c : Pg α) (f : α → Pg β) : Pg β := ⟨fun k => c.wp fun a => (f a).wp k, fun h q => c.mono (fun a => (f a).mono h) q⟩
instance : Monad Pg where
  pure := ret
  bind := bnd
def fail : Pg α := ⟨fun _ => False, fun _ h => h⟩
def ask (p : Prop) : Pg Unit := ⟨fun k => p ∧ k (), fun h q => ⟨q.1, h () q.2⟩⟩
/-- a drawn number -/
def take (n : Int) : Pg Int := ⟨fun k => (0 < n ∧ n < 1073741824) ∧ ∀ d, 0 ≤ d → d < n → k d, fun h q => ⟨q.1, fun d a b => h d (q.2 d a b)⟩⟩
def opt (o : Option α) : Pg α := ⟨fun k => ∃ a, o = some a ∧ k a, fun h ⟨a, e, q⟩ => ⟨a, e, h a q⟩⟩
@[simp] theorem wp_pure (a : α) (k : α → Prop) : (pure a : Pg α).wp k = k a := rfl
@[simp] theorem wp_bind (c : Pg α) (f : α → Pg β) (k : β → Prop) : (c >>= f).wp k = c.wp fun a => (f a).wp k := rfl
@[simp] theorem wp_ask (p : Prop) (k : Unit → Prop) : (ask p).wp k = (p ∧ k ()) := rfl
@[simp] theorem wp_take (n : Int) (k : Int → Prop) : (take n).wp k = ((0 < n ∧ n < 1073741824) ∧ ∀ d, 0 ≤ d → d < n → k d) := rfl
@[simp] theorem wp_opt (o : Option α) (k : α → Prop) : (opt o).wp k = ∃ a, o = some a ∧ k a := rfl
@[simp] theorem wp_fail (k : α → Prop) : (fail : Pg α).wp k = False := rfl
end Pg

/-- what a block comes to: it goes on, returns, breaks, continues -/
inductive Ctl (β L N : Type) where
  | nx (n : N) | rt (b : β) | bk (l : L) | ct (l : L)

/-! ### raw transformers of loops, and the programs of them -/
def mapT {α β : Type} : List α → (α → PT β) → PT (List β)
  | [], _, k => k []
  | x :: xs, f, k => f x fun y => mapT xs f fun ys => k (y :: ys)
/-- a comprehension: items, a test, an element -/
def compT {α β : Type} : List α → (α → PT Bool) → (α → PT β) → PT (List β)
  | [], _, _, k => k []
  | x :: xs, t, f, k => t x fun b => if b = true then f x fun y => compT xs t f fun ys => k (y :: ys) else compT xs t f k
/-- a loop over items with a state -/
def forT {α S : Type} : List α → S → (α → S → PT S) → PT S
  | [], s, _, k => k s
  | x :: xs, s, f, k => f x s fun s' => forT xs s' f k
/-- a loop that may be left -/
def forC {α β L S : Type} : List α → S → (α → S → PT (Ctl β S S)) → PT (Ctl β L S)
  | [], s, _, k => k (.nx s)
  | x :: xs, s, f, k => f x s fun c => match c with
    | .nx s' => forC xs s' f k
    | .ct s' => forC xs s' f k
    | .bk s' => k (.nx s')
    | .rt b => k (.rt b)
def whileN {β L S : Type} : Nat → S → (S → PT Bool) → (S → PT (Ctl β S S)) → PT (Ctl β L S)
  | 0, _, _, _, _ => False
  | n + 1, s, t, f, k => t s fun b => if b = true then f s fun c => match c with
    | .nx s' => whileN n s' t f k
    | .ct s' => whileN n s' t f k
    | .bk s' => k (.nx s')
    | .rt b => k (.rt b) else k (.nx s)
def whileT {β L S : Type} (s : S) (t : S → PT Bool) (f : S → PT (Ctl β S S)) : PT (Ctl β L S) := fun k => ∃ n, whileN n s t f k

section
variable {α β L S : Type}
theorem compT_mono {t : α → PT Bool} {f : α → PT β} (mt : ∀ x (k k' : Bool → Prop), (∀ a, k a → k' a) → t x k → t x k') (mf : ∀ x (k k' : β → Prop), (∀ a, k a → k' a) → f x k → f x k') :
    ∀ (xs : List α) (k k' : List β → Prop), (∀ a, k a → k' a) → compT xs t f k → compT xs t f k'
  | [], k, k', h, q => h [] q
  | x :: xs, k, k', h, q => by
    refine mt x _ _ (fun b hb => ?_) q
    cases b with
    | true =>
      simp only [if_true] at hb ⊢
      exact mf x _ _ (fun y hy => compT_mono mt mf xs _ _ (fun ys => h (y :: ys)) hy) hb
    | false =>
      simp only [Bool.false_eq_true, if_false] at hb ⊢
      exact compT_mono mt mf xs _ _ h hb
theorem mapT_mono {f : α → PT β} (mf : ∀ x (k k' : β → Prop), (∀ a, k a → k' a) → f x k → f x k') :
    ∀ (xs : List α) (k k' : List β → Prop), (∀ a, k a → k' a) → mapT xs f k → mapT xs f k'
  | [], k, k', h, q => h [] q
  | x :: xs, k, k', h, q => mf x _ _ (fun y hy => mapT_mono mf xs _ _ (fun ys => h (y :: ys)) hy) q
theorem forT_mono {f : α → S → PT S} (mf : ∀ x s (k k' : S → Prop), (∀ a, k a → k' a) → f x s k → f x s k') :
    ∀ (xs : List α) (s : S) (k k' : S → Prop), (∀ a, k a → k' a) → forT xs s f k → forT xs s f k'
  | [], s, k, k', h, q => h s q
  | x :: xs, s, k, k', h, q => mf x s _ _ (fun s' hs => forT_mono mf xs s' k k' h hs) q
theorem forC_mono {f : α → S → PT (Ctl β S S)} (mf : ∀ x s (k k' : Ctl β S S → Prop), (∀ a, k a → k' a) → f x s k → f x s k') :
    ∀ (xs : List α) (s : S) (k k' : Ctl β L S → Prop), (∀ a, k a → k' a) → forC xs s f k → forC xs s f k'
  | [], s, k, k', h, q => h _ q
  | x :: xs, s, k, k', h, q => mf x s _ _ (fun c hc => by
    cases c with
    | nx s' => exact forC_mono mf xs s' k k' h hc
    | ct s' => exact forC_mono mf xs s' k k' h hc
    | bk s' => exact h _ hc
    | rt b => exact h _ hc) q
theorem whileN_mono {t : S → PT Bool} {f : S → PT (Ctl β S S)} (mt : ∀ s (k k' : Bool → Prop), (∀ a, k a → k' a) → t s k → t s k') (mf : ∀ s (k k' : Ctl β S S → Prop), (∀ a, k a → k' a) → f s k → f s k') :
    ∀ (n : Nat) (s : S) (k k' : Ctl β L S → Prop), (∀ a, k a → k' a) → whileN n s t f k → whileN n s t f k'
  | 0, _, _, _, _, q => q
  | n + 1, s, k, k', h, q => by
    refine mt s _ _ (fun b hb => ?_) q
    cases b with
    | true =>
      simp only [if_true] at hb ⊢
      refine mf s _ _ (fun c hc => ?_) hb
      cases c with
      | nx s' => exact whileN_mono mt mf n s' k k' h hc
      | ct s' => exact whileN_mono mt mf n s' k k' h hc
      | bk s' => exact h _ hc
      | rt b => exact h _ hc
    | false =>
      simp only [Bool.false_eq_true, if_false] at hb ⊢
      exact h _ hb
end
namespace Pg
variable {α β L S : Type}
def mapM' (xs : List α) (f : α → Pg β) : Pg (List β) := ⟨mapT xs fun x => (f x).wp, fun h q => mapT_mono (fun x _ _ h' => (f x).mono h') xs _ _ h q⟩
def comp (xs : List α) (t : α → Pg Bool) (f : α → Pg β) : Pg (List β) := ⟨compT xs (fun x => (t x).wp) fun x => (f x).wp, fun h q => compT_mono (fun x _ _ h' => (t x).mono h') (fun x _ _ h' => (f x).mono h') xs _ _ h q⟩
def for' (xs : List α) (s : S) (f : α → S → Pg S) : Pg S := ⟨forT xs s fun x s => (f x s).wp, fun h q => forT_mono (fun x s _ _ h' => (f x s).mono h') xs s _ _ h q⟩
def forc (xs : List α) (s : S) (f : α → S → Pg (Ctl β S S)) : Pg (Ctl β L S) := ⟨forC xs s fun x s => (f x s).wp, fun h q => forC_mono (fun x s _ _ h' => (f x s).mono h') xs s _ _ h q⟩
def while' (s : S) (t : S → Pg Bool) (f : S → Pg (Ctl β S S)) : Pg (Ctl β L S) := ⟨whileT s (fun s => (t s).wp) fun s => (f s).wp, fun h ⟨n, q⟩ => ⟨n, whileN_mono (fun s _ _ h' => (t s).mono h') (fun s _ _ h' => (f s).mono h') n s _ _ h q⟩⟩
end Pg

/-! ### heaps -/
open Classical in
noncomputable def hid (H : Hp) (O : Addr → Prop) : Hp := fun a => if O a then none else H a
theorem hid_out {H : Hp} {O : Addr → Prop} {a : Addr} (h : ¬ O a) : hid H O a = H a := by unfold hid; rw [if_neg h]
theorem hid_in {H : Hp} {O : Addr → Prop} {a : Addr} (h : O a) : hid H O a = none := by unfold hid; rw [if_pos h]
theorem of_hid {H : Hp} {O : Addr → Prop} {a : Addr} {o : HO} (h : hid H O a = some o) : ¬ O a ∧ H a = some o := by
  by_cases c : O a
  · rw [hid_in c] at h; cases h
  · rw [hid_out c] at h; exact ⟨c, h⟩
theorem hid_no (H : Hp) : hid H (fun _ => False) = H := funext fun _ => hid_out fun h => h
def wD (O : Addr → Prop) (D : Addr) : Addr → Prop := fun a => O a ∨ a = D
theorem hid_wD {O : Addr → Prop} {H : Hp} {D : Addr} (n : H D = none) : hid H (wD O D) = hid H O := funext fun a => by
  by_cases c : O a
  · rw [hid_in c, hid_in (.inl c)]
  · by_cases e : a = D
    · subst e
      rw [hid_in (.inr rfl), hid_out c, n]
    · rw [hid_out c, hid_out fun z => z.elim c e]
theorem hid_put {O : Addr → Prop} {H : Hp} {D : Addr} {u : HO} : hid (upd H D u) (wD O D) = hid H (wD O D) := funext fun a => by
  by_cases c : wD O D a
  · rw [hid_in c, hid_in c]
  · rw [hid_out c, hid_out c, upd_ne fun e => c (.inr e)]
theorem hid_new {O : Addr → Prop} {H : Hp} {D : Addr} {u : HO} (n : H D = none) : hid (upd H D u) (wD O D) = hid H O := hid_put.trans (hid_wD n)
/-- the plain kinds: read through a lock -/
def Pl : HO → Prop
  | .lst _ => True
  | .dK _ => True
  | .dT _ => True
  | .set _ _ => True
  | _ => False
def Ex (H H' : Hp) : Prop := ∀ a o, H a = some o → H' a = some o
theorem Ex.refl (H : Hp) : Ex H H := fun _ _ h => h
theorem Ex.trans {H H1 H2 : Hp} (a : Ex H H1) (b : Ex H1 H2) : Ex H H2 := fun x o h => b x o (a x o h)
theorem Ex.hid {H H' : Hp} (e : Ex H H') (O : Addr → Prop) : Ex (hid H O) (hid H' O) := fun a o h => by
  obtain ⟨n, h⟩ := of_hid h
  rw [hid_out n]
  exact e a o h
theorem Ex.new {H : Hp} {p : Addr} {o : HO} (h : H p = none) : Ex H (upd H p o) := fun a u e => by
  rw [upd_ne (ne_of_none e h)]
  exact e
structure Ew (H H' : Hp) : Prop where
  rd : ∀ a u, Pl u → Rd H a u → Rd H' a u
  tp : ∀ a xs, H a = some (.tup xs) → H' a = some (.tup xs)
theorem Ew.refl (H : Hp) : Ew H H := ⟨fun _ _ _ h => h, fun _ _ h => h⟩
theorem Ew.trans {H H1 H2 : Hp} (a : Ew H H1) (b : Ew H1 H2) : Ew H H2 := ⟨fun x u p h => b.rd x u p (a.rd x u p h), fun x u h => b.tp x u (a.tp x u h)⟩
theorem Ex.ew {H H' : Hp} (e : Ex H H') : Ew H H' := ⟨fun a u _ h => h.elim (fun h => .inl (e a u h)) fun ⟨o, h⟩ => .inr ⟨o, e a _ h⟩, fun a xs h => e a _ h⟩
theorem rd_hid {H : Hp} {O : Addr → Prop} {a : Addr} {u : HO} : Rd (hid H O) a u ↔ ¬ O a ∧ Rd H a u := by
  constructor
  · rintro (h | ⟨o, h⟩)
    · exact ⟨(of_hid h).1, .inl (of_hid h).2⟩
    · exact ⟨(of_hid h).1, .inr ⟨o, (of_hid h).2⟩⟩
  · rintro ⟨n, h | ⟨o, h⟩⟩
    · exact .inl (by rw [hid_out n]; exact h)
    · exact .inr ⟨o, by rw [hid_out n]; exact h⟩
theorem Ew.hid {H H' : Hp} (e : Ew H H') (O : Addr → Prop) : Ew (hid H O) (hid H' O) :=
  ⟨fun a u p h => rd_hid.mpr ⟨(rd_hid.mp h).1, e.rd a u p (rd_hid.mp h).2⟩, fun a xs h => by
    obtain ⟨n, h⟩ := of_hid h
    rw [hid_out n]
    exact e.tp a xs h⟩
theorem ew_hid_le {H : Hp} {O O' : Addr → Prop} (h : ∀ a, O' a → O a) : Ew (hid H O) (hid H O') := ⟨fun a u p q => rd_hid.mpr ⟨fun z => (rd_hid.mp q).1 (h a z), (rd_hid.mp q).2⟩, fun a xs q => by
  obtain ⟨n, q⟩ := of_hid q
  rw [hid_out fun z => n (h a z)]
  exact q⟩
/-- .. what is locked is so still -/
structure Ef (H H' : Hp) : Prop where
  ew : Ew H H'
  fz : ∀ a o u, H a = some (.frz o u) → H' a = some (.frz o u)
  ex : ∀ a u, H a = some u → ∃ w, H' a = some w
theorem Ef.refl (H : Hp) : Ef H H := ⟨.refl H, fun _ _ _ h => h, fun _ u h => ⟨u, h⟩⟩
theorem Ef.trans {H H1 H2 : Hp} (a : Ef H H1) (b : Ef H1 H2) : Ef H H2 := ⟨a.ew.trans b.ew, fun x o u h => b.fz x o u (a.fz x o u h), fun x u h => let ⟨w, h1⟩ := a.ex x u h; b.ex x w h1⟩
theorem Ex.ef {H H' : Hp} (e : Ex H H') : Ef H H' := ⟨e.ew, fun a o u h => e a _ h, fun a u h => ⟨u, e a u h⟩⟩
theorem Ef.hid {H H' : Hp} (e : Ef H H') (O : Addr → Prop) : Ef (hid H O) (hid H' O) := ⟨e.ew.hid O, fun a o u h => by
  obtain ⟨n, h⟩ := of_hid h
  rw [hid_out n]
  exact e.fz a o u h, fun a u h => by
  obtain ⟨n, h⟩ := of_hid h
  rw [hid_out n]
  exact e.ex a u h⟩
theorem ef_hid_le {H : Hp} {O O' : Addr → Prop} (h : ∀ a, O' a → O a) : Ef (hid H O) (hid H O') := ⟨ew_hid_le h, fun a o u q => by
  obtain ⟨n, q⟩ := of_hid q
  rw [hid_out fun z => n (h a z)]
  exact q, fun a u q => by
  obtain ⟨n, q⟩ := of_hid q
  rw [hid_out fun z => n (h a z)]
  exact ⟨u, q⟩⟩
theorem Mut_no_tup {u : HO} (mu : Mut (some u)) : ∀ xs, u ≠ .tup xs := fun xs e => by subst e; exact mu
theorem Mut_no_frz {u : HO} (mu : Mut (some u)) : ∀ o w, u ≠ .frz o w := fun o w e => by subst e; exact mu
theorem Pl.mut {u : HO} (p : Pl u) : Mut (some u) := by
  cases u <;> first | exact True.intro | exact p.elim
/-- a thing is locked: still read -/
theorem Ew.lock {H : Hp} {d : Addr} {u : HO} (od : Obj) (h : H d = some u) (mu : Mut (some u)) : Ew H (upd H d (.frz od u)) := by
  refine ⟨fun a w p q => ?_, fun a xs q => ?_⟩
  · by_cases e : a = d
    · subst e
      rcases q with q | ⟨o, q⟩
      · rw [h] at q; cases q
        exact .inr ⟨od, upd_same⟩
      · rw [h] at q; cases q
        exact (Mut_no_frz mu o w rfl).elim
    · rcases q with q | ⟨o, q⟩
      · exact .inl (by rw [upd_ne e]; exact q)
      · exact .inr ⟨o, by rw [upd_ne e]; exact q⟩
  · have e : a ≠ d := fun e => by subst e; rw [h] at q; cases q; exact Mut_no_tup mu xs rfl
    rw [upd_ne e]; exact q
theorem Ef.lock {H : Hp} {d : Addr} {u : HO} (od : Obj) (h : H d = some u) (mu : Mut (some u)) : Ef H (upd H d (.frz od u)) := ⟨.lock od h mu, fun a o w q => by
  have e : a ≠ d := fun e => by subst e; rw [h] at q; cases q; exact Mut_no_frz mu o w rfl
  rw [upd_ne e]; exact q, fun a w q => by
  by_cases e : a = d
  · subst e; exact ⟨_, upd_same⟩
  · exact ⟨w, by rw [upd_ne e]; exact q⟩⟩
theorem Ew.unlock {H : Hp} {d : Addr} {od : Obj} {u : HO} (h : H d = some (.frz od u)) : Ew H (upd H d u) := by
  refine ⟨fun a w p q => ?_, fun a xs q => ?_⟩
  · by_cases e : a = d
    · subst e
      rcases q with q | ⟨o, q⟩
      · rw [h] at q; cases q; exact p.elim
      · rw [h] at q; cases q
        exact .inl upd_same
    · rcases q with q | ⟨o, q⟩
      · exact .inl (by rw [upd_ne e]; exact q)
      · exact .inr ⟨o, by rw [upd_ne e]; exact q⟩
  · have e : a ≠ d := fun e => by subst e; rw [h] at q; cases q
    rw [upd_ne e]; exact q

theorem pmap {α β : Type} {F G : α → β → Prop} : ∀ {l₁ : List α} {l₂ : List β}, Paired F l₁ l₂ → (∀ a b, F a b → G a b) → Paired G l₁ l₂
  | _, _, .nil, _ => .nil
  | _, _, .cons r t, f => .cons (f _ _ r) (pmap t f)
/-! ### representations -/
variable {K : PySem.W.Frag}
structure R (K : PySem.W.Frag) (α : Type) where
  rp : Hp → V → α → Prop
  mono : ∀ {H H' : Hp} {v : V} {a : α}, Ew H H' → rp H v a → rp H' v a
def TpX (K : PySem.W.Frag) (H : Hp) (p : Addr) (vs : List V) : Prop :=
  H p = some (.tup vs) ∨ ∃ (o : Obj) (its : Array Value) (n : Nat), K.lookup p = some o ∧ o.cls = .type "tuple" ∧ o.data = .seq its n ∧ its.size ≤ sizeLine ∧ Vals vs its.toList
theorem TpX.sq {H : Hp} {p : Addr} {vs : List V} (h : TpX K H p vs) : SqT K H p vs := h.elim (fun h => .inl (.inl h)) .inr
theorem TpX.mono {H H' : Hp} {p : Addr} {vs : List V} (e : Ew H H') (h : TpX K H p vs) : TpX K H' p vs := h.elim (fun h => .inl (e.tp p vs h)) .inr
theorem SqL.mono' {H H' : Hp} {p : Addr} {vs : List V} (e : Ew H H') (h : SqL K H p vs) : SqL K H' p vs := h.elim (fun h => .inl (e.rd p _ True.intro h)) .inr
theorem TpX.of_hid {H : Hp} {O : Addr → Prop} {p : Addr} {vs : List V} (h : TpX K (hid H O) p vs) : TpX K H p vs := h.elim (fun h => .inl (Nz.of_hid h).2) .inr
theorem rdL {H H' : Hp} {p : Addr} {vs : List V} (w : Ew H H') (h : Rd H p (.lst vs)) : Rd H' p (.lst vs) := w.rd p _ True.intro h
theorem SqL.of_hid' {H : Hp} {O : Addr → Prop} {p : Addr} {vs : List V} (h : SqL K (hid H O) p vs) : SqL K H p vs := h.elim (fun h => .inl (rd_hid.mp h).2) .inr
abbrev big : Nat := 100000
def rInt : R K Int := ⟨fun _ v i => v = .int i, fun _ h => h⟩
def rBl : R K Bool := ⟨fun _ v b => v = .bl b, fun _ h => h⟩
def rStr : R K Str := ⟨fun _ v x => v = .str x, fun _ h => h⟩
def rNon : R K Unit := ⟨fun _ v _ => v = .non, fun _ h => h⟩
def rOpt {α : Type} (r : R K α) : R K (Option α) := ⟨fun H v o => match o with
  | none => v = .non
  | some x => v ≠ .non ∧ r.rp H v x, fun {H H' v o} e h => by
    cases o with
    | none => exact h
    | some x => exact ⟨h.1, r.mono e h.2⟩⟩
def rTup {α : Type} (r : R K α) : R K (List α) := ⟨fun H v xs => ∃ p vs, v = .ref p ∧ TpX K H p vs ∧ Paired (r.rp H) vs xs ∧ vs.length ≤ big,
  fun e ⟨p, vs, a, b, c, d⟩ => ⟨p, vs, a, b.mono e, pmap c fun _ _ q => r.mono e q, d⟩⟩
def rLst {α : Type} (r : R K α) : R K (List α) := ⟨fun H v xs => ∃ p vs, v = .ref p ∧ Rd H p (.lst vs) ∧ Paired (r.rp H) vs xs ∧ vs.length ≤ big,
  fun e ⟨p, vs, a, b, c, d⟩ => ⟨p, vs, a, e.rd _ _ True.intro b, pmap c fun _ _ q => r.mono e q, d⟩⟩
structure RF (K : PySem.W.Frag) (α : Type) where
  rp : Hp → List V → α → Prop
  n : Nat
  mono : ∀ {H H' : Hp} {v : List V} {a : α}, Ew H H' → rp H v a → rp H' v a
  len : ∀ {H : Hp} {v : List V} {a : α}, rp H v a → v.length = n
def f1 {α : Type} (r : R K α) : RF K α := ⟨fun H vs a => ∃ v, vs = [v] ∧ r.rp H v a, 1, fun e ⟨v, a, b⟩ => ⟨v, a, r.mono e b⟩, fun ⟨_, e, _⟩ => by rw [e]; rfl⟩
def fc {α β : Type} (r : R K α) (f : RF K β) : RF K (α × β) := ⟨fun H vs a => ∃ v ws, vs = v :: ws ∧ r.rp H v a.1 ∧ f.rp H ws a.2, f.n + 1,
  fun e ⟨v, ws, a, b, c⟩ => ⟨v, ws, a, r.mono e b, f.mono e c⟩, fun ⟨_, _, e, _, h⟩ => by rw [e, List.length_cons, f.len h]⟩
def rPr {α : Type} (f : RF K α) : R K α := ⟨fun H v a => ∃ p vs, v = .ref p ∧ TpX K H p vs ∧ f.rp H vs a, fun e ⟨p, vs, a, b, c⟩ => ⟨p, vs, a, b.mono e, f.mono e c⟩⟩
/-- keys: ints, texts; and tuples of such -/
structure Ky (κ : Type) where
  enc : κ → Key
  inj : ∀ a b, enc a = enc b → a = b
structure Kt (κ : Type) where
  enc : κ → List Key
  inj : ∀ a b, enc a = enc b → a = b
def kyI : Ky Int := ⟨.inl, fun _ _ e => Sum.inl.inj e⟩
def kyS : Ky Str := ⟨.inr, fun _ _ e => Sum.inr.inj e⟩
def ktL {κ : Type} (e : Ky κ) : Kt (List κ) := ⟨fun xs => xs.map e.enc, fun a b h => by
  induction a generalizing b with
  | nil => cases b with
    | nil => rfl
    | cons _ _ => cases h
  | cons x a ih => cases b with
    | nil => cases h
    | cons y b =>
      simp only [List.map_cons, List.cons.injEq] at h
      rw [e.inj _ _ h.1, ih b h.2]⟩
def ktP {κ μ : Type} (e : Ky κ) (f : Ky μ) : Kt (κ × μ) := ⟨fun p => [e.enc p.1, f.enc p.2], fun a b h => by
  obtain ⟨a1, a2⟩ := a
  obtain ⟨b1, b2⟩ := b
  simp only [List.cons.injEq, and_true] at h
  rw [e.inj _ _ h.1, f.inj _ _ h.2]⟩
def DkRel {α κ : Type} (e : κ → Key) (r : R K α) (H : Hp) (kv : Key × V) (d : κ × α) : Prop := kv.1 = e d.1 ∧ r.rp H kv.2 d.2
def DtRel {α κ : Type} (e : κ → List Key) (r : R K α) (H : Hp) (kv : List Key × V) (d : κ × α) : Prop := kv.1 = e d.1 ∧ r.rp H kv.2 d.2
def rDk {α κ : Type} (e : Ky κ) (r : R K α) : R K (List (κ × α)) := ⟨fun H v d => ∃ p kvs, v = .ref p ∧ Rd H p (.dK kvs) ∧ Paired (DkRel e.enc r H) kvs d ∧ kvs.length ≤ big,
  fun w ⟨p, kvs, a, b, c, d⟩ => ⟨p, kvs, a, w.rd _ _ True.intro b, pmap c fun _ _ q => ⟨q.1, r.mono w q.2⟩, d⟩⟩
def rDt {α κ : Type} (e : Kt κ) (r : R K α) : R K (List (κ × α)) := ⟨fun H v d => ∃ p kvs, v = .ref p ∧ Rd H p (.dT kvs) ∧ Paired (DtRel e.enc r H) kvs d ∧ kvs.length ≤ big,
  fun w ⟨p, kvs, a, b, c, d⟩ => ⟨p, kvs, a, w.rd _ _ True.intro b, pmap c fun _ _ q => ⟨q.1, r.mono w q.2⟩, d⟩⟩

/-! ### dicts as lists of pairs -/
section
variable {κ α : Type} [DecidableEq κ]
def dget : List (κ × α) → κ → Option α
  | [], _ => none
  | p :: d, k => if p.1 = k then some p.2 else dget d k
def dput (d : List (κ × α)) (k : κ) (v : α) : List (κ × α) :=
  if (d.any fun p => decide (p.1 = k)) = true then d.map (fun p => if p.1 = k then (p.1, v) else p) else d ++ [(k, v)]
def dputs (d e : List (κ × α)) : List (κ × α) := e.foldl (fun d p => dput d p.1 p.2) d
end

theorem rd_eq {H H' : Hp} {p : Addr} {u : HO} (e : H' p = H p) (h : Rd H p u) : Rd H' p u := h.elim (fun h => .inl (by rw [e]; exact h)) fun ⟨o, h⟩ => .inr ⟨o, by rw [e]; exact h⟩
/-! ### slots -/
structure Sl (K : PySem.W.Frag) where
  p : Hp → Hp → Option V → Prop
  mono : ∀ {F F' H H' : Hp} {o : Option V}, Ew F F' → Ef H H' → p F H o → p F' H' o
  hp : Bool
  no : ∀ {F H H' : Hp} {o : Option V}, hp = false → p F H o → p F H' o
  yes : ∀ {F H H' : Hp} {o : Option V}, (∀ q, o = some (.ref q) → H' q = H q) → p F H o → p F H' o
def slAny : Sl K := ⟨fun _ _ _ => True, fun _ _ h => h, false, fun _ h => h, fun _ h => h⟩
def slV {α : Type} (r : R K α) (a : α) : Sl K := ⟨fun F _ o => ∃ v, o = some v ∧ r.rp F v a, fun e _ ⟨v, h, q⟩ => ⟨v, h, r.mono e q⟩, false, fun _ h => h, fun _ h => h⟩
/-- a list of one's own -/
def slL {α : Type} (r : R K α) (xs : List α) : Sl K := ⟨fun F H o => ∃ p vs, o = some (.ref p) ∧ Rd H p (.lst vs) ∧ Paired (r.rp F) vs xs ∧ vs.length ≤ big,
  fun e w ⟨p, vs, a, b, c, d⟩ => ⟨p, vs, a, w.ew.rd _ _ True.intro b, pmap c fun _ _ q => r.mono e q, d⟩, true, fun h => (nomatch h), fun e ⟨p, vs, a, b, c, d⟩ => ⟨p, vs, a, rd_eq (e p a) b, c, d⟩⟩
def slDk {α κ : Type} (e : Ky κ) (r : R K α) (d : List (κ × α)) : Sl K := ⟨fun F H o => ∃ p kvs, o = some (.ref p) ∧ Rd H p (.dK kvs) ∧ Paired (DkRel e.enc r F) kvs d ∧ kvs.length ≤ big,
  fun f w ⟨p, vs, a, b, c, d⟩ => ⟨p, vs, a, w.ew.rd _ _ True.intro b, pmap c fun _ _ q => ⟨q.1, r.mono f q.2⟩, d⟩, true, fun h => (nomatch h), fun e ⟨p, vs, a, b, c, d⟩ => ⟨p, vs, a, rd_eq (e p a) b, c, d⟩⟩
def slDt {α κ : Type} (e : Kt κ) (r : R K α) (d : List (κ × α)) : Sl K := ⟨fun F H o => ∃ p kvs, o = some (.ref p) ∧ Rd H p (.dT kvs) ∧ Paired (DtRel e.enc r F) kvs d ∧ kvs.length ≤ big,
  fun f w ⟨p, vs, a, b, c, d⟩ => ⟨p, vs, a, w.ew.rd _ _ True.intro b, pmap c fun _ _ q => ⟨q.1, r.mono f q.2⟩, d⟩, true, fun h => (nomatch h), fun e ⟨p, vs, a, b, c, d⟩ => ⟨p, vs, a, rd_eq (e p a) b, c, d⟩⟩
/-- a dict that is locked -/
def slDkF {α κ : Type} (e : Ky κ) (r : R K α) (d : List (κ × α)) : Sl K := ⟨fun F H o => ∃ p od kvs, o = some (.ref p) ∧ H p = some (.frz od (.dK kvs)) ∧ Paired (DkRel e.enc r F) kvs d ∧ kvs.length ≤ big,
  fun f w ⟨p, od, vs, a, b, c, d⟩ => ⟨p, od, vs, a, w.fz _ _ _ b, pmap c fun _ _ q => ⟨q.1, r.mono f q.2⟩, d⟩, true, fun h => (nomatch h), fun e ⟨p, od, vs, a, b, c, d⟩ => ⟨p, od, vs, a, by rw [e p a]; exact b, c, d⟩⟩
def slDtF {α κ : Type} (e : Kt κ) (r : R K α) (d : List (κ × α)) : Sl K := ⟨fun F H o => ∃ p od kvs, o = some (.ref p) ∧ H p = some (.frz od (.dT kvs)) ∧ Paired (DtRel e.enc r F) kvs d ∧ kvs.length ≤ big,
  fun f w ⟨p, od, vs, a, b, c, d⟩ => ⟨p, od, vs, a, w.fz _ _ _ b, pmap c fun _ _ q => ⟨q.1, r.mono f q.2⟩, d⟩, true, fun h => (nomatch h), fun e ⟨p, od, vs, a, b, c, d⟩ => ⟨p, od, vs, a, by rw [e p a]; exact b, c, d⟩⟩
def slAt (p : Addr) : Sl K := ⟨fun _ _ o => o = some (.ref p), fun _ _ h => h, false, fun _ h => h, fun _ h => h⟩

/-- no tuple -/
def NT (u : HO) : Prop := ∀ xs, u ≠ .tup xs
theorem Pl.nx {H : Hp} {p : Addr} {u : HO} (h : H p = some u) (pu : Pl u) : ∀ φ, H p ≠ some (.ext φ) := fun φ e => by rw [h] at e; cases e; exact pu
theorem frz_nx {H : Hp} {p : Addr} {o : Obj} {u : HO} (h : H p = some (.frz o u)) : ∀ φ, H p ≠ some (.ext φ) := fun φ e => by rw [h] at e; cases e
theorem Pl.nt {u : HO} (p : Pl u) : NT u := fun xs e => by subst e; exact p
/-! ### effects: what a def may change of its caller's (a tape), with what stays true of it -/
structure Eff where
  M : Addr → Prop
  I : Hp → Prop
  mono : ∀ {H H' : Hp}, (∀ a, M a → H' a = H a) → (∀ a φ, H a = some (.ext φ) → H' a = some (.ext φ)) → I H → I H'
  there : ∀ {H : Hp}, I H → ∀ a, M a → ∃ u, H a = some u ∧ NT u
def eff0 : Eff := ⟨fun _ => False, fun _ => True, fun _ _ _ => True.intro, fun _ _ h => h.elim⟩
def XX (E : Eff) (H H' : Hp) : Prop := Ex (hid H E.M) (hid H' E.M) ∧ E.I H'
theorem XX.trans {E : Eff} {H H1 H2 : Hp} (a : XX E H H1) (b : XX E H1 H2) : XX E H H2 := ⟨a.1.trans b.1, b.2⟩
structure SL (O : Addr → Prop) (E : Eff) (sls : List (Sl K)) (σ : L2.St) (H : Hp) : Prop where
  sl : Paired (fun o (sl : Sl K) => sl.p (hid H O) (hid H E.M) o) σ sls
  od : ∀ a, O a → ∃ u, H a = some u ∧ NT u
  mo : ∀ a, E.M a → O a
  inv : E.I H
section
variable {O : Addr → Prop} {E : Eff} {sls : List (Sl K)} {σ : L2.St} {H H' : Hp}
theorem hid_hid (H : Hp) {M O : Addr → Prop} (h : ∀ a, M a → O a) : hid (hid H M) O = hid H O := funext fun a => by
  by_cases c : O a
  · rw [hid_in c, hid_in c]
  · rw [hid_out c, hid_out c, hid_out fun z => c (h a z)]
theorem XX.ex (mo : ∀ a, E.M a → O a) (x : XX E H H') : Ex (hid H O) (hid H' O) := by
  have := x.1.hid O
  rwa [hid_hid H mo, hid_hid H' mo] at this
theorem SL.ext (S : SL O E sls σ H) (x : XX E H H') : SL O E sls σ H' := by
  refine ⟨pmap S.sl fun o sl h => sl.mono (x.ex S.mo).ew x.1.ef h, fun a ha => ?_, S.mo, x.2⟩
  by_cases c : E.M a
  · exact E.there x.2 a c
  · obtain ⟨u, hu, nt⟩ := S.od a ha
    have := x.1 a u (by rw [hid_out c]; exact hu)
    exact ⟨u, (of_hid this).2, nt⟩
theorem XX.refl (S : SL O E sls σ H) : XX E H H := ⟨Ex.refl _, S.inv⟩
theorem SL.rep {α : Type} {r : R K α} {v : V} {a : α} (S : SL O E sls σ H) (x : XX E H H') (h : r.rp (hid H O) v a) : r.rp (hid H' O) v a := r.mono (x.ex S.mo).ew h
/-- a new object -/
theorem SL.new {p : Addr} {u : HO} (S : SL O E sls σ H) (n : H p = none) : XX E H (upd H p u) ∧ ¬ O p := by
  have nO : ¬ O p := fun h => by
    obtain ⟨w, e, _⟩ := S.od p h
    rw [n] at e; cases e
  refine ⟨⟨(Ex.new n).hid _, E.mono (fun a ha => ?_) (fun a φ e => Ex.new n a _ e) S.inv⟩, nO⟩
  exact upd_ne fun e => nO (by subst e; exact S.mo _ ha)
theorem XX.of_ex (h : Ex H H') (i : E.I H) : XX E H H' := ⟨h.hid _, E.mono (fun a ha => by
  obtain ⟨u, e, _⟩ := E.there i a ha
  rw [e, h a u e]) (fun a φ e => h a _ e) i⟩
/-- a thing that was not there is changed -/
theorem ext_upd {H : Hp} {p : Addr} {u : HO} (hx : ∀ φ, H p ≠ some (.ext φ)) : ∀ a φ, H a = some (.ext φ) → upd H p u a = some (.ext φ) := fun a φ e => by
  rw [upd_ne fun z => hx φ (by rw [← z]; exact e)]
  exact e
theorem XX.put {p : Addr} {u : HO} (x : XX E H H') (n : H p = none) (m : ¬ E.M p) (hx : ∀ φ, H' p ≠ some (.ext φ)) : XX E H (upd H' p u) := ⟨fun a w e => by
  obtain ⟨na, e⟩ := of_hid e
  rw [hid_out na, upd_ne (ne_of_none e n)]
  have := x.1 a w (by rw [hid_out na]; exact e)
  exact (of_hid this).2, E.mono (fun a ha => upd_ne fun e => m (by subst e; exact ha)) (ext_upd hx) x.2⟩
theorem XX.back {p : Addr} (x : XX E H H') (n : H' p = none) : H p = none := by
  cases e : H p with
  | none => rfl
  | some u =>
    by_cases m : E.M p
    · obtain ⟨w, hw, _⟩ := E.there x.2 p m
      rw [n] at hw; cases hw
    · have := x.1 p u (by rw [hid_out m]; exact e)
      rw [(of_hid this).2] at n; cases n
theorem XX.keep {p : Addr} {u : HO} (x : XX E H H') (h : H p = some u) (m : ¬ E.M p) : H' p = some u := (of_hid (x.1 p u (by rw [hid_out m]; exact h))).2
theorem paired_at {α β : Type} {F : α → β → Prop} : ∀ {l₁ : List α} {l₂ : List β} {i : Nat} {b : β}, Paired F l₁ l₂ → l₂[i]? = some b → ∃ a, l₁[i]? = some a ∧ F a b
  | _, _, _, _, .nil, e => by simp at e
  | _, _, 0, _, .cons h _, e => by
    simp at e
    subst e
    exact ⟨_, rfl, h⟩
  | _, _, i + 1, b, .cons _ t, e => by
    obtain ⟨a, h1, h2⟩ := paired_at (i := i) t (by simpa using e)
    exact ⟨a, by simpa using h1, h2⟩
theorem SL.at {i : Nat} {sl : Sl K} (S : SL O E sls σ H) (h : sls[i]? = some sl) : ∃ o, σ[i]? = some o ∧ sl.p (hid H O) (hid H E.M) o := paired_at S.sl h
theorem SL.val {α : Type} {i : Nat} {r : R K α} {a : α} (S : SL O E sls σ H) (h : sls[i]? = some (slV r a)) : ∃ v, σ[i]? = some (some v) ∧ r.rp (hid H O) v a := by
  obtain ⟨o, e, v, rfl, q⟩ := S.at h
  exact ⟨v, e, q⟩
theorem paired_set {α β : Type} {F : α → β → Prop} {a : α} {b : β} (h : F a b) : ∀ {l₁ : List α} {l₂ : List β} (i : Nat), Paired F l₁ l₂ → Paired F (l₁.set i a) (l₂.set i b)
  | _, _, _, .nil => .nil
  | _, _, 0, .cons _ t => .cons h t
  | _, _, i + 1, .cons q t => .cons q (paired_set h i t)
theorem SL.set {i : Nat} {o : Option V} {sl : Sl K} (S : SL O E sls σ H) (h : sl.p (hid H O) (hid H E.M) o) : SL O E (sls.set i sl) (σ.set i o) H := ⟨paired_set (F := fun o (sl : Sl K) => sl.p (hid H O) (hid H E.M) o) h i S.sl, S.od, S.mo, S.inv⟩
/-- slots forgotten -/
def wipeS (sls : List (Sl K)) : List Nat → List (Sl K)
  | [] => sls
  | v :: vs => (wipeS sls vs).set v slAny
theorem SL.wipe (S : SL O E sls σ H) : ∀ vs, SL O E (wipeS sls vs) (wipe σ vs) H
  | [] => S
  | v :: vs => (S.wipe vs).set True.intro
end
theorem wipe_set {σ : L2.St} {j : Nat} {o : Option V} : ∀ {vs : List Nat}, j ∈ vs → wipe (σ.set j o) vs = wipe σ vs
  | [], h => by simp at h
  | v :: vs, h => by
    show (wipe (σ.set j o) vs).set v none = (wipe σ vs).set v none
    by_cases e : j = v
    · subst e
      by_cases m : j ∈ vs
      · rw [wipe_set m]
      · have : ∀ (us : List Nat) (τ : L2.St), j ∉ us → wipe (τ.set j o) us = (wipe τ us).set j o := by
          intro us
          induction us with
          | nil => intro _ _; rfl
          | cons u us ih =>
            intro τ hu
            simp only [List.mem_cons, not_or] at hu
            show (wipe (τ.set j o) us).set u none = ((wipe τ us).set u none).set j o
            rw [ih τ hu.2, List.set_comm _ _ (fun e => hu.1 e)]
        rw [this vs σ m, List.set_set]
    · have m : j ∈ vs := by
        rcases List.mem_cons.mp h with h | h
        · exact (e h).elim
        · exact h
      rw [wipe_set m]
theorem wipe_wipe (σ : L2.St) : ∀ (us vs : List Nat), (∀ v ∈ us, v ∈ vs) → wipe (wipe σ us) vs = wipe σ vs
  | [], _, _ => rfl
  | u :: us, vs, h => by
    show wipe ((wipe σ us).set u none) vs = wipe σ vs
    rw [wipe_set (h u List.mem_cons_self), wipe_wipe σ us vs fun v hv => h v (List.mem_cons_of_mem _ hv)]
end Nz

/-! Nz2: expressions. -/
namespace Nz
open PySem L2
variable {K : PySem.W.Frag} {O : Addr → Prop} {E : Eff} {sls : List (Sl K)}
section
variable {α β γ κ : Type}
variable (E sls)
def EV (te : TE) (r : R K α) (c : PT α) : Prop := ∀ O σ H, SL O E sls σ H → ∀ k : α → Prop, c k → ∀ Q : VK, (∀ a v H2, k a → XX E H H2 → r.rp (hid H2 O) v a → Q v H2) → te σ H Q
def ET (tt : TT) (c : PT Bool) : Prop := ∀ O σ H, SL O E sls σ H → ∀ k : Bool → Prop, c k → ∀ Q : Bool → Hp → Prop, (∀ b H2, k b → XX E H H2 → Q b H2) → tt σ H Q
def EA (ta : TA) (f : RF K α) (c : PT α) : Prop := ∀ O σ H, SL O E sls σ H → ∀ k : α → Prop, c k → ∀ Q : List V → Hp → Prop, (∀ a vs H2, k a → XX E H H2 → f.rp (hid H2 O) vs a → Q vs H2) → ta σ H Q
def EP' (to : TO) (c : PT (Option Int)) : Prop := ∀ O σ H, SL O E sls σ H → ∀ k : Option Int → Prop, c k → ∀ Q : Option Int → Hp → Prop, (∀ o H2, k o → XX E H H2 → Q o H2) → to σ H Q
/-- items of one kind as arguments -/
def EAs (ta : TA) (r : R K α) (c : PT (List α)) : Prop := ∀ O σ H, SL O E sls σ H → ∀ k : List α → Prop, c k → ∀ Q : List V → Hp → Prop, (∀ a vs H2, k a → XX E H H2 → Paired (r.rp (hid H2 O)) vs a → Q vs H2) → ta σ H Q
/-- a new list of one's own -/
def EL (te : TE) (r : R K α) (c : PT (List α)) : Prop := ∀ O σ H, SL O E sls σ H → ∀ k : List α → Prop, c k → ∀ Q : VK,
  (∀ xs p vs H2, k xs → XX E H H2 → H p = none → H2 p = some (.lst vs) → Paired (r.rp (hid H2 (wD O p))) vs xs → vs.length ≤ big → Q (.ref p) H2) → te σ H Q
/-- a new dict -/
def ED (te : TE) (e : Ky κ) (r : R K α) (c : PT (List (κ × α))) : Prop := ∀ O σ H, SL O E sls σ H → ∀ k : List (κ × α) → Prop, c k → ∀ Q : VK,
  (∀ xs p vs H2, k xs → XX E H H2 → H p = none → H2 p = some (.dK vs) → Paired (DkRel e.enc r (hid H2 (wD O p))) vs xs → vs.length ≤ big → Q (.ref p) H2) → te σ H Q
def EDt (te : TE) (e : Kt κ) (r : R K α) (c : PT (List (κ × α))) : Prop := ∀ O σ H, SL O E sls σ H → ∀ k : List (κ × α) → Prop, c k → ∀ Q : VK,
  (∀ xs p vs H2, k xs → XX E H H2 → H p = none → H2 p = some (.dT vs) → Paired (DtRel e.enc r (hid H2 (wD O p))) vs xs → vs.length ≤ big → Q (.ref p) H2) → te σ H Q
/-- a list, a tuple, a dict that is read -/
def ERl (te : TE) (r : R K α) (c : PT (List α)) : Prop := ∀ O σ H, SL O E sls σ H → ∀ k : List α → Prop, c k → ∀ Q : VK,
  (∀ xs p vs H2, k xs → XX E H H2 → Rd (hid H2 E.M) p (.lst vs) → Paired (r.rp (hid H2 O)) vs xs → vs.length ≤ big → Q (.ref p) H2) → te σ H Q
def ERt (te : TE) (r : R K α) (c : PT (List α)) : Prop := ∀ O σ H, SL O E sls σ H → ∀ k : List α → Prop, c k → ∀ Q : VK,
  (∀ xs p vs H2, k xs → XX E H H2 → TpX K (hid H2 E.M) p vs → Paired (r.rp (hid H2 O)) vs xs → vs.length ≤ big → Q (.ref p) H2) → te σ H Q
def ERs (te : TE) (r : R K α) (c : PT (List α)) : Prop := ∀ O σ H, SL O E sls σ H → ∀ k : List α → Prop, c k → ∀ Q : VK,
  (∀ xs p vs H2, k xs → XX E H H2 → (SqL K (hid H2 E.M) p vs ∨ SqT K (hid H2 E.M) p vs) → Paired (r.rp (hid H2 O)) vs xs → vs.length ≤ big → Q (.ref p) H2) → te σ H Q
def ERd (te : TE) (e : Ky κ) (r : R K α) (c : PT (List (κ × α))) : Prop := ∀ O σ H, SL O E sls σ H → ∀ k : List (κ × α) → Prop, c k → ∀ Q : VK,
  (∀ xs p vs H2, k xs → XX E H H2 → Rd (hid H2 E.M) p (.dK vs) → Paired (DkRel e.enc r (hid H2 O)) vs xs → vs.length ≤ big → Q (.ref p) H2) → te σ H Q
def ERdt (te : TE) (e : Kt κ) (r : R K α) (c : PT (List (κ × α))) : Prop := ∀ O σ H, SL O E sls σ H → ∀ k : List (κ × α) → Prop, c k → ∀ Q : VK,
  (∀ xs p vs H2, k xs → XX E H H2 → Rd (hid H2 E.M) p (.dT vs) → Paired (DtRel e.enc r (hid H2 O)) vs xs → vs.length ≤ big → Q (.ref p) H2) → te σ H Q
end
section
variable {α β γ κ : Type} {te ta tb tc : TE} {r : R K α} {s : R K β} {c : PT α} {d : PT β}

/-! ### weakening -/
theorem out_big {H : Hp} (mo : ∀ a, E.M a → O a) {p : Addr} {u : HO} (h : hid H O p = some u) : hid H E.M p = some u := by
  obtain ⟨n, h⟩ := of_hid h
  rw [hid_out fun z => n (mo p z)]
  exact h
theorem ew_MO {H : Hp} (mo : ∀ a, E.M a → O a) : Ew (hid H O) (hid H E.M) := ew_hid_le mo
theorem ev_cast {te' : TE} (h : EV E sls te r c) (e : te = te') : EV E sls te' r c := e ▸ h
theorem rl_ev {c : PT (List α)} (h : EV E sls te (rLst r) c) : ERl E sls te r c := fun O σ H S k hk Q q =>
  h _ σ H S k hk Q fun xs v H2 ka x ⟨p, vs, e, hs, hp, hl⟩ => by
    subst e
    exact q xs p vs H2 ka x (rdL (ew_MO S.mo) hs) hp hl
theorem rt_ev {c : PT (List α)} (h : EV E sls te (rTup r) c) : ERt E sls te r c := fun O σ H S k hk Q q =>
  h _ σ H S k hk Q fun xs v H2 ka x ⟨p, vs, e, hs, hp, hl⟩ => by
    subst e
    exact q xs p vs H2 ka x (hs.mono (ew_MO S.mo)) hp hl
theorem rs_l {c : PT (List α)} (h : ERl E sls te r c) : ERs E sls te r c := fun O σ H S k hk Q q =>
  h _ σ H S k hk Q fun xs p vs H2 ka x hs hp hl => q xs p vs H2 ka x (.inl (.inl hs)) hp hl
theorem rs_t {c : PT (List α)} (h : ERt E sls te r c) : ERs E sls te r c := fun O σ H S k hk Q q =>
  h _ σ H S k hk Q fun xs p vs H2 ka x hs hp hl => q xs p vs H2 ka x (.inr hs.sq) hp hl
theorem rd_ev {e : Ky κ} {c : PT (List (κ × α))} (h : EV E sls te (rDk e r) c) : ERd E sls te e r c := fun O σ H S k hk Q q =>
  h _ σ H S k hk Q fun xs v H2 ka x ⟨p, vs, e, hs, hp, hl⟩ => by
    subst e
    exact q xs p vs H2 ka x ((ew_MO S.mo).rd _ _ True.intro hs) hp hl
theorem rdt_ev {e : Kt κ} {c : PT (List (κ × α))} (h : EV E sls te (rDt e r) c) : ERdt E sls te e r c := fun O σ H S k hk Q q =>
  h _ σ H S k hk Q fun xs v H2 ka x ⟨p, vs, e, hs, hp, hl⟩ => by
    subst e
    exact q xs p vs H2 ka x ((ew_MO S.mo).rd _ _ True.intro hs) hp hl
theorem SL.nOn (S : SL O E sls σ H) {p : Addr} (n : H p = none) : ¬ O p := fun h => by
  obtain ⟨w, e, _⟩ := S.od p h
  rw [n] at e; cases e
theorem ev_l {c : PT (List α)} (h : EL E sls te r c) : EV E sls te (rLst r) c := fun O σ H S k hk Q q =>
  h _ σ H S k hk Q fun xs p vs H2 ka x n hp hr hl => q xs _ H2 ka x ⟨p, vs, rfl, .inl (by rw [hid_out (S.nOn n)]; exact hp), pmap hr fun _ _ z => r.mono (ew_hid_le fun a h => .inl h) z, hl⟩
theorem ev_d {e : Ky κ} {c : PT (List (κ × α))} (h : ED E sls te e r c) : EV E sls te (rDk e r) c := fun O σ H S k hk Q q =>
  h _ σ H S k hk Q fun xs p vs H2 ka x n hp hr hl => q xs _ H2 ka x ⟨p, vs, rfl, .inl (by rw [hid_out (S.nOn n)]; exact hp), pmap hr fun _ _ z => ⟨z.1, r.mono (ew_hid_le fun a h => .inl h) z.2⟩, hl⟩
theorem ev_dt {e : Kt κ} {c : PT (List (κ × α))} (h : EDt E sls te e r c) : EV E sls te (rDt e r) c := fun O σ H S k hk Q q =>
  h _ σ H S k hk Q fun xs p vs H2 ka x n hp hr hl => q xs _ H2 ka x ⟨p, vs, rfl, .inl (by rw [hid_out (S.nOn n)]; exact hp), pmap hr fun _ _ z => ⟨z.1, r.mono (ew_hid_le fun a h => .inl h) z.2⟩, hl⟩
/-- what hangs on no heap -/
def Flat (r : R K α) : Prop := ∀ {H H' : Hp} {v a}, r.rp H v a → r.rp H' v a
theorem flat_int : Flat (rInt (K := K)) := fun h => h
theorem flat_bl : Flat (rBl (K := K)) := fun h => h
theorem flat_str : Flat (rStr (K := K)) := fun h => h
theorem flat_opt {r : R K α} (f : Flat r) : Flat (rOpt r) := fun {H H' v a} h => by
  cases a with
  | none => exact h
  | some x => exact ⟨h.1, f h.2⟩

/-! ### names, constants -/
theorem ev_var {i : Nat} {a : α} (h : sls[i]? = some (slV r a)) : EV E sls (tVar i) r (fun k => k a) := fun O σ H S k hk Q q => by
  obtain ⟨v, e, hv⟩ := S.val h
  exact ⟨v, e, q a v H hk (XX.refl S) hv⟩
theorem rl_own {i : Nat} {xs : List α} (h : sls[i]? = some (slL r xs)) : ERl E sls (tVar i) r (fun k => k xs) := fun O σ H S k hk Q q => by
  obtain ⟨o, e, p, vs, eo, hs, hp, hl⟩ := S.at h
  subst eo
  exact ⟨_, e, q xs p vs H hk (XX.refl S) hs hp hl⟩
theorem rd_own {e : Ky κ} {i : Nat} {xs : List (κ × α)} (h : sls[i]? = some (slDk e r xs)) : ERd E sls (tVar i) e r (fun k => k xs) := fun O σ H S k hk Q q => by
  obtain ⟨o, e, p, vs, eo, hs, hp, hl⟩ := S.at h
  subst eo
  exact ⟨_, e, q xs p vs H hk (XX.refl S) hs hp hl⟩
theorem rdt_own {e : Kt κ} {i : Nat} {xs : List (κ × α)} (h : sls[i]? = some (slDt e r xs)) : ERdt E sls (tVar i) e r (fun k => k xs) := fun O σ H S k hk Q q => by
  obtain ⟨o, e, p, vs, eo, hs, hp, hl⟩ := S.at h
  subst eo
  exact ⟨_, e, q xs p vs H hk (XX.refl S) hs hp hl⟩
theorem rd_fz {e : Ky κ} {i : Nat} {xs : List (κ × α)} (h : sls[i]? = some (slDkF e r xs)) : ERd E sls (tVar i) e r (fun k => k xs) := fun O σ H S k hk Q q => by
  obtain ⟨o, e, p, od, vs, eo, hs, hp, hl⟩ := S.at h
  subst eo
  exact ⟨_, e, q xs p vs H hk (XX.refl S) (.inr ⟨od, hs⟩) hp hl⟩
theorem rdt_fz {e : Kt κ} {i : Nat} {xs : List (κ × α)} (h : sls[i]? = some (slDtF e r xs)) : ERdt E sls (tVar i) e r (fun k => k xs) := fun O σ H S k hk Q q => by
  obtain ⟨o, e, p, od, vs, eo, hs, hp, hl⟩ := S.at h
  subst eo
  exact ⟨_, e, q xs p vs H hk (XX.refl S) (.inr ⟨od, hs⟩) hp hl⟩
theorem ev_int {i : Int} : EV E sls (tC (.int i)) rInt (fun k => k i) := fun O σ H S k hk Q q => q i _ H hk (XX.refl S) rfl
theorem ev_bl {b : Bool} : EV E sls (tC (.bl b)) rBl (fun k => k b) := fun O σ H S k hk Q q => q b _ H hk (XX.refl S) rfl
theorem ev_str {b : Str} : EV E sls (tC (.str b)) rStr (fun k => k b) := fun O σ H S k hk Q q => q b _ H hk (XX.refl S) rfl
theorem ev_none : EV E sls (tC .non) (rOpt r) (fun k => k none) := fun O σ H S k hk Q q => q none _ H hk (XX.refl S) rfl
theorem ev_unit : EV E sls (tC .non) rNon (fun k => k ()) := fun O σ H S k hk Q q => q () _ H hk (XX.refl S) rfl
/-- a value into what may be None -/
theorem ev_some (nn : ∀ H v a, r.rp H v a → v ≠ .non) (h : EV E sls te r c) : EV E sls te (rOpt r) (fun k => c fun a => k (some a)) := fun O σ H S k hk Q q =>
  h _ σ H S _ hk Q fun a v H2 ka x hv => q (some a) v H2 ka x ⟨nn _ _ _ hv, hv⟩
theorem nn_int : ∀ (H : Hp) (v : V) (a : Int), (rInt (K := K)).rp H v a → v ≠ .non := fun H v a h e => by
  have : v = .int a := h
  rw [this] at e; cases e
theorem nn_ref {r : R K α} (h : ∀ H v a, r.rp H v a → ∃ p, v = .ref p) : ∀ (H : Hp) (v : V) (a : α), r.rp H v a → v ≠ .non := fun H v a q e => by
  obtain ⟨p, z⟩ := h H v a q
  rw [z] at e; cases e
theorem nn_tup : ∀ (H : Hp) (v : V) (a : List α), (rTup r).rp H v a → v ≠ .non := nn_ref fun _ _ _ ⟨p, _, e, _⟩ => ⟨p, e⟩
theorem nn_pr {f : RF K α} : ∀ (H : Hp) (v : V) (a : α), (rPr f).rp H v a → v ≠ .non := nn_ref fun _ _ _ ⟨p, _, e, _⟩ => ⟨p, e⟩
/-- what may be None, where it is known not to be -/
theorem ev_get {c : PT (Option α)} (h : EV E sls te (rOpt r) c) : EV E sls te r (fun k => c fun o => ∃ a, o = some a ∧ k a) := fun O σ H S k hk Q q =>
  h _ σ H S _ hk Q fun o v H2 ⟨a, e, ka⟩ x hv => by
    subst e
    exact q a v H2 ka x hv.2

/-! ### operators -/
theorem ev_bin {R' : Type} {f : V → V → Hp → VK → Prop} {t : R K γ} {g : α → β → PT γ} (ha : EV E sls ta r c) (hb : EV E sls tb s d)
    (hf : ∀ O σ H a b x y, SL O E sls σ H → r.rp (hid H O) x a → s.rp (hid H O) y b → ∀ k, g a b k → ∀ Q : VK, (∀ z v H2, k z → XX E H H2 → t.rp (hid H2 O) v z → Q v H2) → f x y H Q) :
    EV E sls (tOp f ta tb) t (fun k => c fun a => d fun b => g a b k) := fun O σ H S k hk Q q =>
  ha _ σ H S _ hk _ fun a x H1 ka x1 hx => hb _ σ H1 (S.ext x1) _ ka _ fun b y H2 kb x2 hy =>
    hf _ σ H2 a b x y ((S.ext x1).ext x2) ((S.ext x1).rep x2 hx) hy k kb Q fun z v H3 kz x3 hz => q z v H3 kz ((x1.trans x2).trans x3) hz
theorem ev_I0 {g : Int → Int → Int} {c d : PT Int} (ha : EV E sls ta rInt c) (hb : EV E sls tb rInt d) : EV E sls (tOp (rI0 fun i j => .int (g i j)) ta tb) rInt (fun k => c fun a => d fun b => k (g a b)) :=
  ev_bin (R' := Int) (g := fun a b k => k (g a b)) ha hb fun O σ H a b x y S hx hy k hk Q q => ⟨a, b, hx, hy, q _ _ H hk (XX.refl S) rfl⟩
theorem ev_B0 {g : Int → Int → Bool} {c d : PT Int} (ha : EV E sls ta rInt c) (hb : EV E sls tb rInt d) : EV E sls (tOp (rI0 fun i j => .bl (g i j)) ta tb) rBl (fun k => c fun a => d fun b => k (g a b)) :=
  ev_bin (R' := Int) (g := fun a b k => k (g a b)) ha hb fun O σ H a b x y S hx hy k hk Q q => ⟨a, b, hx, hy, q _ _ H hk (XX.refl S) rfl⟩
theorem ev_I {C : Int → Int → Prop} {g : Int → Int → Int} {c d : PT Int} (ha : EV E sls ta rInt c) (hb : EV E sls tb rInt d) : EV E sls (tOp (rI C fun i j => .int (g i j)) ta tb) rInt (fun k => c fun a => d fun b => C a b ∧ k (g a b)) :=
  ev_bin (R' := Int) (g := fun a b k => C a b ∧ k (g a b)) ha hb fun O σ H a b x y S hx hy k hk Q q => ⟨a, b, hx, hy, hk.1, q _ _ H hk.2 (XX.refl S) rfl⟩
theorem ev_neg {c : PT Int} (ha : EV E sls ta rInt c) : EV E sls (tUn (rU fun i => .int (-i)) ta) rInt (fun k => c fun a => k (-a)) := fun O σ H S k hk Q q =>
  ha _ σ H S _ hk _ fun a x H1 ka x1 hx => ⟨a, hx, q _ _ H1 ka x1 rfl⟩
theorem ev_eqI {c d : PT Int} (ha : EV E sls ta rInt c) (hb : EV E sls tb rInt d) : EV E sls (tOp rEq ta tb) rBl (fun k => c fun a => d fun b => k (decide (a = b))) :=
  ev_bin (R' := Int) (g := fun a b k => k (decide (a = b))) ha hb fun O σ H a b x y S hx hy k hk Q q => by
    have e1 : x = .int a := hx
    have e2 : y = .int b := hy
    subst e1 e2
    exact ⟨rfl, q _ _ H hk (XX.refl S) (show V.bl _ = V.bl _ by simp)⟩
theorem ev_neI {c d : PT Int} (ha : EV E sls ta rInt c) (hb : EV E sls tb rInt d) : EV E sls (tOp rNe ta tb) rBl (fun k => c fun a => d fun b => k (!decide (a = b))) :=
  ev_bin (R' := Int) (g := fun a b k => k (!decide (a = b))) ha hb fun O σ H a b x y S hx hy k hk Q q => by
    have e1 : x = .int a := hx
    have e2 : y = .int b := hy
    subst e1 e2
    exact ⟨rfl, q _ _ H hk (XX.refl S) (show V.bl _ = V.bl _ by simp)⟩
theorem ev_eqB {c d : PT Bool} (ha : EV E sls ta rBl c) (hb : EV E sls tb rBl d) : EV E sls (tOp rEq ta tb) rBl (fun k => c fun a => d fun b => k (decide (a = b))) :=
  ev_bin (R' := Int) (g := fun a b k => k (decide (a = b))) ha hb fun O σ H a b x y S hx hy k hk Q q => by
    have e1 : x = .bl a := hx
    have e2 : y = .bl b := hy
    subst e1 e2
    exact ⟨rfl, q _ _ H hk (XX.refl S) (show V.bl _ = V.bl _ by simp)⟩
theorem ev_neB {c d : PT Bool} (ha : EV E sls ta rBl c) (hb : EV E sls tb rBl d) : EV E sls (tOp rNe ta tb) rBl (fun k => c fun a => d fun b => k (!decide (a = b))) :=
  ev_bin (R' := Int) (g := fun a b k => k (!decide (a = b))) ha hb fun O σ H a b x y S hx hy k hk Q q => by
    have e1 : x = .bl a := hx
    have e2 : y = .bl b := hy
    subst e1 e2
    exact ⟨rfl, q _ _ H hk (XX.refl S) (show V.bl _ = V.bl _ by simp)⟩
theorem ev_isB {c d : PT Bool} (ha : EV E sls ta rBl c) (hb : EV E sls tb rBl d) : EV E sls (tOp rIsB ta tb) rBl (fun k => c fun a => d fun b => k (decide (a = b))) :=
  ev_bin (R' := Int) (g := fun a b k => k (decide (a = b))) ha hb fun O σ H a b x y S hx hy k hk Q q => ⟨a, b, hx, hy, q _ _ H hk (XX.refl S) rfl⟩
theorem ev_notB {c d : PT Bool} (ha : EV E sls ta rBl c) (hb : EV E sls tb rBl d) : EV E sls (tOp rNotB ta tb) rBl (fun k => c fun a => d fun b => k (!decide (a = b))) :=
  ev_bin (R' := Int) (g := fun a b k => k (!decide (a = b))) ha hb fun O σ H a b x y S hx hy k hk Q q => ⟨a, b, hx, hy, q _ _ H hk (XX.refl S) rfl⟩
theorem ev_isN {c : PT (Option α)} (ha : EV E sls ta (rOpt r) c) : EV E sls (tIsN ta) rBl (fun k => c fun o => k o.isNone) := fun O σ H S k hk Q q =>
  ha _ σ H S _ hk _ fun o x H1 ka x1 hx => q _ _ H1 ka x1 (show V.bl _ = V.bl _ by
    cases o with
    | none => have e : x = .non := hx; simp [e]
    | some a => simp [hx.1])
theorem ev_notN {c : PT (Option α)} (ha : EV E sls ta (rOpt r) c) : EV E sls (tNotN ta) rBl (fun k => c fun o => k o.isSome) := fun O σ H S k hk Q q =>
  ha _ σ H S _ hk _ fun o x H1 ka x1 hx => q _ _ H1 ka x1 (show V.bl _ = V.bl _ by
    cases o with
    | none => have e : x = .non := hx; simp [e]
    | some a => simp [hx.1])
/-- a < b < c, its middle asked once -/
theorem ev_chain {g g' : Int → Int → Bool} {c d e : PT Int} (ha : EV E sls ta rInt c) (hb : EV E sls tb rInt d) (hc : EV E sls tc rInt e) :
    EV E sls (tChain (rI0 fun i j => .bl (g i j)) (rI0 fun i j => .bl (g' i j)) ta tb tc) rBl (fun k => c fun a => d fun b => if g a b = true then e fun z => k (g' b z) else k false) := fun O σ H S k hk Q q =>
  ha _ σ H S _ hk _ fun a x H1 ka x1 hx => hb _ σ H1 (S.ext x1) _ ka _ fun b y H2 kb x2 hy => by
    refine ⟨a, b, hx, hy, g a b, rfl, ?_⟩
    cases h : g a b with
    | true =>
      rw [h] at kb
      refine hc _ σ H2 ((S.ext x1).ext x2) _ kb _ fun z w H3 kz x3 hz => ⟨b, z, hy, hz, q _ _ H3 kz ((x1.trans x2).trans x3) rfl⟩
    | false =>
      rw [h] at kb
      exact q _ _ H2 kb (x1.trans x2) rfl

/-! ### tests, and, or, not -/
theorem et_B {c : PT Bool} (h : EV E sls te rBl c) : ET E sls (tB te) c := fun O σ H S k hk Q q => h _ σ H S k hk _ fun b v H2 kb x hv => ⟨b, hv, q b H2 kb x⟩
theorem et_T {c : PT Bool} (h : EV E sls te rBl c) : ET E sls (tTest te) c := fun O σ H S k hk Q q => h _ σ H S k hk _ fun b v H2 kb x hv => ⟨b, hv, q b H2 kb x⟩
variable {tt uu : TT}
theorem et_and {c d : PT Bool} (h1 : ET E sls tt c) (h2 : ET E sls uu d) : ET E sls (tAnd tt uu) (fun k => c fun a => if a = true then d k else k false) := fun O σ H S k hk Q q =>
  h1 _ σ H S _ hk _ fun a H1 ka x1 => by
    cases a with
    | true =>
      rw [if_pos rfl] at ka ⊢
      exact h2 _ σ H1 (S.ext x1) k ka Q fun b H2 kb x2 => q b H2 kb (x1.trans x2)
    | false =>
      rw [if_neg Bool.false_ne_true] at ka ⊢
      exact q false H1 ka x1
theorem et_or {c d : PT Bool} (h1 : ET E sls tt c) (h2 : ET E sls uu d) : ET E sls (tOr tt uu) (fun k => c fun a => if a = true then k true else d k) := fun O σ H S k hk Q q =>
  h1 _ σ H S _ hk _ fun a H1 ka x1 => by
    cases a with
    | false =>
      rw [if_neg Bool.false_ne_true] at ka ⊢
      exact h2 _ σ H1 (S.ext x1) k ka Q fun b H2 kb x2 => q b H2 kb (x1.trans x2)
    | true =>
      rw [if_pos rfl] at ka ⊢
      exact q true H1 ka x1
theorem et_not {c : PT Bool} (h1 : ET E sls tt c) : ET E sls (tNot tt) (fun k => c fun a => k (!a)) := fun O σ H S k hk Q q =>
  h1 _ σ H S _ hk _ fun a H1 ka x1 => q (!a) H1 ka x1
theorem ev_and {c d : PT Bool} (h1 : EV E sls ta rBl c) (h2 : EV E sls tb rBl d) : EV E sls (tAndV ta tb) rBl (fun k => c fun a => if a = true then d k else k false) := fun O σ H S k hk Q q =>
  h1 _ σ H S _ hk _ fun a v H1 ka x1 hv => ⟨a, hv, by
    cases a with
    | true =>
      rw [if_pos rfl] at ka ⊢
      exact h2 _ σ H1 (S.ext x1) k ka Q fun b w H2 kb x2 hw => q b w H2 kb (x1.trans x2) hw
    | false =>
      rw [if_neg Bool.false_ne_true] at ka ⊢
      exact q false _ H1 ka x1 rfl⟩
theorem ev_or {c d : PT Bool} (h1 : EV E sls ta rBl c) (h2 : EV E sls tb rBl d) : EV E sls (tOrV ta tb) rBl (fun k => c fun a => if a = true then k true else d k) := fun O σ H S k hk Q q =>
  h1 _ σ H S _ hk _ fun a v H1 ka x1 hv => ⟨a, hv, by
    cases a with
    | false =>
      rw [if_neg Bool.false_ne_true] at ka ⊢
      exact h2 _ σ H1 (S.ext x1) k ka Q fun b w H2 kb x2 hw => q b w H2 kb (x1.trans x2) hw
    | true =>
      rw [if_pos rfl] at ka ⊢
      exact q true _ H1 ka x1 rfl⟩
theorem ev_not {c : PT Bool} (h1 : EV E sls ta rBl c) : EV E sls (tNotV ta) rBl (fun k => c fun a => k (!a)) := fun O σ H S k hk Q q =>
  h1 _ σ H S _ hk _ fun a v H1 ka x1 hv => ⟨a, hv, q _ _ H1 ka x1 rfl⟩
theorem ev_if {b : PT Bool} {c d : PT α} (h : ET E sls tt b) (h1 : EV E sls ta r c) (h2 : EV E sls tb r d) : EV E sls (tIf tt ta tb) r (fun k => b fun x => if x = true then c k else d k) := fun O σ H S k hk Q q =>
  h _ σ H S _ hk _ fun x H1 kx x1 => by
    cases x with
    | true =>
      rw [if_pos rfl] at kx ⊢
      exact h1 _ σ H1 (S.ext x1) k kx Q fun b w H2 kb x2 hw => q b w H2 kb (x1.trans x2) hw
    | false =>
      rw [if_neg Bool.false_ne_true] at kx ⊢
      exact h2 _ σ H1 (S.ext x1) k kx Q fun b w H2 kb x2 hw => q b w H2 kb (x1.trans x2) hw
/-- a test by truth -/
theorem lunS {H : Hp} {p : Addr} {vs : List V} {M : Addr → Prop} (h : SqL K (hid H M) p vs) : SqL K H p vs := SqL.of_hid' h
theorem lun {H : Hp} {p : Addr} {vs : List V} {M : Addr → Prop} (h : Rd (hid H M) p (.lst vs)) : SqL K H p vs := .inl (rd_hid.mp h).2
theorem tun {H : Hp} {p : Addr} {vs : List V} {M : Addr → Prop} (h : SqT K (hid H M) p vs) : SqT K H p vs := h.elim (fun h => .inl (rd_hid.mp h).2) .inr
theorem isEmpty_pair {F : V → β → Prop} {vs : List V} {xs : List β} (h : Paired F vs xs) : vs.isEmpty = xs.isEmpty := by cases h <;> rfl
theorem et_truS {c : PT (List α)} (h : ERs E sls te r c) : ET E sls (fun σ H Q => te σ H fun x H' => ∃ k, TruV K x H' k ∧ Q k H') (fun k => c fun xs => k (!xs.isEmpty)) := fun O σ H S k hk Q q =>
  h _ σ H S _ hk _ fun xs p vs H2 ka x hs hp hl => ⟨!xs.isEmpty, by
    rw [← isEmpty_pair hp]
    exact hs.elim (fun h => .inl ⟨vs, lunS h, rfl⟩) fun h => .inr (.inl ⟨vs, tun h, rfl⟩), q _ H2 ka x⟩

/-! ### arguments -/
theorem ea_1 (h : EV E sls te r c) : EA E sls (tCons te tNil) (f1 r) c := fun O σ H S k hk Q q =>
  h _ σ H S k hk _ fun a v H2 ka x hv => q a [v] H2 ka x ⟨v, rfl, hv⟩
theorem ea_c {tr : TA} {f : RF K β} (h : EV E sls te r c) (h2 : EA E sls tr f d) : EA E sls (tCons te tr) (fc r f) (fun k => c fun a => d fun b => k (a, b)) := fun O σ H S k hk Q q =>
  h _ σ H S _ hk _ fun a v H1 ka x1 hv => h2 _ σ H1 (S.ext x1) _ ka _ fun b vs H2 kb x2 hvs => q (a, b) (v :: vs) H2 kb (x1.trans x2) ⟨v, vs, rfl, (S.ext x1).rep x2 hv, hvs⟩
theorem as_nil : EAs E sls tNil r (fun k => k []) := fun O σ H S k hk Q q => q [] [] H hk (XX.refl S) .nil
theorem as_c {tr : TA} {c : PT α} {d : PT (List α)} (h : EV E sls te r c) (h2 : EAs E sls tr r d) : EAs E sls (tCons te tr) r (fun k => c fun a => d fun b => k (a :: b)) := fun O σ H S k hk Q q =>
  h _ σ H S _ hk _ fun a v H1 ka x1 hv => h2 _ σ H1 (S.ext x1) _ ka _ fun b vs H2 kb x2 hvs => q (a :: b) (v :: vs) H2 kb (x1.trans x2) (.cons ((S.ext x1).rep x2 hv) hvs)
theorem le_line {n : Nat} (h : n ≤ big) : n ≤ sizeLine := Nat.le_trans h (by decide)
theorem lt_line {n : Nat} (h : n < big) : n < sizeLine := Nat.lt_of_lt_of_le h (by decide)
/-- a tuple of different things; of things of one kind; a list -/
theorem ev_pr {f : RF K α} {ta : TA} (h : EA E sls ta f c) (hn : f.n ≤ 1000 := by exact of_decide_eq_true rfl) : EV E sls (tTup ta) (rPr f) c := fun O σ H S k hk Q q =>
  h _ σ H S k hk _ fun a vs H1 ka x1 hv => ⟨by rw [f.len hv]; exact Nat.le_trans hn (by decide), fun p np => by
    have n := (S.ext x1).new (u := .tup vs) np
    exact q a _ _ ka (x1.trans n.1) ⟨p, vs, rfl, .inl (by rw [hid_out n.2]; exact upd_same), f.mono (n.1.ex S.mo).ew hv⟩⟩
theorem ev_tup {ta : TA} {c : PT (List α)} (h : EAs E sls ta r c) : EV E sls (tTup ta) (rTup r) (fun k => c fun xs => xs.length ≤ big ∧ k xs) := fun O σ H S k hk Q q =>
  h _ σ H S _ hk _ fun xs vs H1 ka x1 hv => ⟨by rw [hv.length]; exact le_line ka.1, fun p np => by
    have n := (S.ext x1).new (u := .tup vs) np
    exact q xs _ _ ka.2 (x1.trans n.1) ⟨p, vs, rfl, .inl (by rw [hid_out n.2]; exact upd_same), pmap hv fun _ _ z => r.mono (n.1.ex S.mo).ew z, by rw [hv.length]; exact ka.1⟩⟩
theorem el_lst {ta : TA} {c : PT (List α)} (h : EAs E sls ta r c) : EL E sls (tLst ta) r (fun k => c fun xs => xs.length ≤ big ∧ k xs) := fun O σ H S k hk Q q =>
  h _ σ H S _ hk _ fun xs vs H1 ka x1 hv => ⟨by rw [hv.length]; exact le_line ka.1, fun p np => by
    have n := (S.ext x1).new (u := .lst vs) np
    have n0 : H p = none := by
      cases e : H p with
      | none => rfl
      | some u =>
        by_cases m : E.M p
        · obtain ⟨w, hw, _⟩ := E.there x1.2 p m
          rw [np] at hw; cases hw
        · have := x1.1 p u (by rw [hid_out m]; exact e)
          rw [(of_hid this).2] at np; cases np
    exact q xs p vs _ ka.2 (x1.trans n.1) n0 upd_same (by rw [hid_new np]; exact hv) (by rw [hv.length]; exact ka.1)⟩
end
end Nz

/-! Nz3: containers that are read, built-in calls, equality of data, calls of own defs. -/
namespace Nz
open PySem L2
variable {K : PySem.W.Frag} {O : Addr → Prop} {E : Eff} {sls : List (Sl K)}
section
variable {α β γ κ : Type} {te ta tb tc : TE} {r : R K α} {s : R K β} {c : PT α} {d : PT β}

/-! ### plain functions that the programs name -/
def insI (x : Int) : List Int → List Int
  | [] => [x]
  | y :: l => if x ≤ y then x :: y :: l else y :: insI x l
def sortI : List Int → List Int
  | [] => []
  | x :: l => insI x (sortI l)
def insU (x : Int) : List Int → List Int
  | [] => [x]
  | y :: l => if x < y then x :: y :: l else if x = y then y :: l else y :: insU x l
def sortU : List Int → List Int
  | [] => []
  | x :: l => insU x (sortU l)
theorem mem_insI {x y : Int} : ∀ {l : List Int}, y ∈ insI x l ↔ y = x ∨ y ∈ l
  | [] => by simp [insI]
  | z :: l => by
    unfold insI
    split
    · simp
    · rw [List.mem_cons, mem_insI, List.mem_cons]
      constructor <;> (intro h; rcases h with h | h | h <;> simp [h])
theorem perm_insI (x : Int) : ∀ l : List Int, (insI x l).Perm (x :: l)
  | [] => .refl _
  | z :: l => by
    unfold insI
    split
    · exact .refl _
    · exact ((perm_insI x l).cons z).trans (.swap x z l)
theorem perm_sortI : ∀ l : List Int, (sortI l).Perm l
  | [] => .refl _
  | x :: l => (perm_insI x _).trans ((perm_sortI l).cons x)
theorem pw_insI (x : Int) : ∀ {l : List Int}, l.Pairwise (· ≤ ·) → (insI x l).Pairwise (· ≤ ·)
  | [], _ => by simp [insI]
  | y :: l, h => by
    rw [List.pairwise_cons] at h
    unfold insI
    split
    · rename_i hx
      rw [List.pairwise_cons]
      refine ⟨fun z hz => ?_, List.pairwise_cons.mpr h⟩
      rcases List.mem_cons.mp hz with rfl | hz
      · exact hx
      · exact Int.le_trans hx (h.1 z hz)
    · rename_i hx
      rw [List.pairwise_cons]
      refine ⟨fun z hz => ?_, pw_insI x h.2⟩
      rcases mem_insI.mp hz with rfl | hz
      · omega
      · exact h.1 z hz
theorem pw_sortI : ∀ l : List Int, (sortI l).Pairwise (· ≤ ·)
  | [] => .nil
  | x :: l => pw_insI x (pw_sortI l)
theorem perm_le_unique : ∀ {l m : List Int}, l.Perm m → l.Pairwise (· ≤ ·) → m.Pairwise (· ≤ ·) → l = m
  | [], m, p, _, _ => (List.nil_perm.mp p).symm
  | x :: l, [], p, _, _ => (List.nil_perm.mp p.symm)
  | x :: l, y :: m, p, h, h' => by
    rw [List.pairwise_cons] at h h'
    have e : x = y := by
      have h1 : x ∈ y :: m := p.subset List.mem_cons_self
      have h2 : y ∈ x :: l := p.symm.subset List.mem_cons_self
      rcases List.mem_cons.mp h1 with e | h1
      · exact e
      · rcases List.mem_cons.mp h2 with e | h2
        · exact e.symm
        · have := h.1 y h2
          have := h'.1 x h1
          omega
    subst e
    rw [perm_le_unique (List.perm_cons _ |>.mp p) h.2 h'.2]
theorem sortI_eq {l m : List Int} (p : m.Perm l) (h : m.Pairwise (· ≤ ·)) : m = sortI l := perm_le_unique (p.trans (perm_sortI l).symm) h (pw_sortI l)
theorem mem_insU {x y : Int} : ∀ {l : List Int}, y ∈ insU x l ↔ y = x ∨ y ∈ l
  | [] => by simp [insU]
  | z :: l => by
    unfold insU
    split
    · simp
    · split
      · rename_i e
        subst e
        simp
      · rw [List.mem_cons, mem_insU, List.mem_cons]
        constructor <;> (intro h; rcases h with h | h | h <;> simp [h])
theorem mem_sortU {y : Int} : ∀ {l : List Int}, y ∈ sortU l ↔ y ∈ l
  | [] => by simp [sortU]
  | x :: l => by
    show y ∈ insU x (sortU l) ↔ _
    rw [mem_insU, mem_sortU, List.mem_cons]
theorem pw_insU (x : Int) : ∀ {l : List Int}, l.Pairwise (· < ·) → (insU x l).Pairwise (· < ·)
  | [], _ => by simp [insU]
  | y :: l, h => by
    rw [List.pairwise_cons] at h
    unfold insU
    split
    · rename_i hx
      rw [List.pairwise_cons]
      refine ⟨fun z hz => ?_, List.pairwise_cons.mpr h⟩
      rcases List.mem_cons.mp hz with rfl | hz
      · exact hx
      · exact Int.lt_trans hx (h.1 z hz)
    · split
      · exact List.pairwise_cons.mpr h
      · rename_i h1 h2
        rw [List.pairwise_cons]
        refine ⟨fun z hz => ?_, pw_insU x h.2⟩
        rcases mem_insU.mp hz with rfl | hz
        · omega
        · exact h.1 z hz
theorem pw_sortU : ∀ l : List Int, (sortU l).Pairwise (· < ·)
  | [] => .nil
  | x :: l => pw_insU x (pw_sortU l)
theorem lt_unique : ∀ {l m : List Int}, l.Pairwise (· < ·) → m.Pairwise (· < ·) → (∀ x, x ∈ l ↔ x ∈ m) → l = m
  | [], [], _, _, _ => rfl
  | [], y :: m, _, _, h => absurd ((h y).mpr List.mem_cons_self) (by simp)
  | x :: l, [], _, _, h => absurd ((h x).mp List.mem_cons_self) (by simp)
  | x :: l, y :: m, p, p', h => by
    have q := List.pairwise_cons.mp p
    have q' := List.pairwise_cons.mp p'
    have e : x = y := by
      have h1 := (h x).mp List.mem_cons_self
      have h2 := (h y).mpr List.mem_cons_self
      rcases List.mem_cons.mp h1 with e | h1
      · exact e
      · rcases List.mem_cons.mp h2 with e | h2
        · exact e.symm
        · have := q.1 y h2
          have := q'.1 x h1
          omega
    subst e
    rw [lt_unique q.2 q'.2 fun z => ?_]
    constructor
    · intro hz
      rcases List.mem_cons.mp ((h z).mp (List.mem_cons_of_mem _ hz)) with rfl | w
      · exact absurd (q.1 z hz) (Int.lt_irrefl _)
      · exact w
    · intro hz
      rcases List.mem_cons.mp ((h z).mpr (List.mem_cons_of_mem _ hz)) with rfl | w
      · exact absurd (q'.1 z hz) (Int.lt_irrefl _)
      · exact w
/-- range(n), range(a, b) -/
def rg (n : Int) : List Int := (List.range n.toNat).map fun i => ((i : Nat) : Int)
def rg2 (a b : Int) : List Int := (List.range (b - a).toNat).map fun i => a + ((i : Nat) : Int)
def maxL : List Int → Int
  | [] => 0
  | [x] => x
  | x :: y :: l => max x (maxL (y :: l))
def minL : List Int → Int
  | [] => 0
  | [x] => x
  | x :: y :: l => min x (minL (y :: l))
theorem maxL_spec : ∀ {l : List Int}, l ≠ [] → maxL l ∈ l ∧ ∀ y ∈ l, y ≤ maxL l
  | [], h => (h rfl).elim
  | [x], _ => by simp [maxL]
  | x :: y :: l, _ => by
    have ih := maxL_spec (l := y :: l) (by simp)
    show max x (maxL (y :: l)) ∈ _ ∧ ∀ z ∈ x :: y :: l, z ≤ max x (maxL (y :: l))
    refine ⟨?_, fun z hz => ?_⟩
    · rcases Int.le_total x (maxL (y :: l)) with h | h
      · rw [Int.max_eq_right h]; exact List.mem_cons_of_mem _ ih.1
      · rw [Int.max_eq_left h]; exact List.mem_cons_self
    · rcases List.mem_cons.mp hz with rfl | hz
      · omega
      · have := ih.2 z hz; omega
theorem minL_spec : ∀ {l : List Int}, l ≠ [] → minL l ∈ l ∧ ∀ y ∈ l, minL l ≤ y
  | [], h => (h rfl).elim
  | [x], _ => by simp [minL]
  | x :: y :: l, _ => by
    have ih := minL_spec (l := y :: l) (by simp)
    show min x (minL (y :: l)) ∈ _ ∧ ∀ z ∈ x :: y :: l, min x (minL (y :: l)) ≤ z
    refine ⟨?_, fun z hz => ?_⟩
    · rcases Int.le_total x (minL (y :: l)) with h | h
      · rw [Int.min_eq_left h]; exact List.mem_cons_self
      · rw [Int.min_eq_right h]; exact List.mem_cons_of_mem _ ih.1
    · rcases List.mem_cons.mp hz with rfl | hz
      · omega
      · have := ih.2 z hz; omega
/-- a slice -/
def cut (xs : List α) (lo hi : Option Int) : List α := (xs.drop (HT.sIx xs.length 0 lo)).take (HT.sIx xs.length xs.length hi - HT.sIx xs.length 0 lo)

/-! ### pairs of lists -/
theorem ints_of {H : Hp} : ∀ {vs : List V} {ns : List Int}, Paired ((rInt (K := K)).rp H) vs ns → vs = ns.map V.int
  | _, _, .nil => rfl
  | _, _, .cons h t => by
    have e : _ = V.int _ := h
    rw [e, ints_of t]
    rfl
theorem of_ints {H : Hp} : ∀ (ns : List Int), Paired ((rInt (K := K)).rp H) (ns.map V.int) ns
  | [] => .nil
  | n :: ns => .cons rfl (of_ints ns)
theorem bls_of {H : Hp} : ∀ {vs : List V} {ns : List Bool}, Paired ((rBl (K := K)).rp H) vs ns → vs = ns.map V.bl
  | _, _, .nil => rfl
  | _, _, .cons h t => by
    have e : _ = V.bl _ := h
    rw [e, bls_of t]
    rfl
theorem paired_get' {F : V → α → Prop} : ∀ {vs : List V} {xs : List α}, Paired F vs xs → ∀ {i : Nat} {a : α}, xs[i]? = some a → ∃ v, vs[i]? = some v ∧ F v a
  | _, _, .nil, _, _, e => by simp at e
  | _, _, .cons h _, 0, _, e => by
    simp at e; subst e; exact ⟨_, rfl, h⟩
  | _, _, .cons _ t, i + 1, _, e => by
    obtain ⟨v, h1, h2⟩ := paired_get' t (i := i) (by simpa using e)
    exact ⟨v, by simpa using h1, h2⟩
theorem paired_atI {F : V → α → Prop} {vs : List V} {xs : List α} (h : Paired F vs xs) {i : Int} {a : α} (e : atI xs i = some a) : ∃ v, atI vs i = some v ∧ F v a := by
  unfold atI at e ⊢
  rw [h.length]
  cases q : ixN xs.length i with
  | none => rw [q] at e; cases e
  | some j =>
    rw [q] at e
    exact paired_get' h e
theorem paired_drop {F : V → α → Prop} : ∀ (n : Nat) {vs : List V} {xs : List α}, Paired F vs xs → Paired F (vs.drop n) (xs.drop n)
  | 0, _, _, h => h
  | _ + 1, _, _, .nil => .nil
  | n + 1, _, _, .cons _ t => paired_drop n t
theorem paired_take {F : V → α → Prop} : ∀ (n : Nat) {vs : List V} {xs : List α}, Paired F vs xs → Paired F (vs.take n) (xs.take n)
  | 0, _, _, _ => .nil
  | _ + 1, _, _, .nil => .nil
  | n + 1, _, _, .cons h t => .cons h (paired_take n t)
theorem paired_cut {F : V → α → Prop} {vs : List V} {xs : List α} (h : Paired F vs xs) (lo hi : Option Int) : Paired F (cutV vs lo hi) (cut xs lo hi) := by
  unfold cutV cut
  rw [h.length]
  exact paired_take _ (paired_drop _ h)
theorem paired_app {F : V → α → Prop} : ∀ {vs ws : List V} {xs ys : List α}, Paired F vs xs → Paired F ws ys → Paired F (vs ++ ws) (xs ++ ys)
  | _, _, _, _, .nil, h => h
  | _, _, _, _, .cons a t, h => .cons a (paired_app t h)

/-! ### subscripts, slices -/
theorem ev_ixL {c : PT (List α)} {d : PT Int} (h : ERl E sls te r c) (hi : EV E sls ta rInt d) : EV E sls (tOp (rIxL K) te ta) r (fun k => c fun xs => d fun i => ∃ a, atI xs i = some a ∧ k a) := fun O σ H S k hk Q q =>
  h _ σ H S _ hk _ fun xs p vs H1 ka x1 hs hp hl => hi _ σ H1 (S.ext x1) _ ka _ fun i y H2 ⟨a, e, kb⟩ x2 hy => by
    obtain ⟨v, ev, hv⟩ := paired_atI hp e
    exact ⟨p, vs, i, v, rfl, hy, lun (rdL x2.1.ew hs), ev, q a v H2 kb (x1.trans x2) ((S.ext x1).rep x2 hv)⟩
theorem ev_ixT {c : PT (List α)} {d : PT Int} (h : ERt E sls te r c) (hi : EV E sls ta rInt d) : EV E sls (tOp (rIxT K) te ta) r (fun k => c fun xs => d fun i => ∃ a, atI xs i = some a ∧ k a) := fun O σ H S k hk Q q =>
  h _ σ H S _ hk _ fun xs p vs H1 ka x1 hs hp hl => hi _ σ H1 (S.ext x1) _ ka _ fun i y H2 ⟨a, e, kb⟩ x2 hy => by
    obtain ⟨v, ev, hv⟩ := paired_atI hp e
    exact ⟨p, vs, i, v, rfl, hy, (hs.mono x2.1.ew).of_hid.sq, ev, q a v H2 kb (x1.trans x2) ((S.ext x1).rep x2 hv)⟩
/-- a place of a tuple of different things -/
structure Fld (f : RF K α) (i : Int) (s : R K β) (g : α → β) : Prop where
  at_ : ∀ {H : Hp} {vs : List V} {a : α}, f.rp H vs a → ∃ v, atI vs i = some v ∧ s.rp H v (g a)
theorem fld_one {r : R K α} : Fld (f1 r) 0 r (fun a => a) := ⟨fun ⟨v, e, h⟩ => ⟨v, by subst e; rfl, h⟩⟩
theorem fld_0 {r : R K α} {f : RF K β} : Fld (fc r f) 0 r (·.1) := ⟨fun ⟨v, ws, e, h, _⟩ => ⟨v, by subst e; exact atI_nat (j := 0) rfl, h⟩⟩
theorem fld_s {r : R K α} {f : RF K β} {s : R K γ} {g : β → γ} {n : Nat} (h : Fld f (n : Int) s g) : Fld (fc r f) ((n + 1 : Nat) : Int) s (fun a => g a.2) := ⟨fun {H vs a} ⟨v, ws, e, _, hw⟩ => by
  subst e
  obtain ⟨w, hw1, hw2⟩ := h.at_ hw
  refine ⟨w, ?_, hw2⟩
  unfold atI ixN at hw1 ⊢
  simp only [List.length_cons] at *
  split at hw1
  · rename_i h1
    split at hw1
    · rename_i h2
      rw [if_pos (by omega), if_pos (by omega)]
      have e1 : ((n + 1 : Nat) : Int).toNat = n + 1 := by omega
      have e2 : ((n : Nat) : Int).toNat = n := by omega
      rw [e2] at hw1
      rw [e1]
      exact hw1
    · cases hw1
  · rename_i h1
    omega⟩
theorem ev_fld {f : RF K α} {i : Int} {s : R K β} {g : α → β} (F : Fld f i s g) (h : EV E sls te (rPr f) c) : EV E sls (tOp (rIxT K) te (tC (.int i))) s (fun k => c fun a => k (g a)) := fun O σ H S k hk Q q =>
  h _ σ H S _ hk _ fun a v H1 ka x1 ⟨p, vs, e, hs, hf⟩ => by
    subst e
    obtain ⟨w, e1, hw⟩ := F.at_ hf
    exact ⟨p, vs, i, w, rfl, rfl, hs.of_hid.sq, e1, q _ w H1 ka x1 hw⟩
theorem po_no : EP' E sls tNoPart (fun k => k none) := fun O σ H S k hk Q q => q none H hk (XX.refl S)
theorem po_yes {d : PT Int} (h : EV E sls ta rInt d) : EP' E sls (tPart ta) (fun k => d fun i => k (some i)) := fun O σ H S k hk Q q =>
  h _ σ H S _ hk _ fun i v H1 ka x hv => ⟨i, hv, q (some i) H1 ka x⟩
theorem cut_len (xs : List α) (lo hi : Option Int) : (cut xs lo hi).length ≤ xs.length := by
  unfold cut
  rw [List.length_take, List.length_drop]
  omega
theorem el_slL {c : PT (List α)} {tl th : TO} {dl dh : PT (Option Int)} (h : ERl E sls te r c) (hl : EP' E sls tl dl) (hh : EP' E sls th dh) : EL E sls (tSl (rSlL K) te tl th) r (fun k => c fun xs => dl fun lo => dh fun hi => k (cut xs lo hi)) := fun O σ H S k hk Q q =>
  h _ σ H S _ hk _ fun xs p vs H1 ka x1 hs hp hz => hl _ σ H1 (S.ext x1) _ ka _ fun lo H2 kb x2 => hh _ σ H2 ((S.ext x1).ext x2) _ kb _ fun hi H3 kc x3 => by
    have S3 := ((S.ext x1).ext x2).ext x3
    refine ⟨p, vs, rfl, lun (rdL x3.1.ew (rdL x2.1.ew hs)), fun P nP => ?_⟩
    have n := S3.new (u := .lst (cutV vs lo hi)) nP
    exact q _ P _ _ kc (((x1.trans x2).trans x3).trans n.1) (((x1.trans x2).trans x3).back nP) upd_same (by rw [hid_new nP]; exact pmap (paired_cut hp lo hi) fun _ _ z => ((S.ext x1).ext x2).rep x3 ((S.ext x1).rep x2 z)) (by rw [(paired_cut hp lo hi).length]; exact Nat.le_trans (cut_len _ _ _) (by rw [← hp.length]; exact hz))
theorem sIx_whole {xs : List α} {lo hi : Option Int} (h : HT.sIx xs.length 0 lo = 0 ∧ HT.sIx xs.length xs.length hi = xs.length) : cut xs lo hi = xs := by
  unfold cut
  rw [h.1, h.2, List.drop_zero, Nat.sub_zero, List.take_length]
theorem ev_slT {c : PT (List α)} {tl th : TO} {dl dh : PT (Option Int)} (h : EV E sls te (rTup r) c) (hl : EP' E sls tl dl) (hh : EP' E sls th dh) : EV E sls (tSl (rSlA K) te tl th) (rTup r) (fun k => c fun xs => dl fun lo => dh fun hi => k (cut xs lo hi)) := fun O σ H S k hk Q q =>
  h _ σ H S _ hk _ fun xs v H1 ka x1 ⟨p, vs, ep, hs, hp, hz⟩ => hl _ σ H1 (S.ext x1) _ ka _ fun lo H2 kb x2 => hh _ σ H2 ((S.ext x1).ext x2) _ kb _ fun hi H3 kc x3 => by
    subst ep
    have S2 := (S.ext x1).ext x2
    have S3 := S2.ext x3
    have hs3 : TpX K (hid H3 O) p vs := (hs.mono (x2.ex S.mo).ew).mono (x3.ex S.mo).ew
    have hp3 : Paired (r.rp (hid H3 O)) vs xs := pmap hp fun _ _ z => S2.rep x3 ((S.ext x1).rep x2 z)
    refine ⟨p, vs, rfl, hs3.of_hid.sq, fun w => ?_, fun _ P nP => ?_⟩
    · have e : cut xs lo hi = xs := sIx_whole (by rw [← hp.length]; exact w)
      rw [e] at kc
      exact q xs _ H3 kc ((x1.trans x2).trans x3) ⟨p, vs, rfl, hs3, hp3, hz⟩
    · have n := S3.new (u := .tup (cutV vs lo hi)) nP
      exact q _ _ _ kc (((x1.trans x2).trans x3).trans n.1) ⟨P, _, rfl, .inl (by rw [hid_out n.2]; exact upd_same), pmap (paired_cut hp3 lo hi) fun _ _ z => S3.rep n.1 z, by rw [(paired_cut hp lo hi).length]; exact Nat.le_trans (cut_len _ _ _) (by rw [← hp.length]; exact hz)⟩

/-! ### in, by flat items -/
structure FlEq (r : R K α) [DecidableEq α] : Prop where
  fl : ∀ {H v a}, r.rp H v a → flatV v = true
  eq : ∀ {H v w a b}, r.rp H v a → r.rp H w b → eqV v w = decide (a = b)
theorem fe_int : FlEq (rInt (K := K)) := ⟨fun {H v a} h => by rw [show v = .int a from h]; rfl, fun {H v w a b} h h' => by
  rw [show v = .int a from h, show w = .int b from h']
  show (a == b) = decide (a = b)
  by_cases e : a = b <;> simp [e]⟩
theorem fe_str : FlEq (rStr (K := K)) := ⟨fun {H v a} h => by rw [show v = .str a from h]; rfl, fun {H v w a b} h h' => by
  rw [show v = .str a from h, show w = .str b from h']
  show (a == b) = decide (a = b)
  by_cases e : a = b <;> simp [e]⟩
theorem all_fl [DecidableEq α] (F : FlEq r) {H : Hp} : ∀ {vs : List V} {xs : List α}, Paired (r.rp H) vs xs → vs.all flatV = true
  | _, _, .nil => rfl
  | _, _, .cons h t => by rw [List.all_cons, F.fl h, all_fl F t]; rfl
theorem inV_eq [DecidableEq α] (F : FlEq r) {H : Hp} {x : V} {a : α} (hx : r.rp H x a) : ∀ {vs : List V} {xs : List α}, Paired (r.rp H) vs xs → inV x vs = decide (a ∈ xs)
  | _, _, .nil => rfl
  | v :: vs, b :: xs, .cons h t => by
    show (eqV v x || inV x vs) = _
    rw [F.eq h hx, inV_eq F hx t]
    by_cases e : b = a
    · subst e; simp
    · have e' : ¬ a = b := fun z => e z.symm
      simp [e, e']
theorem ev_inS [DecidableEq α] (F : FlEq r) {c : PT α} {d : PT (List α)} (h1 : EV E sls ta r c) (h2 : ERs E sls tb r d) : EV E sls (tOp (rIn K false) ta tb) rBl (fun k => c fun a => d fun xs => k (decide (a ∈ xs))) := fun O σ H S k hk Q q =>
  h1 _ σ H S _ hk _ fun a x H1 ka x1 hx => h2 _ σ H1 (S.ext x1) _ ka _ fun xs p vs H2 kb x2 hs hp hl => by
    have hx2 := (S.ext x1).rep x2 hx
    refine ⟨p, vs, rfl, hs.elim (fun h => .inl (lunS h)) (fun h => .inr (tun h)), F.fl hx2, all_fl F hp, ?_⟩
    rw [if_neg Bool.false_ne_true]
    rw [inV_eq F hx2 hp]
    exact q _ _ H2 kb (x1.trans x2) rfl
theorem ev_niS [DecidableEq α] (F : FlEq r) {c : PT α} {d : PT (List α)} (h1 : EV E sls ta r c) (h2 : ERs E sls tb r d) : EV E sls (tOp (rIn K true) ta tb) rBl (fun k => c fun a => d fun xs => k (!decide (a ∈ xs))) := fun O σ H S k hk Q q =>
  h1 _ σ H S _ hk _ fun a x H1 ka x1 hx => h2 _ σ H1 (S.ext x1) _ ka _ fun xs p vs H2 kb x2 hs hp hl => by
    have hx2 := (S.ext x1).rep x2 hx
    refine ⟨p, vs, rfl, hs.elim (fun h => .inl (lunS h)) (fun h => .inr (tun h)), F.fl hx2, all_fl F hp, ?_⟩
    rw [if_pos rfl]
    rw [inV_eq F hx2 hp]
    exact q _ _ H2 kb (x1.trans x2) rfl

/-! ### calls of built-ins -/
def rLenS (K : PySem.W.Frag) : List V → Hp → VK → Prop := fun xs H Q => ∃ p ys, xs = [.ref p] ∧ (SqL K H p ys ∨ SqT K H p ys) ∧ Q (.int ys.length) H
theorem ev_lenS {c : PT (List α)} (h : ERs E sls te r c) : EV E sls (tCB (rLenS K) (tCons te tNil)) rInt (fun k => c fun xs => k (xs.length : Int)) := fun O σ H S k hk Q q =>
  h _ σ H S _ hk _ fun xs p vs H2 ka x hs hp hl => ⟨p, vs, rfl, hs.elim (fun h => .inl (lunS h)) (fun h => .inr (tun h)), q _ _ H2 ka x (by rw [hp.length]; rfl)⟩
theorem ev_all {c : PT (List Bool)} (h : ERl E sls te rBl c) : EV E sls (tCB (rAll K) (tCons te tNil)) rBl (fun k => c fun xs => k (xs.all id)) := fun O σ H S k hk Q q =>
  h _ σ H S _ hk _ fun xs p vs H2 ka x hs hp hl => ⟨p, xs, rfl, by rw [← bls_of hp]; exact lun hs, q _ _ H2 ka x rfl⟩
theorem ev_any {c : PT (List Bool)} (h : ERl E sls te rBl c) : EV E sls (tCB (rAny K) (tCons te tNil)) rBl (fun k => c fun xs => k (xs.any id)) := fun O σ H S k hk Q q =>
  h _ σ H S _ hk _ fun xs p vs H2 ka x hs hp hl => ⟨p, xs, rfl, by rw [← bls_of hp]; exact lun hs, q _ _ H2 ka x rfl⟩
theorem ev_sum {c : PT (List Int)} (h : ERl E sls te rInt c) : EV E sls (tCB (rSum K) (tCons te tNil)) rInt (fun k => c fun xs => k xs.sum) := fun O σ H S k hk Q q =>
  h _ σ H S _ hk _ fun xs p vs H2 ka x hs hp hl => ⟨p, xs, rfl, by rw [← ints_of hp]; exact lun hs, q _ _ H2 ka x rfl⟩
theorem ev_max {c : PT (List Int)} (h : ERl E sls te rInt c) : EV E sls (tCB (rMax K) (tCons te tNil)) rInt (fun k => c fun xs => xs ≠ [] ∧ k (maxL xs)) := fun O σ H S k hk Q q =>
  h _ σ H S _ hk _ fun xs p vs H2 ka x hs hp hl => ⟨p, xs, rfl, by rw [← ints_of hp]; exact lun hs, by have := ka.1; cases xs <;> simp_all, fun m hm hy => q _ _ H2 ka.2 x (by
    have sp := maxL_spec ka.1
    have e : m = maxL xs := Int.le_antisymm (sp.2 m hm) (hy _ sp.1)
    rw [e]; rfl)⟩
theorem ev_min {c : PT (List Int)} (h : ERl E sls te rInt c) : EV E sls (tCB (rMin K) (tCons te tNil)) rInt (fun k => c fun xs => xs ≠ [] ∧ k (minL xs)) := fun O σ H S k hk Q q =>
  h _ σ H S _ hk _ fun xs p vs H2 ka x hs hp hl => ⟨p, xs, rfl, by rw [← ints_of hp]; exact lun hs, by have := ka.1; cases xs <;> simp_all, fun m hm hy => q _ _ H2 ka.2 x (by
    have sp := minL_spec ka.1
    have e : m = minL xs := Int.le_antisymm (hy _ sp.1) (sp.2 m hm)
    rw [e]; rfl)⟩
theorem ev_max2 {c d : PT Int} (ha : EV E sls ta rInt c) (hb : EV E sls tb rInt d) : EV E sls (tCB (fun xs H Q => ∃ i j, xs = [.int i, .int j] ∧ Q (.int (if j > i then j else i)) H) (tCons ta (tCons tb tNil))) rInt (fun k => c fun a => d fun b => k (max a b)) := fun O σ H S k hk Q q =>
  ha _ σ H S _ hk _ fun a x H1 ka x1 hx => hb _ σ H1 (S.ext x1) _ ka _ fun b y H2 kb x2 hy => ⟨a, b, by rw [show x = .int a from hx, show y = .int b from hy], q _ _ H2 kb (x1.trans x2) (show V.int _ = V.int _ by congr 1; split <;> omega)⟩
theorem ev_min2 {c d : PT Int} (ha : EV E sls ta rInt c) (hb : EV E sls tb rInt d) : EV E sls (tCB (fun xs H Q => ∃ i j, xs = [.int i, .int j] ∧ Q (.int (if j < i then j else i)) H) (tCons ta (tCons tb tNil))) rInt (fun k => c fun a => d fun b => k (min a b)) := fun O σ H S k hk Q q =>
  ha _ σ H S _ hk _ fun a x H1 ka x1 hx => hb _ σ H1 (S.ext x1) _ ka _ fun b y H2 kb x2 hy => ⟨a, b, by rw [show x = .int a from hx, show y = .int b from hy], q _ _ H2 kb (x1.trans x2) (show V.int _ = V.int _ by congr 1; split <;> omega)⟩
/-- a new list of ints -/
theorem q_ints {σ : L2.St} {H H1 : Hp} {k : List Int → Prop} {Q : VK} (S : SL O E sls σ H) (x : XX E H H1) {ns : List Int} (kn : k ns) (hl : ns.length ≤ big)
    (q : ∀ xs p vs H2, k xs → XX E H H2 → H p = none → H2 p = some (.lst vs) → Paired ((rInt (K := K)).rp (hid H2 (wD O p))) vs xs → vs.length ≤ big → Q (.ref p) H2) {p : Addr} (np : H1 p = none) : Q (.ref p) (upd H1 p (.lst (ns.map V.int))) :=
  q ns p _ _ kn (x.trans ((S.ext x).new np).1) (x.back np) upd_same (of_ints ns) (by rw [List.length_map]; exact hl)
theorem el_sorted {c : PT (List Int)} (h : ERl E sls te rInt c) : EL E sls (tCB (rSortedI K) (tCons te tNil)) rInt (fun k => c fun xs => k (sortI xs)) := fun O σ H S k hk Q q =>
  h _ σ H S _ hk _ fun xs p vs H2 ka x hs hp hl => ⟨p, xs, rfl, by rw [← ints_of hp]; exact lun hs, fun ns' P pm pw nP => by
    rw [sortI_eq pm pw]
    exact q_ints S x ka (by rw [(perm_sortI xs).length_eq, ← hp.length]; exact hl) q nP⟩
def rSortedDI : List V → Hp → VK → Prop := fun xs H Q => ∃ (a : Addr) (kvs : List (Key × V)) (ks : List Int), xs = [.ref a] ∧ Rd H a (.dK kvs) ∧ kvs.map (·.1) = ks.map Sum.inl ∧ ks.length < 64 ∧
    ∀ (ys : List Int) (p : Addr), ys.Perm ks → ys.Pairwise (· ≤ ·) → H p = none → Q (.ref p) (upd H p (.lst (ys.map V.int)))
theorem keys_of {H : Hp} : ∀ {vs : List (Key × V)} {d : List (Int × α)}, Paired (DkRel kyI.enc r H) vs d → vs.map (·.1) = (d.map (·.1)).map Sum.inl
  | _, _, .nil => rfl
  | _, _, .cons h t => by
    rw [List.map_cons, List.map_cons, List.map_cons, keys_of t, h.1]
    rfl
theorem el_sortedD {c : PT (List (Int × α))} (h : ERd E sls te kyI r c) : EL E sls (tCB rSortedDI (tCons te tNil)) rInt (fun k => c fun d => d.length < 64 ∧ k (sortI (d.map (·.1)))) := fun O σ H S k hk Q q =>
  h _ σ H S _ hk _ fun d p vs H2 ka x hs hp hl => ⟨p, vs, d.map (·.1), rfl, (rd_hid.mp hs).2, keys_of hp, by rw [List.length_map]; exact ka.1, fun ns' P pm pw nP => by
    rw [sortI_eq pm pw]
    exact q_ints S x ka.2 (by rw [(perm_sortI _).length_eq, List.length_map]; have := ka.1; show d.length ≤ 100000; omega) q nP⟩
def rLenD : List V → Hp → VK → Prop := fun xs H Q => ∃ (p : Addr) (kvs : List (Key × V)), xs = [.ref p] ∧ Rd H p (.dK kvs) ∧ Q (.int ((kvs.length : Nat) : Int)) H
theorem call_lenDR {X : Cx} : CallR X (.builtin "len") rLenD := by
  intro pins s σ H xs us Q I r h
  obtain ⟨p, kvs, rfl, hd, q⟩ := h
  obtain ⟨u, rfl, ru⟩ := vals1 r
  cases ru
  exact d_len I hd fun t s' I' => ⟨.int _, H, I', ⟨_, rfl⟩, q⟩
theorem ev_lenD {e : Ky κ} {c : PT (List (κ × α))} (h : ERd E sls te e r c) : EV E sls (tCB rLenD (tCons te tNil)) rInt (fun k => c fun xs => k (xs.length : Int)) := fun O σ H S k hk Q q =>
  h _ σ H S _ hk _ fun xs p vs H2 ka x hs hp hl => ⟨p, vs, rfl, (rd_hid.mp hs).2, q _ _ H2 ka x (by rw [hp.length]; rfl)⟩
theorem et_truD' {X : Cx} : TruR X (fun x H Q => ∃ p kvs, x = .ref p ∧ Rd H p (.dK kvs) ∧ Q (!kvs.isEmpty) H) := by
  intro pins s σ H x v Q I rx h
  obtain ⟨p, kvs, rfl, hd, q⟩ := h
  cases rx
  exact d_truth I hd fun s' I' => ⟨H, I', q⟩
def tTruD (te : TE) : TT := fun σ H Q => te σ H fun x H1 => ∃ p kvs, x = .ref p ∧ Rd H1 p (.dK kvs) ∧ Q (!kvs.isEmpty) H1
theorem pt_truD {X : Cx} {a : Expr} {ta : TE} (ha : PE X a ta) (he : ∀ whole, isTrue a X.env whole = (do let v ← whole; standAt a.pos; holding [v] (truthy v))) : L2.PT X a (tTruD ta) := by
  refine ⟨fun pins s σ H Q I h => ?_⟩
  exact PyProof.Rows.isTrue_plain (thn (ha.run pins s σ H _ I h) fun v s1 ⟨x, H1, I1, r1, q1⟩ => et_truD' pins s1 σ H1 x v Q I1 r1 q1) (he _)
theorem et_truD {e : Ky κ} {c : PT (List (κ × α))} (h : ERd E sls te e r c) : ET E sls (tTruD te) (fun k => c fun xs => k (!xs.isEmpty)) := fun O σ H S k hk Q q =>
  h _ σ H S _ hk _ fun xs p vs H2 ka x hs hp hl => ⟨p, vs, rfl, (rd_hid.mp hs).2, by
    have e : vs.isEmpty = xs.isEmpty := by cases hp <;> rfl
    rw [e]
    exact q _ H2 ka x⟩
def rListS (K : PySem.W.Frag) : List V → Hp → VK → Prop := fun xs H Q => ∃ p ys, xs = [.ref p] ∧ (SqL K H p ys ∨ SqT K H p ys) ∧ ∀ l, H l = none → Q (.ref l) (upd H l (.lst ys))
theorem el_list {c : PT (List α)} (h : ERs E sls te r c) : EL E sls (tCB (rListS K) (tCons te tNil)) r c := fun O σ H S k hk Q q =>
  h _ σ H S _ hk _ fun xs p vs H2 ka x hs hp hl => ⟨p, vs, rfl, hs.elim (fun h => .inl (lunS h)) (fun h => .inr (tun h)), fun P nP => by
    have n := (S.ext x).new (u := .lst vs) nP
    exact q xs P vs _ ka (x.trans n.1) (x.back nP) upd_same (by rw [hid_new nP]; exact hp) hl⟩
/-- tuple(a list) -/
def rTupS (K : PySem.W.Frag) : List V → Hp → VK → Prop := fun xs H Q => ∃ p ys, xs = [.ref p] ∧ ((SqL K H p ys ∧ ∀ l, H l = none → Q (.ref l) (upd H l (.tup ys))) ∨ (SqT K H p ys ∧ Q (.ref p) H))
theorem ev_tupL {c : PT (List α)} (h : ERl E sls te r c) : EV E sls (tCB (rTupS K) (tCons te tNil)) (rTup r) c := fun O σ H S k hk Q q =>
  h _ σ H S _ hk _ fun xs p vs H2 ka x hs hp hl => ⟨p, vs, rfl, .inl ⟨lun hs, fun P nP => by
    have n := (S.ext x).new (u := .tup vs) nP
    exact q xs _ _ ka (x.trans n.1) ⟨P, vs, rfl, .inl (by rw [hid_out n.2]; exact upd_same), pmap hp fun _ _ z => (S.ext x).rep n.1 z, hl⟩⟩⟩
theorem ev_tupT {c : PT (List α)} (h : EV E sls te (rTup r) c) : EV E sls (tCB (rTupS K) (tCons te tNil)) (rTup r) c := fun O σ H S k hk Q q =>
  h _ σ H S _ hk _ fun xs v H2 ka x ⟨p, vs, e, hs, hp, hl⟩ => by
    subst e
    exact ⟨p, vs, rfl, .inr ⟨hs.of_hid.sq, q xs _ H2 ka x ⟨p, vs, rfl, hs, hp, hl⟩⟩⟩
theorem el_listD {c : PT (List (Int × α))} (h : ED E sls te kyI r c) : EL E sls (tCB rListD (tCons te tNil)) rInt (fun k => c fun d => k (d.map (·.1))) := fun O σ H S k hk Q q =>
  h _ σ H S _ hk _ fun d p vs H2 ka x np hs hp hl => ⟨p, vs, rfl, hs, fun P nP => by
    have e : (vs.map fun kv => kV kv.1) = (d.map (·.1)).map V.int := by
      have := congrArg (List.map kV) (keys_of hp)
      rw [List.map_map, List.map_map] at this
      rw [show (vs.map fun kv => kV kv.1) = vs.map (kV ∘ fun x => x.1) from rfl, this]
      rfl
    rw [e]
    exact q_ints S x ka (by rw [List.length_map, ← hp.length]; exact hl) q nP⟩
/-- int(n) of an int -/
theorem ev_intI {c : PT Int} (h : EV E sls te rInt c) : EV E sls (tCB (fun xs H Q => (∃ i, xs = [.int i] ∧ Q (.int i) H) ∨ ∃ k, xs = [.bl k] ∧ Q (.int (if k then 1 else 0)) H) (tCons te tNil)) rInt c := fun O σ H S k hk Q q =>
  h _ σ H S _ hk _ fun a x H1 ka x1 hx => .inl ⟨a, by rw [show x = .int a from hx], q a _ H1 ka x1 rfl⟩
theorem ev_abs {c : PT Int} (h : EV E sls te rInt c) : EV E sls (tCB (fun xs H Q => ∃ i, xs = [.int i] ∧ Q (.int (if i < 0 then -i else i)) H) (tCons te tNil)) rInt (fun k => c fun a => k (if a < 0 then -a else a)) := fun O σ H S k hk Q q =>
  h _ σ H S _ hk _ fun a x H1 ka x1 hx => ⟨a, by rw [show x = .int a from hx], q _ _ H1 ka x1 rfl⟩

/-! ### lists and tuples joined, repeated -/
theorem ev_catT {c d : PT (List α)} (h1 : EV E sls ta (rTup r) c) (h2 : EV E sls tb (rTup r) d) : EV E sls (tOp (rCatA K) ta tb) (rTup r) (fun k => c fun a => d fun b => (a ++ b).length ≤ big ∧ k (a ++ b)) := fun O σ H S k hk Q q =>
  h1 _ σ H S _ hk _ fun a v H1 ka x1 hv => h2 _ σ H1 (S.ext x1) _ ka _ fun b w H2 kb x2 ⟨p2, vs2, e2, hs2, hp2, hl2⟩ => by
    have S2 := (S.ext x1).ext x2
    obtain ⟨p1, vs1, e1, hs1, hp1, hl1⟩ := (S.ext x1).rep x2 hv
    subst e1 e2
    have hz := kb.1
    rw [List.length_append, ← hp1.length, ← hp2.length] at hz
    refine ⟨p1, p2, vs1, vs2, rfl, rfl, hs1.of_hid.sq, hs2.of_hid.sq, le_line hz, fun z => ?_, fun _ z => ?_, fun _ _ P nP => ?_⟩
    · subst z
      cases hp1
      exact q _ _ H2 kb.2 (x1.trans x2) ⟨p2, vs2, rfl, hs2, hp2, hl2⟩
    · subst z
      cases hp2
      have kb2 := kb.2
      rw [List.append_nil] at kb2
      exact q _ _ H2 kb2 (x1.trans x2) ⟨p1, vs1, rfl, hs1, hp1, hl1⟩
    · have n := S2.new (u := .tup (vs1 ++ vs2)) nP
      exact q _ _ _ kb.2 ((x1.trans x2).trans n.1) ⟨P, _, rfl, .inl (by rw [hid_out n.2]; exact upd_same), pmap (paired_app hp1 hp2) fun _ _ z => S2.rep n.1 z, by rw [List.length_append]; exact hz⟩
/-- xs + ys, whatever lists: by what they are read as -/
def rCatL : R2 := fun x y H Q => ∃ l b xs zs, x = .ref l ∧ y = .ref b ∧ Rd H l (.lst xs) ∧ Rd H b (.lst zs) ∧ xs.length + zs.length ≤ sizeLine ∧ ∀ p, H p = none → Q (.ref p) (upd H p (.lst (xs ++ zs)))
theorem el_catL {c d : PT (List α)} (h1 : ERl E sls ta r c) (h2 : ERl E sls tb r d) : EL E sls (tOp rCatL ta tb) r (fun k => c fun a => d fun b => (a ++ b).length ≤ big ∧ k (a ++ b)) := fun O σ H S k hk Q q =>
  h1 _ σ H S _ hk _ fun a p1 vs1 H1 ka x1 hs1 hp1 hl1 => h2 _ σ H1 (S.ext x1) _ ka _ fun b p2 vs2 H2 kb x2 hs2 hp2 hl2 => by
    have S2 := (S.ext x1).ext x2
    have hp1' : Paired (r.rp (hid H2 O)) vs1 a := pmap hp1 fun _ _ z => (S.ext x1).rep x2 z
    have hz := kb.1
    rw [List.length_append, ← hp1.length, ← hp2.length] at hz
    refine ⟨p1, p2, vs1, vs2, rfl, rfl, (rd_hid.mp (rdL x2.1.ew hs1)).2, (rd_hid.mp hs2).2, le_line hz, fun P nP => ?_⟩
    have n := S2.new (u := .lst (vs1 ++ vs2)) nP
    exact q _ P _ _ kb.2 ((x1.trans x2).trans n.1) ((x1.trans x2).back nP) upd_same (by rw [hid_new nP]; exact paired_app hp1' hp2) (by rw [List.length_append]; exact hz)

/-! ### == of data -/
structure Da (r : R K α) where
  enc : α → PyData
  dp : ∀ {H v a}, r.rp H v a → Dp K H v (enc a)
  lay : ∀ a, (enc a).canLay0 = true
  dep : Nat
  dle : ∀ a, (enc a).depth ≤ dep
  inj : ∀ a b, PyData.eqv (enc a) (enc b) = true ↔ a = b
def da_int : Da (rInt (K := K)) := ⟨.int, fun {H v a} h => by rw [show v = .int a from h]; exact .int a, fun _ => rfl, 0, fun _ => Nat.le_refl _, fun a b => by simp [PyData.eqv]⟩
def da_bl : Da (rBl (K := K)) := ⟨.bool, fun {H v a} h => by rw [show v = .bl a from h]; exact .bl a, fun _ => rfl, 0, fun _ => Nat.le_refl _, fun a b => by simp [PyData.eqv]⟩
def encO (D : Da r) : Option α → PyData
  | none => .none
  | some a => D.enc a
theorem enc_nn (D : Da r) (nn : ∀ a, D.enc a ≠ .none) (a : α) : PyData.eqv (D.enc a) .none = false ∧ PyData.eqv .none (D.enc a) = false := by
  have := nn a
  cases h : D.enc a with
  | none => exact (this h).elim
  | bool _ => simp [PyData.eqv]
  | int _ => simp [PyData.eqv]
  | str _ => simp [PyData.eqv]
  | list _ => simp [PyData.eqv]
  | tuple _ => simp [PyData.eqv]
  | dict _ => simp [PyData.eqv]
def da_opt (D : Da r) (nn : ∀ a, D.enc a ≠ .none) : Da (rOpt r) := ⟨encO D, fun {H v a} h => by
    cases a with
    | none => rw [show v = .non from h]; exact .non
    | some x => exact D.dp h.2, fun a => by
    cases a with
    | none => rfl
    | some x => exact D.lay x, D.dep, fun a => by
    cases a with
    | none => exact Nat.zero_le _
    | some x => exact D.dle x, fun a b => by
    cases a with
    | none =>
      cases b with
      | none => simp [encO, PyData.eqv]
      | some y => simp [encO, (enc_nn D nn y).2]
    | some x =>
      cases b with
      | none => simp [encO, (enc_nn D nn x).1]
      | some y => simp [encO, D.inj]⟩
theorem dpAll (D : Da r) {H : Hp} : ∀ {vs : List V} {xs : List α}, Paired (r.rp H) vs xs → DpAll K H vs (xs.map D.enc)
  | _, _, .nil => .nil
  | _, _, .cons h t => .cons (D.dp h) (dpAll D t)
theorem layAll (D : Da r) : ∀ xs : List α, PyData.canLayAll0 (xs.map D.enc) = true
  | [] => rfl
  | x :: xs => by
    rw [List.map_cons, PyData.canLayAll0, D.lay x, layAll D xs]
    rfl
theorem depAll (D : Da r) : ∀ xs : List α, PyData.depthAll (xs.map D.enc) ≤ D.dep
  | [] => Nat.zero_le _
  | x :: xs => by
    rw [List.map_cons, PyData.depthAll]
    exact Nat.max_le.mpr ⟨D.dle x, depAll D xs⟩
theorem injAll (D : Da r) : ∀ xs ys : List α, PyData.eqvAll (xs.map D.enc) (ys.map D.enc) = true ↔ xs = ys
  | [], [] => by simp [PyData.eqvAll]
  | [], y :: ys => by simp [PyData.eqvAll]
  | x :: xs, [] => by simp [PyData.eqvAll]
  | x :: xs, y :: ys => by simp [PyData.eqvAll, D.inj, injAll D xs ys]
theorem SqT.of_hidO {H : Hp} {O : Addr → Prop} {p : Addr} {vs : List V} (h : TpX K (hid H O) p vs) : SqT K (hid H O) p vs := h.sq
def da_tup (D : Da r) : Da (rTup r) := ⟨fun xs => .tuple (xs.map D.enc), fun {H v a} ⟨p, vs, e, hs, hp, _⟩ => by
    subst e
    exact .tup hs.sq (dpAll D hp), fun a => by rw [PyData.canLay0]; exact layAll D a, D.dep + 1, fun a => by rw [PyData.depth]; exact Nat.succ_le_succ (depAll D a), fun a b => by rw [PyData.eqv]; exact injAll D a b⟩
def da_lst (D : Da r) : Da (rLst r) := ⟨fun xs => .list (xs.map D.enc), fun {H v a} ⟨p, vs, e, hs, hp, _⟩ => by
    subst e
    exact .lst (.inl hs) (dpAll D hp), fun a => by rw [PyData.canLay0]; exact layAll D a, D.dep + 1, fun a => by rw [PyData.depth]; exact Nat.succ_le_succ (depAll D a), fun a b => by rw [PyData.eqv]; exact injAll D a b⟩
structure Das (f : RF K α) where
  enc : α → List PyData
  dp : ∀ {H v a}, f.rp H v a → DpAll K H v (enc a)
  lay : ∀ a, PyData.canLayAll0 (enc a) = true
  dep : Nat
  dle : ∀ a, PyData.depthAll (enc a) ≤ dep
  inj : ∀ a b, PyData.eqvAll (enc a) (enc b) = true ↔ a = b
def das_1 (D : Da r) : Das (f1 r) := ⟨fun a => [D.enc a], fun {H v a} ⟨w, e, h⟩ => by subst e; exact .cons (D.dp h) .nil, fun a => by simp [PyData.canLayAll0, D.lay], D.dep, fun a => by simp [PyData.depthAll, D.dle], fun a b => by simp [PyData.eqvAll, D.inj]⟩
def das_c {f : RF K β} (D : Da r) (F : Das f) : Das (fc r f) := ⟨fun a => D.enc a.1 :: F.enc a.2, fun {H v a} ⟨w, ws, e, h, h2⟩ => by subst e; exact .cons (D.dp h) (F.dp h2), fun a => by simp [PyData.canLayAll0, D.lay, F.lay], max D.dep F.dep,
  fun a => by
    rw [PyData.depthAll]
    have h1 := D.dle a.1
    have h2 := F.dle a.2
    omega, fun a b => by
    obtain ⟨a1, a2⟩ := a
    obtain ⟨b1, b2⟩ := b
    simp [PyData.eqvAll, D.inj, F.inj]⟩
def da_pr {f : RF K α} (F : Das f) : Da (rPr f) := ⟨fun a => .tuple (F.enc a), fun {H v a} ⟨p, vs, e, hs, hf⟩ => by
    subst e
    exact .tup hs.sq (F.dp hf), fun a => by rw [PyData.canLay0]; exact F.lay a, F.dep + 1, fun a => by rw [PyData.depth]; exact Nat.succ_le_succ (F.dle a), fun a b => by rw [PyData.eqv]; exact F.inj a b⟩
theorem Da.sh (D : Da r) (h : D.dep ≤ 64) (a : α) : SeqAt.shaped (D.enc a) = true := by
  unfold SeqAt.shaped
  rw [D.lay a, decide_eq_true (Nat.le_trans (D.dle a) h)]
  rfl
theorem eqv_dec [DecidableEq α] (D : Da r) (a b : α) : PyData.eqv (D.enc a) (D.enc b) = decide (a = b) := by
  by_cases e : a = b
  · rw [decide_eq_true e]; exact (D.inj a b).mpr e
  · rw [decide_eq_false e]
    cases h : PyData.eqv (D.enc a) (D.enc b) with
    | false => rfl
    | true => exact (e ((D.inj a b).mp h)).elim
mutual
theorem dp_unhid {H : Hp} {M : Addr → Prop} : ∀ (d : PyData) (v : V), Dp K (hid H M) v d → Dp K H v d
  | .none, _, h => by cases h; exact .non
  | .bool b, _, h => by cases h; exact .bl b
  | .int b, _, h => by cases h; exact .int b
  | .str b, _, h => by cases h; exact .str b
  | .list ds, _, h => by
    cases h with
    | lst hs ha => exact .lst (lunS hs) (dpAll_unhid ds _ ha)
  | .tuple ds, _, h => by
    cases h with
    | tup hs ha => exact .tup (tun hs) (dpAll_unhid ds _ ha)
  | .dict _, _, h => by cases h
theorem dpAll_unhid {H : Hp} {M : Addr → Prop} : ∀ (ds : List PyData) (vs : List V), DpAll K (hid H M) vs ds → DpAll K H vs ds
  | [], _, h => by cases h; exact .nil
  | d :: ds, _, h => by
    cases h with
    | cons h1 h2 => exact .cons (dp_unhid d _ h1) (dpAll_unhid ds _ h2)
end
theorem ev_eqD [DecidableEq α] (D : Da r) {c d : PT α} (h1 : EV E sls ta r c) (h2 : EV E sls tb r d) (hd : D.dep ≤ 64 := by exact of_decide_eq_true rfl) : EV E sls (tOp (rEqD K) ta tb) rBl (fun k => c fun a => d fun b => k (decide (a = b))) :=
  ev_bin (R' := Int) (g := fun a b k => k (decide (a = b))) h1 h2 fun O σ H a b x y S hx hy k hk Q q =>
    ⟨D.enc a, D.enc b, dp_unhid _ _ (D.dp hx), dp_unhid _ _ (D.dp hy), D.sh hd a, D.sh hd b, by rw [eqv_dec]; exact q _ _ H hk (XX.refl S) rfl⟩
theorem ev_neD [DecidableEq α] (D : Da r) {c d : PT α} (h1 : EV E sls ta r c) (h2 : EV E sls tb r d) (hd : D.dep ≤ 64 := by exact of_decide_eq_true rfl) : EV E sls (tOp (rNeD K) ta tb) rBl (fun k => c fun a => d fun b => k (!decide (a = b))) :=
  ev_bin (R' := Int) (g := fun a b k => k (!decide (a = b))) h1 h2 fun O σ H a b x y S hx hy k hk Q q =>
    ⟨D.enc a, D.enc b, dp_unhid _ _ (D.dp hx), dp_unhid _ _ (D.dp hy), D.sh hd a, D.sh hd b, by rw [eqv_dec]; exact q _ _ H hk (XX.refl S) rfl⟩

/-! ### dicts -/
theorem rdK {H H' : Hp} {p : Addr} {vs : List (Key × V)} (w : Ew H H') (h : Rd H p (.dK vs)) : Rd H' p (.dK vs) := w.rd p _ True.intro h
theorem rdT {H H' : Hp} {p : Addr} {vs : List (List Key × V)} (w : Ew H H') (h : Rd H p (.dT vs)) : Rd H' p (.dT vs) := w.rd p _ True.intro h
theorem paired_dgetK [DecidableEq κ] {e : Ky κ} {H : Hp} {a : κ} : ∀ {vs : List (Key × V)} {d : List (κ × α)}, Paired (DkRel e.enc r H) vs d → (match dget d a with | none => valV vs (e.enc a) = none | some b => ∃ v, valV vs (e.enc a) = some v ∧ r.rp H v b)
  | _, _, .nil => rfl
  | p :: vs, q :: d, .cons h t => by
    unfold dget
    by_cases c : q.1 = a
    · rw [if_pos c]
      exact ⟨p.2, valV_pos (by rw [h.1, c]), h.2⟩
    · rw [if_neg c]
      have := paired_dgetK (a := a) t
      rw [valV_neg (fun z => c (e.inj _ _ (by rw [← h.1, z])))]
      exact this
theorem paired_dgetT [DecidableEq κ] {e : Kt κ} {H : Hp} {a : κ} : ∀ {vs : List (List Key × V)} {d : List (κ × α)}, Paired (DtRel e.enc r H) vs d → (match dget d a with | none => valV vs (e.enc a) = none | some b => ∃ v, valV vs (e.enc a) = some v ∧ r.rp H v b)
  | _, _, .nil => rfl
  | p :: vs, q :: d, .cons h t => by
    unfold dget
    by_cases c : q.1 = a
    · rw [if_pos c]
      exact ⟨p.2, valV_pos (by rw [h.1, c]), h.2⟩
    · rw [if_neg c]
      have := paired_dgetT (a := a) t
      rw [valV_neg (fun z => c (e.inj _ _ (by rw [← h.1, z])))]
      exact this
/-- a value that is a key -/
structure KyR (r : R K κ) (e : Ky κ) : Prop where
  is : ∀ {H v a}, r.rp H v a → v = kV (e.enc a)
theorem kyr_int : KyR (rInt (K := K)) kyI := ⟨fun h => h⟩
theorem kyr_str : KyR (rStr (K := K)) kyS := ⟨fun h => h⟩
structure KtR (r : R K κ) (e : Kt κ) : Prop where
  is : ∀ {H v a}, r.rp H v a → ∃ p, v = .ref p ∧ (H p = some (.tup ((e.enc a).map kV)) ∨ ∃ (o : Obj) (its : Array Value) (n : Nat), K.lookup p = some o ∧ o.cls = .type "tuple" ∧ o.data = .seq its n ∧ its.size ≤ sizeLine ∧ Vals ((e.enc a).map kV) its.toList)
theorem ev_dget [DecidableEq κ] {e : Ky κ} {rk : R K κ} {c : PT (List (κ × α))} {d : PT κ} (R' : KyR rk e) (h : ERd E sls te e r c) (hi : EV E sls ta rk d) : EV E sls (tDGet te ta) r (fun k => c fun xs => d fun i => ∃ a, dget xs i = some a ∧ k a) := fun O σ H S k hk Q q =>
  h _ σ H S _ hk _ fun xs p vs H1 ka x1 hs hp hl => hi _ σ H1 (S.ext x1) _ ka _ fun i y H2 ⟨a, ea, kb⟩ x2 hy => by
    have hp2 : Paired (DkRel e.enc r (hid H2 O)) vs xs := pmap hp fun _ _ z => ⟨z.1, (S.ext x1).rep x2 z.2⟩
    have := paired_dgetK (a := i) hp2
    rw [ea] at this
    obtain ⟨v, ev, hv⟩ := this
    refine ⟨p, v, rfl, .inl ⟨vs, e.enc i, (rd_hid.mp (rdK x2.1.ew hs)).2, R'.is hy, ev.symm⟩, q a v H2 kb (x1.trans x2) hv⟩
theorem ev_din [DecidableEq κ] {e : Ky κ} {rk : R K κ} {c : PT (List (κ × α))} {d : PT κ} (R' : KyR rk e) (hi : EV E sls ta rk d) (h : ERd E sls te e r c) : EV E sls (tDIn ta te) rBl (fun k => d fun i => c fun xs => k (dget xs i).isSome) := fun O σ H S k hk Q q =>
  hi _ σ H S _ hk _ fun i y H1 ka x1 hy => h _ σ H1 (S.ext x1) _ ka _ fun xs p vs H2 kb x2 hs hp hl => by
    have := paired_dgetK (a := i) hp
    refine ⟨p, valV vs (e.enc i), rfl, .inl ⟨vs, e.enc i, (rd_hid.mp hs).2, R'.is ((S.ext x1).rep x2 hy), rfl⟩, q _ _ H2 kb (x1.trans x2) (show V.bl _ = V.bl _ by
      cases g : dget xs i with
      | none => rw [g] at this; rw [this]; rfl
      | some b => rw [g] at this; obtain ⟨v, ev, _⟩ := this; rw [ev]; rfl)⟩
theorem ev_dni [DecidableEq κ] {e : Ky κ} {rk : R K κ} {c : PT (List (κ × α))} {d : PT κ} (R' : KyR rk e) (hi : EV E sls ta rk d) (h : ERd E sls te e r c) : EV E sls (tDNotIn ta te) rBl (fun k => d fun i => c fun xs => k (!(dget xs i).isSome)) := fun O σ H S k hk Q q =>
  hi _ σ H S _ hk _ fun i y H1 ka x1 hy => h _ σ H1 (S.ext x1) _ ka _ fun xs p vs H2 kb x2 hs hp hl => by
    have := paired_dgetK (a := i) hp
    refine ⟨p, valV vs (e.enc i), rfl, .inl ⟨vs, e.enc i, (rd_hid.mp hs).2, R'.is ((S.ext x1).rep x2 hy), rfl⟩, q _ _ H2 kb (x1.trans x2) (show V.bl _ = V.bl _ by
      cases g : dget xs i with
      | none => rw [g] at this; rw [this]; rfl
      | some b => rw [g] at this; obtain ⟨v, ev, _⟩ := this; rw [ev]; rfl)⟩
/-- keys that are tuples, shown as they are made -/
structure KtX (f : RF K κ) (e : Kt κ) : Prop where
  is : ∀ {H vs a}, f.rp H vs a → vs = (e.enc a).map kV
theorem ktx_ii {μ : Type} {rk : R K κ} {rm : R K μ} {ek : Ky κ} {em : Ky μ} (h1 : KyR rk ek) (h2 : KyR rm em) : KtX (fc rk (f1 rm)) (ktP ek em) := ⟨fun {H vs a} ⟨v, ws, e, hv, ⟨w, e2, hw⟩⟩ => by
  subst e e2
  rw [h1.is hv, h2.is hw]
  rfl⟩
theorem ev_dtget [DecidableEq κ] {e : Kt κ} {f : RF K κ} {c : PT (List (κ × α))} {tk : TA} {d : PT κ} (R' : KtX f e) (h : ERdt E sls te e r c) (hi : EA E sls tk f d) (hn : f.n ≤ 1000 := by exact of_decide_eq_true rfl) : EV E sls (tDGet te (tTup tk)) r (fun k => c fun xs => d fun i => ∃ a, dget xs i = some a ∧ k a) := fun O σ H S k hk Q q =>
  h _ σ H S _ hk _ fun xs p vs H1 ka x1 hs hp hl => hi _ σ H1 (S.ext x1) _ ka _ fun i ys H2 ⟨a, ea, kb⟩ x2 hy => by
    have hp2 : Paired (DtRel e.enc r (hid H2 O)) vs xs := pmap hp fun _ _ z => ⟨z.1, (S.ext x1).rep x2 z.2⟩
    refine ⟨by rw [f.len hy]; exact Nat.le_trans hn (by decide), fun P nP => ?_⟩
    have S2 := (S.ext x1).ext x2
    have n := S2.new (u := .tup ys) nP
    have hp3 : Paired (DtRel e.enc r (hid (upd H2 P (.tup ys)) O)) vs xs := pmap hp2 fun _ _ z => ⟨z.1, S2.rep n.1 z.2⟩
    have := paired_dgetT (a := i) hp3
    rw [ea] at this
    obtain ⟨v, ev, hv⟩ := this
    have hs3 := rdT n.1.1.ew (rdT x2.1.ew hs)
    exact ⟨p, v, rfl, .inr ⟨vs, e.enc i, P, (rd_hid.mp hs3).2, rfl, by rw [upd_same, R'.is hy], ev.symm⟩, q a v _ kb ((x1.trans x2).trans n.1) hv⟩
end
end Nz

/-! Nz4: what is walked; comprehensions; locks; calls of own defs. -/
namespace Nz
open PySem L2
variable {K : PySem.W.Frag} {O : Addr → Prop} {E : Eff} {sls : List (Sl K)}
section
variable {α β γ κ : Type} {te ta tb tc : TE} {r : R K α} {s : R K β} {c : PT α} {d : PT β}

/-! ### what is walked: F, B: the heap in which the items, the walked thing stand -/
structure IW (F B : Hp) (r : R K α) (xs : List α) (J : It) : Prop where
  len : xs.length ≤ big
  go : ∀ i H3, i < xs.length → Ef B H3 → J.go i H3
  stop : ∀ H3, Ef B H3 → J.stop xs.length H3
  yld : ∀ (O' : Addr → Prop) i H3 x H4, i < xs.length → Ef B H3 → (∀ a, O' a → ∃ u, H3 a = some u ∧ NT u) → Ew F (hid H3 O') → J.yld i H3 x H4 → Ex H3 H4 ∧ ∃ a, xs[i]? = some a ∧ r.rp (hid H4 O') x a
variable (E sls)
/-- walked while all that one does not own stands; while nothing is changed but what is hidden -/
def IV (wi : TI) (r : R K α) (c : PT (List α)) : Prop := ∀ O σ H, SL O E sls σ H → ∀ k : List α → Prop, c k → ∀ Rr : It → Hp → Prop, (∀ xs J H2, k xs → XX E H H2 → IW (hid H2 O) (hid H2 O) r xs J → Rr J H2) → wi σ H Rr
def IR (wi : TI) (r : R K α) (c : PT (List α)) : Prop := ∀ O σ H, SL O E sls σ H → ∀ k : List α → Prop, c k → ∀ Rr : It → Hp → Prop, (∀ xs J H2, k xs → XX E H H2 → IW (hid H2 O) (hid H2 E.M) r xs J → Rr J H2) → wi σ H Rr
/-- no own slot is new -/
def Hs (sls sls' : List (Sl K)) : Prop := ∀ (j : Nat) (sl : Sl K), sls'[j]? = some sl → sl.hp = true → ∃ sl0 : Sl K, sls[j]? = some sl0 ∧ sl0.hp = true
theorem Hs.refl (sls : List (Sl K)) : Hs sls sls := fun j sl h hp => ⟨sl, h, hp⟩
theorem Hs.trans {a b c : List (Sl K)} (h : Hs a b) (h' : Hs b c) : Hs a c := fun j sl e hp => let ⟨s, e1, h1⟩ := h' j sl e hp; h j s e1 h1
theorem Hs.set {sls : List (Sl K)} {i : Nat} {sl : Sl K} (h : sl.hp = false) : Hs sls (sls.set i sl) := fun j s e hp => by
  by_cases c : j = i
  · subst c
    by_cases hl : j < sls.length
    · rw [List.getElem?_set_self hl] at e
      cases e
      rw [h] at hp
      cases hp
    · rw [List.getElem?_eq_none (by simpa using hl)] at e
      cases e
  · rw [List.getElem?_set_ne (Ne.symm c)] at e
    exact ⟨s, e, hp⟩
/-- a target: js the slots that it stores -/
def GT (g : TG) (r : R K α) (js : List Nat) (f : α → List (Sl K)) : Prop := ∀ O σ H a v, SL O E sls σ H → r.rp (hid H O) v a → ∀ Q : L2.St → Hp → Prop,
  (∀ σ', SL O E (f a) σ' H → Hs sls (f a) → (∀ vs, (∀ j ∈ js, j ∈ vs) → wipe σ' vs = wipe σ vs) → (∀ i, i ∉ js → σ'[i]? = σ[i]?) → Q σ' H) → g v σ H Q
def GTs (g : TGs) (f : RF K α) (js : List Nat) (h : α → List (Sl K)) : Prop := ∀ O σ H a vs, SL O E sls σ H → f.rp (hid H O) vs a → ∀ Q : L2.St → Hp → Prop,
  (∀ σ', SL O E (h a) σ' H → Hs sls (h a) → (∀ vs, (∀ j ∈ js, j ∈ vs) → wipe σ' vs = wipe σ vs) → (∀ i, i ∉ js → σ'[i]? = σ[i]?) → Q σ' H) → g vs σ H Q
variable {E sls}
theorem ir_iv {wi : TI} {c : PT (List α)} (h : IV E sls wi r c) : IR E sls wi r c := fun O σ H S k hk Rr q => h _ σ H S k hk Rr fun xs J H2 ka x w =>
  q xs J H2 ka x ⟨w.len, fun i H3 hi e => w.go i H3 hi ((ef_hid_le S.mo).trans e), fun H3 e => w.stop H3 ((ef_hid_le S.mo).trans e), fun O' i H3 y H4 hi e od ef => w.yld O' i H3 y H4 hi ((ef_hid_le S.mo).trans e) od ef⟩
/-- a list's items -/
theorem ef_un {H : Hp} {M : Addr → Prop} : Ef (hid H M) H := ⟨⟨fun a u _ q => (rd_hid.mp q).2, fun a xs q => (of_hid q).2⟩, fun a o u q => (of_hid q).2, fun a u q => ⟨u, (of_hid q).2⟩⟩
theorem ew_un {H H' : Hp} {M : Addr → Prop} (h : Ex (hid H M) (hid H' M)) : Ef (hid H M) H' := h.ef.trans ef_un
theorem iw_list {F B H2 : Hp} {p : Addr} {vs : List V} {xs : List α} (hs : Rd B p (.lst vs)) (hp : Paired (r.rp F) vs xs) (hl : vs.length ≤ big) : IW F B r xs (Itl K p) := by
  have e := hp.length
  refine ⟨by omega, fun i H3 hi w => ⟨vs, vs[i]'(by omega), (.inl (rdL w.ew hs)), by simp [show i < vs.length by omega]⟩, fun H3 w => ⟨vs, (.inl (rdL w.ew hs)), by omega⟩, fun O' i H3 x H4 hi w od wf y => ?_⟩
  obtain ⟨e4, y⟩ := y
  subst e4
  refine ⟨Ex.refl _, xs[i], by simp [hi], ?_⟩
  obtain ⟨v, e1, hv⟩ := paired_get' hp (i := i) (a := xs[i]) (by simp [hi])
  have := y vs ((.inl (rdL w.ew hs)))
  rw [e1] at this
  cases this
  exact r.mono wf hv
theorem iw_tup {F B : Hp} {p : Addr} {vs : List V} {xs : List α} (hs : TpX K B p vs) (hp : Paired (r.rp F) vs xs) (hl : vs.length ≤ big) : IW F B r xs (Itt K p) := by
  have e := hp.length
  refine ⟨by omega, fun i H3 hi w => ⟨vs, vs[i]'(by omega), (hs.mono w.ew).sq, by simp [show i < vs.length by omega]⟩, fun H3 w => ⟨vs, (hs.mono w.ew).sq, by omega⟩, fun O' i H3 x H4 hi w od wf y => ?_⟩
  obtain ⟨e4, y⟩ := y
  subst e4
  refine ⟨Ex.refl _, xs[i], by simp [hi], ?_⟩
  obtain ⟨v, e1, hv⟩ := paired_get' hp (i := i) (a := xs[i]) (by simp [hi])
  have := y vs (hs.mono w.ew).sq
  rw [e1] at this
  cases this
  exact r.mono wf hv
theorem iw_range {F B : Hp} {lo : Int} {n : Nat} (hn : n ≤ big) : IW (K := K) F B rInt ((List.range n).map fun i => lo + ((i : Nat) : Int)) (Itr lo n) := by
  refine ⟨by simpa using hn, fun i H3 hi _ => by simp at hi; exact hi, fun H3 _ => by simp [Itr], fun O' i H3 x H4 hi w od wf y => ?_⟩
  obtain ⟨e4, y⟩ := y
  subst e4 y
  have hi' : i < n := by simpa using hi
  exact ⟨Ex.refl _, lo + (i : Int), by simp [hi'], rfl⟩
theorem iw_pair {F B : Hp} {p : Addr} {xs : List α} {ys : List β} {zs : List (α × β)} {r : R K α} {s : R K β} {J : It} (hl : zs.length ≤ big)
    (go : ∀ i H3, i < zs.length → Ef B H3 → J.go i H3) (stop : ∀ H3, Ef B H3 → J.stop zs.length H3)
    (y : ∀ i H3 v H4, i < zs.length → Ef B H3 → J.yld i H3 v H4 → ∃ T x y, v = .ref T ∧ H3 T = none ∧ H4 = upd H3 T (.tup [x, y]) ∧ ∃ z, zs[i]? = some z ∧ r.rp F x z.1 ∧ s.rp F y z.2) : IW F B (rPr (fc r (f1 s))) zs J := by
  refine ⟨hl, go, stop, fun O' i H3 x H4 hi w od wf yl => ?_⟩
  obtain ⟨T, v1, v2, e1, nT, e4, z, ez, h1, h2⟩ := y i H3 x H4 hi w yl
  subst e1 e4
  have nO : ¬ O' T := fun h => by
    obtain ⟨u, hu, _⟩ := od T h
    rw [nT] at hu; cases hu
  have ex := (Ex.new (o := .tup [v1, v2]) nT)
  have w4 := wf.trans (ex.hid O').ew
  exact ⟨ex, z, ez, T, [v1, v2], rfl, .inl (by rw [hid_out nO]; exact upd_same), v1, [v2], rfl, r.mono w4 h1, v2, rfl, s.mono w4 h2⟩
theorem iv_list {c : PT (List α)} (h : EV E sls te (rLst r) c) : IV E sls (iList K te) r c := fun O σ H S k hk Rr q =>
  h _ σ H S k hk _ fun xs v H2 ka x ⟨p, vs, e, hs, hp, hl⟩ => ⟨p, e, ⟨vs, lun hs⟩, q xs _ H2 ka x (iw_list (H2 := H2) hs hp hl)⟩
theorem ir_list {c : PT (List α)} (h : ERl E sls te r c) : IR E sls (iList K te) r c := fun O σ H S k hk Rr q =>
  h _ σ H S k hk _ fun xs p vs H2 ka x hs hp hl => ⟨p, rfl, ⟨vs, lun hs⟩, q xs _ H2 ka x (iw_list (H2 := H2) hs hp hl)⟩
theorem iv_tup {c : PT (List α)} (h : EV E sls te (rTup r) c) : IV E sls (iTup K te) r c := fun O σ H S k hk Rr q =>
  h _ σ H S k hk _ fun xs v H2 ka x ⟨p, vs, e, hs, hp, hl⟩ => ⟨p, e, ⟨vs, hs.of_hid.sq⟩, q xs _ H2 ka x (iw_tup hs hp hl)⟩
theorem big62 {n : Int} (h : n ≤ 100000) : n < 2 ^ 62 := by omega
theorem iv_rng1 {c : PT Int} (h : EV E sls te rInt c) : IV E sls (iRng1 (tCons te tNil)) rInt (fun k => c fun n => (-100000 ≤ n ∧ n ≤ 100000) ∧ k (rg n)) := fun O σ H S k hk Rr q =>
  h _ σ H S _ hk _ fun n v H2 ka x hv => ⟨n, by rw [show v = .int n from hv], by omega, by omega, q _ _ H2 ka.2 x (by
    have := iw_range (K := K) (F := hid H2 O) (B := hid H2 O) (lo := 0) (n := n.toNat) (by show _ ≤ 100000; omega)
    simpa [rg] using this)⟩
theorem iv_rng2 {c d : PT Int} (h : EV E sls te rInt c) (h2 : EV E sls ta rInt d) : IV E sls (iRng2 (tCons te (tCons ta tNil))) rInt (fun k => c fun a => d fun b => (-100000 ≤ a ∧ a ≤ 100000 ∧ -100000 ≤ b ∧ b ≤ 100000 ∧ b - a ≤ 100000) ∧ k (rg2 a b)) := fun O σ H S k hk Rr q =>
  h _ σ H S _ hk _ fun a v H1 ka x1 hv => h2 _ σ H1 (S.ext x1) _ ka _ fun b w H2 kb x2 hw => ⟨a, b, by rw [show v = .int a from hv, show w = .int b from hw], by omega, q _ _ H2 kb.2 (x1.trans x2) (iw_range (by show _ ≤ 100000; omega))⟩
def enumZ (xs : List α) : List (Int × α) := (List.range xs.length).zip xs |>.map fun p => ((p.1 : Int), p.2)
theorem enumZ_len (xs : List α) : (enumZ xs).length = xs.length := by unfold enumZ; simp
theorem enumZ_get (xs : List α) (i : Nat) (a : α) (h : xs[i]? = some a) : (enumZ xs)[i]? = some ((i : Int), a) := by
  obtain ⟨h1, h2⟩ := List.getElem?_eq_some_iff.mp h
  unfold enumZ
  simp [List.getElem?_zip_eq_some, h, h1, h2]
theorem iw_enumL {F B : Hp} {p : Addr} {vs : List V} {xs : List α} (hs : Rd B p (.lst vs)) (hp : Paired (r.rp F) vs xs) (hl : vs.length ≤ big) : IW F B (rPr (fc rInt (f1 r))) (enumZ xs) (Ite K p) := by
  have e := hp.length
  refine iw_pair (p := p) (xs := []) (ys := xs) (by rw [enumZ_len]; omega) (fun i H3 hi w => ?_) (fun H3 w => ⟨vs, (.inl (rdL w.ew hs)), by rw [enumZ_len]; omega⟩) (fun i H3 v H4 hi w y => ?_)
  · rw [enumZ_len] at hi
    exact ⟨vs, vs[i]'(by omega), (.inl (rdL w.ew hs)), by simp [show i < vs.length by omega]⟩
  · rw [enumZ_len] at hi
    obtain ⟨T, x, h1, h2, h3, h4⟩ := y
    obtain ⟨v, e1, hv⟩ := paired_get' hp (i := i) (a := xs[i]) (by simp [hi])
    have := h4 vs ((.inl (rdL w.ew hs)))
    rw [e1] at this
    cases this
    exact ⟨T, _, _, h1, h2, h3, ((i : Int), xs[i]), enumZ_get xs i _ (by simp [hi]), rfl, hv⟩
theorem iv_enumL {c : PT (List α)} (h : EV E sls te (rLst r) c) : IV E sls (iEnum K (tCons te tNil)) (rPr (fc rInt (f1 r))) (fun k => c fun xs => k (enumZ xs)) := fun O σ H S k hk Rr q =>
  h _ σ H S _ hk _ fun xs v H2 ka x ⟨p, vs, e, hs, hp, hl⟩ => ⟨p, vs, by rw [e], lun hs, q _ _ H2 ka x (iw_enumL hs hp hl)⟩
theorem ir_enumL {c : PT (List α)} (h : ERl E sls te r c) : IR E sls (iEnum K (tCons te tNil)) (rPr (fc rInt (f1 r))) (fun k => c fun xs => k (enumZ xs)) := fun O σ H S k hk Rr q =>
  h _ σ H S _ hk _ fun xs p vs H2 ka x hs hp hl => ⟨p, vs, rfl, lun hs, q _ _ H2 ka x (iw_enumL hs hp hl)⟩
theorem iw_zipT {F B : Hp} {p p2 : Addr} {vs vs2 : List V} {xs : List α} {ys : List β} (hs : TpX K B p vs) (hp : Paired (r.rp F) vs xs) (hl : vs.length ≤ big) (hs2 : TpX K B p2 vs2) (hp2 : Paired (s.rp F) vs2 ys) : IW F B (rPr (fc r (f1 s))) (xs.zip ys) (RZ.ItzT K p p2) := by
  have e := hp.length
  have e2 := hp2.length
  refine iw_pair (p := p) (xs := xs) (ys := ys) (by rw [List.length_zip]; omega) (fun i H3 hi w => ?_) (fun H3 w => ⟨vs, vs2, (hs.mono w.ew).sq, (hs2.mono w.ew).sq, by rw [List.length_zip]; omega⟩) (fun i H3 v H4 hi w y => ?_)
  · rw [List.length_zip] at hi
    exact ⟨vs, vs2, vs[i]'(by omega), vs2[i]'(by omega), (hs.mono w.ew).sq, (hs2.mono w.ew).sq, by simp [show i < vs.length by omega], by simp [show i < vs2.length by omega]⟩
  · rw [List.length_zip] at hi
    obtain ⟨T, x, z, h1, h2, h3, h4, h5⟩ := y
    obtain ⟨v, e1, hv⟩ := paired_get' hp (i := i) (a := xs[i]'(by omega)) (by simp [show i < xs.length by omega])
    obtain ⟨v2, e3, hv2⟩ := paired_get' hp2 (i := i) (a := ys[i]'(by omega)) (by simp [show i < ys.length by omega])
    have q1 := h4 vs (hs.mono w.ew).sq
    have q2 := h5 vs2 (hs2.mono w.ew).sq
    rw [e1] at q1
    rw [e3] at q2
    cases q1
    cases q2
    exact ⟨T, _, _, h1, h2, h3, (xs[i]'(by omega), ys[i]'(by omega)), by simp [List.getElem?_zip_eq_some, show i < xs.length by omega, show i < ys.length by omega], hv, hv2⟩
theorem iw_zipL {F B : Hp} {p p2 : Addr} {vs vs2 : List V} {xs : List α} {ys : List β} (hs : Rd B p (.lst vs)) (hp : Paired (r.rp F) vs xs) (hl : vs.length ≤ big) (hs2 : Rd B p2 (.lst vs2)) (hp2 : Paired (s.rp F) vs2 ys) : IW F B (rPr (fc r (f1 s))) (xs.zip ys) (Itz K p p2) := by
  have e := hp.length
  have e2 := hp2.length
  refine iw_pair (p := p) (xs := xs) (ys := ys) (by rw [List.length_zip]; omega) (fun i H3 hi w => ?_) (fun H3 w => ⟨vs, vs2, (.inl (rdL w.ew hs)), (.inl (rdL w.ew hs2)), by rw [List.length_zip]; omega⟩) (fun i H3 v H4 hi w y => ?_)
  · rw [List.length_zip] at hi
    exact ⟨vs, vs2, vs[i]'(by omega), vs2[i]'(by omega), (.inl (rdL w.ew hs)), (.inl (rdL w.ew hs2)), by simp [show i < vs.length by omega], by simp [show i < vs2.length by omega]⟩
  · rw [List.length_zip] at hi
    obtain ⟨T, x, z, h1, h2, h3, h4, h5⟩ := y
    obtain ⟨v, e1, hv⟩ := paired_get' hp (i := i) (a := xs[i]'(by omega)) (by simp [show i < xs.length by omega])
    obtain ⟨v2, e3, hv2⟩ := paired_get' hp2 (i := i) (a := ys[i]'(by omega)) (by simp [show i < ys.length by omega])
    have q1 := h4 vs ((.inl (rdL w.ew hs)))
    have q2 := h5 vs2 ((.inl (rdL w.ew hs2)))
    rw [e1] at q1
    rw [e3] at q2
    cases q1
    cases q2
    exact ⟨T, _, _, h1, h2, h3, (xs[i]'(by omega), ys[i]'(by omega)), by simp [List.getElem?_zip_eq_some, show i < xs.length by omega, show i < ys.length by omega], hv, hv2⟩
theorem iv_zipT {c : PT (List α)} {d : PT (List β)} (h : EV E sls ta (rTup r) c) (h2 : EV E sls tb (rTup s) d) : IV E sls (RZ.iZipA K (tCons ta (tCons tb tNil))) (rPr (fc r (f1 s))) (fun k => c fun xs => d fun ys => k (xs.zip ys)) := fun O σ H S k hk Rr q =>
  h _ σ H S _ hk _ fun xs v H1 ka x1 hv => h2 _ σ H1 (S.ext x1) _ ka _ fun ys w H2 kb x2 ⟨p2, vs2, e2, hs2, hp2, hl2⟩ => by
    obtain ⟨p1, vs1, e1, hs1, hp1, hl1⟩ := (S.ext x1).rep x2 hv
    exact ⟨p1, p2, vs1, vs2, by rw [e1, e2], .inr ⟨hs1.of_hid.sq, hs2.of_hid.sq, q _ _ H2 kb (x1.trans x2) (iw_zipT hs1 hp1 hl1 hs2 hp2)⟩⟩
theorem ir_zipL {c : PT (List α)} {d : PT (List β)} (h : ERl E sls ta r c) (h2 : ERl E sls tb s d) : IR E sls (RZ.iZipA K (tCons ta (tCons tb tNil))) (rPr (fc r (f1 s))) (fun k => c fun xs => d fun ys => k (xs.zip ys)) := fun O σ H S k hk Rr q =>
  h _ σ H S _ hk _ fun xs p1 vs1 H1 ka x1 hs1 hp1 hl1 => h2 _ σ H1 (S.ext x1) _ ka _ fun ys p2 vs2 H2 kb x2 hs2 hp2 hl2 =>
    ⟨p1, p2, vs1, vs2, rfl, .inl ⟨lun (rdL x2.1.ew hs1), lun hs2, q _ _ H2 kb (x1.trans x2) (iw_zipL (rdL x2.1.ew hs1) (pmap hp1 fun _ _ z => (S.ext x1).rep x2 z) hl1 hs2 hp2)⟩⟩
theorem iv_zipL {c : PT (List α)} {d : PT (List β)} (h : EV E sls ta (rLst r) c) (h2 : EV E sls tb (rLst s) d) : IV E sls (RZ.iZipA K (tCons ta (tCons tb tNil))) (rPr (fc r (f1 s))) (fun k => c fun xs => d fun ys => k (xs.zip ys)) := fun O σ H S k hk Rr q =>
  h _ σ H S _ hk _ fun xs v H1 ka x1 hv => h2 _ σ H1 (S.ext x1) _ ka _ fun ys w H2 kb x2 ⟨p2, vs2, e2, hs2, hp2, hl2⟩ => by
    obtain ⟨p1, vs1, e1, hs1, hp1, hl1⟩ := (S.ext x1).rep x2 hv
    exact ⟨p1, p2, vs1, vs2, by rw [e1, e2], .inl ⟨lun hs1, lun hs2, q _ _ H2 kb (x1.trans x2) (iw_zipL hs1 hp1 hl1 hs2 hp2)⟩⟩

/-! ### targets -/
theorem gt_name {j : Nat} : GT E sls (gName j) r [j] (fun a => sls.set j (slV r a)) := fun O σ H a v S hv Q q =>
  q _ (S.set ⟨v, rfl, hv⟩) (Hs.set rfl) (fun vs h => wipe_set (h j (by simp))) (fun i hi => List.getElem?_set_ne (fun e => hi (by simp [e])))
theorem gts_nil {r : R K α} {g : TG} {js : List Nat} {h : α → List (Sl K)} (hg : GT E sls g r js h) : GTs E sls (gCons g gNil) (f1 r) js h := fun O σ H a vs S ⟨v, e, hv⟩ Q q =>
  ⟨v, [], e, hg _ σ H a v S hv _ fun σ' S' hs h1 h2 => ⟨rfl, q σ' S' hs h1 h2⟩⟩
theorem gts_cons {g : TG} {gs : TGs} {f : RF K β} {js ks : List Nat} {h : α → List (Sl K)} {h' : α → β → List (Sl K)} (hg : GT E sls g r js h) (hs : ∀ a, GTs E (h a) gs f ks (h' a)) : GTs E sls (gCons g gs) (fc r f) (js ++ ks) (fun p => h' p.1 p.2) :=
  fun O σ H a vs S ⟨v, ws, e, hv, hw⟩ Q q => ⟨v, ws, e, hg _ σ H a.1 v S hv _ fun σ1 S1 g1 h1 h2 => hs a.1 _ σ1 H a.2 ws S1 hw _ fun σ2 S2 g2 h3 h4 =>
    q σ2 S2 (g1.trans g2) (fun us hu => (h3 us fun j hj => hu j (List.mem_append_right _ hj)).trans (h1 us fun j hj => hu j (List.mem_append_left _ hj)))
      (fun i hi => (h4 i fun z => hi (List.mem_append_right _ z)).trans (h2 i fun z => hi (List.mem_append_left _ z)))⟩
theorem gt_tup {gs : TGs} {f : RF K α} {n : Nat} {js : List Nat} {h : α → List (Sl K)} (hn : f.n = n) (hs : GTs E sls gs f js h) : GT E sls (gTup K n gs) (rPr f) js h := fun O σ H a v S ⟨p, vs, e, ht, hf⟩ Q q =>
  ⟨p, vs, e, ht.of_hid.sq, by rw [f.len hf, hn], hs _ σ H a vs S hf Q q⟩

/-! ### comprehensions -/
theorem compT_nil {t : α → PT Bool} {f : α → PT β} {k : List β → Prop} : compT [] t f k = k [] := rfl
theorem compT_cons {x : α} {xs : List α} {t : α → PT Bool} {f : α → PT β} {k : List β → Prop} : compT (x :: xs) t f k = t x fun b => if b = true then f x fun y => compT xs t f fun ys => k (y :: ys) else compT xs t f k := rfl
theorem drop_at {xs : List α} {i : Nat} {a : α} (h : xs[i]? = some a) : xs.drop i = a :: xs.drop (i + 1) := by
  obtain ⟨h1, h2⟩ := List.getElem?_eq_some_iff.mp h
  rw [List.drop_eq_getElem_cons h1, h2]
theorem SL.withD {σ : L2.St} {H2 H3 : Hp} {D : Addr} (S2 : SL O E sls σ H2) (nD : H2 D = none) (x : XX E H2 H3) (hD : ∃ u, H3 D = some u ∧ NT u) : SL (wD O D) E sls σ H3 := by
  have mo : ∀ a, E.M a → wD O D a := fun a h => .inl (S2.mo a h)
  have S3 := S2.ext x
  refine ⟨pmap S2.sl fun o sl h => sl.mono ?_ x.1.ef h, fun a h => ?_, mo, x.2⟩
  · rw [← hid_wD nD]
    exact (x.ex mo).ew
  · rcases h with h | rfl
    · exact S3.od a h
    · exact hD
theorem el_lc {wi : TI} {g : TG} {tt : TT} {vs js : List Nat} {rx : R K γ} {cx : PT (List γ)} {h : γ → List (Sl K)} {t : γ → PT Bool} {fe : γ → PT α}
    (hi : IR E sls wi rx cx) (hg : GT E (wipeS sls vs) g rx js h) (hj : ∀ j ∈ js, j ∈ vs) (ht : ∀ a, ET E (h a) tt (t a)) (he : ∀ a, EV E (h a) te r (fe a)) :
    EL E sls (tLc wi g tt te vs) r (fun k => cx fun xs => compT xs t fe k) := fun O σ H S k hk Q q =>
  hi _ σ H S _ hk _ fun xs J H2 ka x2 w D nD => by
    have S2 := S.ext x2
    have nDO : ¬ O D := S2.nOn nD
    have nDM : ¬ E.M D := fun z => nDO (S2.mo D z)
    have mo : ∀ a, E.M a → wD O D a := fun a h => .inl (S2.mo a h)
    refine ⟨fun i m H3 => m = xs.length - i ∧ i ≤ xs.length ∧ XX E H2 H3 ∧ ∃ acc ys, H3 D = some (.lst acc) ∧ Paired (r.rp (hid H3 (wD O D))) acc ys ∧ ys.length ≤ i ∧ compT (xs.drop i) t fe fun zs => k (ys ++ zs), ⟨xs.length, by simp, Nat.zero_le _, (S2.new nD).1, [], [], upd_same, .nil, Nat.le_refl _, by simpa using ka⟩, ?_⟩
    rintro i m H3 ⟨rfl, hi, x3, acc, ys, hD, hacc, hys, kc⟩
    have S3 := S2.withD nD x3 ⟨_, hD, fun _ z => by cases z⟩
    by_cases hlt : i < xs.length
    · refine .inr ⟨w.go i H3 hlt (ew_un x3.1), fun H' => xs.length - (i + 1) < xs.length - i ∧ XX E H2 H' ∧ ∃ acc ys, H' D = some (.lst acc) ∧ Paired (r.rp (hid H' (wD O D))) acc ys ∧ ys.length ≤ i + 1 ∧ compT (xs.drop (i + 1)) t fe fun zs => k (ys ++ zs), fun H' ⟨h1, h2, h3⟩ => ⟨xs.length - (i + 1), h1, rfl, hlt, h2, h3⟩, fun v H4 y => ?_⟩
      obtain ⟨ex, a, ea, hv⟩ := w.yld (wD O D) i H3 v H4 hlt (ew_un x3.1) S3.od (by rw [← hid_wD nD]; exact (x3.ex mo).ew) y
      rw [drop_at ea, compT_cons] at kc
      have x4 : XX E H3 H4 := .of_ex ex S3.inv
      have S4 := S3.ext x4
      have acc4 := pmap hacc fun _ _ z => S3.rep x4 z
      refine hg _ (wipe σ vs) H4 a v (S4.wipe vs) hv _ fun σ5 S5 _ h1 h2 => ⟨?_, ?_⟩
      · rw [h1 vs hj, wipe_wipe σ vs vs fun _ z => z]
      refine ht a _ σ5 H4 S5 _ kc _ fun b H5 kb x5 => ?_
      have acc5 := pmap acc4 fun _ _ z => S4.rep x5 z
      have hD5 := x5.keep (x4.keep hD nDM) nDM
      cases b with
      | false =>
        rw [if_neg Bool.false_ne_true] at kb ⊢
        exact ⟨by omega, (x3.trans x4).trans x5, acc, ys, hD5, acc5, Nat.le_succ_of_le hys, kb⟩
      | true =>
        rw [if_pos rfl] at kb ⊢
        refine he a _ σ5 H5 (S5.ext x5) _ kb _ fun z u H6 kz x6 hu => ?_
        have hD6 := x6.keep hD5 nDM
        have x26 := ((x3.trans x4).trans x5).trans x6
        have acc6 := pmap acc5 fun _ _ z => (S4.ext x5).rep x6 z
        have al := hacc.length
        have wl : xs.length ≤ 100000 := w.len
        refine ⟨acc, hD6, lt_line (show acc.length < 100000 by omega), by omega, x26.put nD nDM (fun φ z => by rw [hD6] at z; cases z), acc ++ [u], ys ++ [z], upd_same, ?_, by simp; omega, by simpa using kz⟩
        rw [hid_put]
        exact paired_app acc6 (.cons hu .nil)
    · have e : i = xs.length := by omega
      subst e
      rw [List.drop_length, compT_nil, List.append_nil] at kc
      exact .inl ⟨w.stop H3 (ew_un x3.1), q ys D acc H3 kc (x2.trans x3) (x2.back nD) hD hacc (by have := hacc.length; have := w.len; omega)⟩
theorem et_yes : ET E sls tYes (fun k => k true) := fun O σ H S k hk Q q => q true H hk (XX.refl S)
/-- the dict that a comprehension makes -/
theorem any_K [DecidableEq κ] {e : κ → Key} (inj : ∀ a b, e a = e b → a = b) {H : Hp} {a : κ} : ∀ {vs : List (Key × V)} {d : List (κ × α)}, Paired (DkRel e r H) vs d → (vs.any fun kv => decide (kv.1 = e a)) = d.any fun p => decide (p.1 = a)
  | _, _, .nil => rfl
  | p :: vs, q :: d, .cons h t => by
    rw [List.any_cons, List.any_cons, any_K inj t, h.1]
    congr 1
    by_cases c : q.1 = a
    · rw [decide_eq_true c, c, decide_eq_true rfl]
    · rw [decide_eq_false c, decide_eq_false fun z => c (inj _ _ z)]
theorem map_K [DecidableEq κ] {e : κ → Key} (inj : ∀ a b, e a = e b → a = b) {H : Hp} {a : κ} {b : α} {v : V} (hv : r.rp H v b) : ∀ {vs : List (Key × V)} {d : List (κ × α)}, Paired (DkRel e r H) vs d → Paired (DkRel e r H) (vs.map fun kv => if kv.1 = e a then (kv.1, v) else kv) (d.map fun p => if p.1 = a then (p.1, b) else p)
  | _, _, .nil => .nil
  | p :: vs, q :: d, .cons h t => by
    refine .cons ?_ (map_K inj hv t)
    dsimp only
    by_cases c : q.1 = a
    · rw [if_pos c, if_pos (by rw [h.1, c])]
      exact ⟨h.1, hv⟩
    · rw [if_neg c, if_neg (by rw [h.1]; exact fun z => c (inj _ _ z))]
      exact h
theorem pair_snoc {κ' μ' : Type} {F : κ' → μ' → Prop} {a : κ'} {b : μ'} : ∀ {l₁ : List κ'} {l₂ : List μ'}, Paired F l₁ l₂ → F a b → Paired F (l₁ ++ [a]) (l₂ ++ [b])
  | _, _, .nil, h => .cons h .nil
  | _, _, .cons h₁ t, h => .cons h₁ (pair_snoc t h)
theorem paired_dputK [DecidableEq κ] {e : Ky κ} {H : Hp} {a : κ} {b : α} {v : V} (hv : r.rp H v b) {vs : List (Key × V)} {d : List (κ × α)} (h : Paired (DkRel e.enc r H) vs d) : Paired (DkRel e.enc r H) (putK vs (e.enc a) v) (dput d a b) := by
  unfold putK dput
  rw [any_K e.inj h]
  split
  · exact map_K e.inj hv h
  · exact pair_snoc h ⟨rfl, hv⟩
theorem any_T [DecidableEq κ] {e : κ → List Key} (inj : ∀ a b, e a = e b → a = b) {H : Hp} {a : κ} : ∀ {vs : List (List Key × V)} {d : List (κ × α)}, Paired (DtRel e r H) vs d → (vs.any fun kv => decide (kv.1 = e a)) = d.any fun p => decide (p.1 = a)
  | _, _, .nil => rfl
  | p :: vs, q :: d, .cons h t => by
    rw [List.any_cons, List.any_cons, any_T inj t, h.1]
    congr 1
    by_cases c : q.1 = a
    · rw [decide_eq_true c, c, decide_eq_true rfl]
    · rw [decide_eq_false c, decide_eq_false fun z => c (inj _ _ z)]
theorem map_T [DecidableEq κ] {e : κ → List Key} (inj : ∀ a b, e a = e b → a = b) {H : Hp} {a : κ} {b : α} {v : V} (hv : r.rp H v b) : ∀ {vs : List (List Key × V)} {d : List (κ × α)}, Paired (DtRel e r H) vs d → Paired (DtRel e r H) (vs.map fun kv => if kv.1 = e a then (kv.1, v) else kv) (d.map fun p => if p.1 = a then (p.1, b) else p)
  | _, _, .nil => .nil
  | p :: vs, q :: d, .cons h t => by
    refine .cons ?_ (map_T inj hv t)
    dsimp only
    by_cases c : q.1 = a
    · rw [if_pos c, if_pos (by rw [h.1, c])]
      exact ⟨h.1, hv⟩
    · rw [if_neg c, if_neg (by rw [h.1]; exact fun z => c (inj _ _ z))]
      exact h
theorem paired_dputT [DecidableEq κ] {e : Kt κ} {H : Hp} {a : κ} {b : α} {v : V} (hv : r.rp H v b) {vs : List (List Key × V)} {d : List (κ × α)} (h : Paired (DtRel e.enc r H) vs d) : Paired (DtRel e.enc r H) (putK vs (e.enc a) v) (dput d a b) := by
  unfold putK dput
  rw [any_T e.inj h]
  split
  · exact map_T e.inj hv h
  · exact pair_snoc h ⟨rfl, hv⟩
theorem dput_len [DecidableEq κ] (d : List (κ × α)) (k : κ) (v : α) : (dput d k v).length ≤ d.length + 1 := by
  unfold dput
  split <;> simp
/-- the pairs of a dict's comprehension, as they come -/
def dictT [DecidableEq κ] : List γ → (γ → PT Bool) → (γ → PT κ) → (γ → PT α) → List (κ × α) → PT (List (κ × α))
  | [], _, _, _, d, k => k d
  | x :: xs, t, fk, fv, d, k => t x fun b => if b = true then fk x fun a => fv x fun v => dictT xs t fk fv (dput d a v) k else dictT xs t fk fv d k
theorem dictT_mono [DecidableEq κ] {t : γ → PT Bool} {fk : γ → PT κ} {fv : γ → PT α} (mt : ∀ x (k k' : Bool → Prop), (∀ a, k a → k' a) → t x k → t x k') (mk : ∀ x (k k' : κ → Prop), (∀ a, k a → k' a) → fk x k → fk x k') (mf : ∀ x (k k' : α → Prop), (∀ a, k a → k' a) → fv x k → fv x k') :
    ∀ (xs : List γ) (d : List (κ × α)) (k k' : List (κ × α) → Prop), (∀ a, k a → k' a) → dictT xs t fk fv d k → dictT xs t fk fv d k'
  | [], d, k, k', h, q => h d q
  | x :: xs, d, k, k', h, q => by
    refine mt x _ _ (fun b hb => ?_) q
    cases b with
    | true =>
      rw [if_pos rfl] at hb ⊢
      exact mk x _ _ (fun a ha => mf x _ _ (fun v hv => dictT_mono mt mk mf xs _ k k' h hv) ha) hb
    | false =>
      rw [if_neg Bool.false_ne_true] at hb ⊢
      exact dictT_mono mt mk mf xs d k k' h hb
end
def Pg.dict {γ κ α : Type} [DecidableEq κ] (xs : List γ) (t : γ → Pg Bool) (fk : γ → Pg κ) (fv : γ → Pg α) : Pg (List (κ × α)) := ⟨dictT xs (fun x => (t x).wp) (fun x => (fk x).wp) (fun x => (fv x).wp) [], fun h q => dictT_mono (fun x _ _ h' => (t x).mono h') (fun x _ _ h' => (fk x).mono h') (fun x _ _ h' => (fv x).mono h') xs [] _ _ h q⟩
section
variable {α β γ κ : Type} {te ta tb tc tk tv : TE} {r : R K α} {s : R K β} {c : PT α} {d : PT β}
theorem ed_dc [DecidableEq κ] {e : Ky κ} {rk : R K κ} (Kr : KyR rk e) {wi : TI} {g : TG} {tt : TT} {vs js : List Nat} {rx : R K γ} {cx : PT (List γ)} {h : γ → List (Sl K)} {t : γ → PT Bool} {fk : γ → PT κ} {fv : γ → PT α}
    (hi : IR E sls wi rx cx) (hg : GT E (wipeS sls vs) g rx js h) (hj : ∀ j ∈ js, j ∈ vs) (ht : ∀ a, ET E (h a) tt (t a)) (hk' : ∀ a, EV E (h a) tk rk (fk a)) (he : ∀ a, EV E (h a) tv r (fv a)) :
    ED E sls (tDc wi g tt tk tv vs) e r (fun k => cx fun xs => dictT xs t fk fv [] k) := fun O σ H S k hk Q q =>
  hi _ σ H S _ hk _ fun xs J H2 ka x2 w D nD => by
    have S2 := S.ext x2
    have nDO : ¬ O D := S2.nOn nD
    have nDM : ¬ E.M D := fun z => nDO (S2.mo D z)
    have mo : ∀ a, E.M a → wD O D a := fun a h => .inl (S2.mo a h)
    refine ⟨fun i m H3 => m = xs.length - i ∧ i ≤ xs.length ∧ XX E H2 H3 ∧ ∃ acc ys, H3 D = some (.dK acc) ∧ Paired (DkRel e.enc r (hid H3 (wD O D))) acc ys ∧ ys.length ≤ i ∧ dictT (xs.drop i) t fk fv ys k, ⟨xs.length, by simp, Nat.zero_le _, (S2.new nD).1, [], [], upd_same, .nil, Nat.le_refl _, by simpa using ka⟩, ?_⟩
    rintro i m H3 ⟨rfl, hi, x3, acc, ys, hD, hacc, hys, kc⟩
    have S3 := S2.withD nD x3 ⟨_, hD, fun _ z => by cases z⟩
    by_cases hlt : i < xs.length
    · refine .inr ⟨w.go i H3 hlt (ew_un x3.1), fun H' => xs.length - (i + 1) < xs.length - i ∧ XX E H2 H' ∧ ∃ acc ys, H' D = some (.dK acc) ∧ Paired (DkRel e.enc r (hid H' (wD O D))) acc ys ∧ ys.length ≤ i + 1 ∧ dictT (xs.drop (i + 1)) t fk fv ys k, fun H' ⟨h1, h2, h3⟩ => ⟨xs.length - (i + 1), h1, rfl, hlt, h2, h3⟩, fun v H4 y => ?_⟩
      obtain ⟨ex, a, ea, hv⟩ := w.yld (wD O D) i H3 v H4 hlt (ew_un x3.1) S3.od (by rw [← hid_wD nD]; exact (x3.ex mo).ew) y
      rw [drop_at ea, dictT] at kc
      have x4 : XX E H3 H4 := .of_ex ex S3.inv
      have S4 := S3.ext x4
      have acc4 : Paired (DkRel e.enc r (hid H4 (wD O D))) acc ys := pmap hacc fun _ _ z => ⟨z.1, S3.rep x4 z.2⟩
      refine hg _ (wipe σ vs) H4 a v (S4.wipe vs) hv _ fun σ5 S5 _ h1 h2 => ⟨?_, ?_⟩
      · rw [h1 vs hj, wipe_wipe σ vs vs fun _ z => z]
      refine ht a _ σ5 H4 S5 _ kc _ fun b H5 kb x5 => ?_
      have acc5 : Paired (DkRel e.enc r (hid H5 (wD O D))) acc ys := pmap acc4 fun _ _ z => ⟨z.1, S4.rep x5 z.2⟩
      have hD5 := x5.keep (x4.keep hD nDM) nDM
      cases b with
      | false =>
        rw [if_neg Bool.false_ne_true] at kb ⊢
        exact ⟨by omega, (x3.trans x4).trans x5, acc, ys, hD5, acc5, Nat.le_succ_of_le hys, kb⟩
      | true =>
        rw [if_pos rfl] at kb ⊢
        refine hk' a _ σ5 H5 (S5.ext x5) _ kb _ fun ka' yk H6 kz x6 hu => ?_
        have S6 := (S5.ext x5).ext x6
        refine he a _ σ5 H6 S6 _ kz _ fun z u H7 kw x7 hw => ?_
        have hD7 := x7.keep (x6.keep hD5 nDM) nDM
        have x27 := (((x3.trans x4).trans x5).trans x6).trans x7
        have acc7 : Paired (DkRel e.enc r (hid H7 (wD O D))) acc ys := pmap acc5 fun _ _ z => ⟨z.1, ((S4.ext x5).ext x6).rep x7 ((S4.ext x5).rep x6 z.2)⟩
        have al := hacc.length
        have wl : xs.length ≤ 100000 := w.len
        refine ⟨acc, e.enc ka', Kr.is hu, hD7, lt_line (show acc.length < 100000 by omega), by omega, x27.put nD nDM (fun φ z => by rw [hD7] at z; cases z), _, _, upd_same, ?_, Nat.le_trans (dput_len _ _ _) (by omega), kw⟩
        rw [hid_put]
        exact paired_dputK hw acc7
    · have e : i = xs.length := by omega
      subst e
      rw [List.drop_length, dictT] at kc
      exact .inl ⟨w.stop H3 (ew_un x3.1), q ys D acc H3 kc (x2.trans x3) (x2.back nD) hD hacc (by have := hacc.length; have := w.len; omega)⟩

/-! ### empty containers -/
theorem el_nil : EL E sls (tLst tNil) r (fun k => k []) := fun O σ H S k hk Q q => ⟨Nat.zero_le _, fun p np => q [] p [] _ hk (S.new np).1 np upd_same .nil (Nat.zero_le _)⟩
theorem ed_new {e : Ky κ} : ED E sls tDNewK e r (fun k => k []) := fun O σ H S k hk Q q p np => q [] p [] _ hk (S.new np).1 np upd_same .nil (Nat.zero_le _)
theorem edt_new {e : Kt κ} : EDt E sls tDNewT e r (fun k => k []) := fun O σ H S k hk Q q p np => q [] p [] _ hk (S.new np).1 np upd_same .nil (Nat.zero_le _)

/-! ### calls of own defs -/
/-- the promise of a def that changes nothing of its caller's: it hands back what m says -/
def spP (f : RF K α) (r : R K β) (m : α → PT β) : Sp := fun vs H Q _ => ∃ (O : Addr → Prop) (a : α) (k : β → Prop), (∀ x, O x → ∃ u, H x = some u ∧ NT u) ∧ f.rp (hid H O) vs a ∧ m a k ∧ ∀ b v H2, k b → Ex H H2 → r.rp (hid H2 O) v b → Q v H2
theorem ev_call {f : RF K α} {m : α → PT β} {t : TA} {X0 : XK} {c : PT α} (h : EA E sls t f c) : EV E sls (tCall (spP f s m) [] X0 t) s (fun k => c fun a => m a k) := fun O σ H S k hk Q q =>
  h _ σ H S _ hk _ fun a vs H2 ka x hv => by
    have S2 := S.ext x
    refine ⟨O, a, k, S2.od, by rw [List.append_nil]; exact hv, ka, fun b v H3 kb ex hr => q b v H3 kb (x.trans (.of_ex ex S2.inv)) hr⟩
/-! ### what one owns, read as a value, where the result hangs on no heap -/
theorem set_self {σ : L2.St} {i : Nat} {o : Option V} (h : σ[i]? = some o) : σ.set i o = σ := by
  obtain ⟨h1, h2⟩ := List.getElem?_eq_some_iff.mp h
  rw [← h2, List.set_getElem_self]
theorem SL.thaw {i : Nat} {σ : L2.St} {H : Hp} {sl sl' : Sl K} (S : SL O E sls σ H) (h : sls[i]? = some sl) {p : Addr} (nM : ¬ E.M p)
    (hs : ∀ o, sl.p (hid H O) (hid H E.M) o → o = some (.ref p) → sl'.p (hid H fun a => O a ∧ a ≠ p) (hid H E.M) o) (hp : σ[i]? = some (some (.ref p))) : SL (fun a => O a ∧ a ≠ p) E (sls.set i sl') σ H := by
  obtain ⟨o, e, q⟩ := S.at h
  rw [hp] at e
  cases e
  refine ⟨?_, fun a h => S.od a h.1, fun a h => ⟨S.mo a h, fun e => nM (by rw [← e]; exact h)⟩, S.inv⟩
  have base : Paired (fun o (sl : Sl K) => sl.p (hid H fun a => O a ∧ a ≠ p) (hid H E.M) o) σ sls := pmap S.sl fun o sl h => sl.mono (ew_hid_le fun a h => h.1) (Ef.refl _) h
  have := paired_set (F := fun o (sl : Sl K) => sl.p (hid H fun a => O a ∧ a ≠ p) (hid H E.M) o) (hs _ q rfl) i base
  rwa [set_self hp] at this
theorem ev_thawD {i : Nat} {e : Ky κ} {r' : R K γ} {d : List (κ × γ)} (f : Flat r) (h0 : sls[i]? = some (slDk e r' d)) (h : EV E (sls.set i (slV (rDk e r') d)) te r c) : EV E sls te r c := fun O σ H S k hk Q q => by
  obtain ⟨o, eo, p, kvs, e1, hr, hp, hl⟩ := S.at h0
  subst e1
  obtain ⟨nM, hr⟩ := rd_hid.mp hr
  refine h _ σ H (S.thaw h0 nM (fun o ho eo' => ?_) eo) k hk Q fun a v H2 ka x hv => q a v H2 ka x (f hv)
  subst eo'
  exact ⟨_, rfl, p, kvs, rfl, rd_hid.mpr ⟨fun z => z.2 rfl, hr⟩, pmap hp fun _ _ z => ⟨z.1, r'.mono (ew_hid_le fun a h => h.1) z.2⟩, hl⟩
theorem et_thawD {i : Nat} {e : Ky κ} {r' : R K γ} {d : List (κ × γ)} {tt : TT} {c : PT Bool} (h0 : sls[i]? = some (slDk e r' d)) (h : ET E (sls.set i (slV (rDk e r') d)) tt c) : ET E sls tt c := fun O σ H S k hk Q q => by
  obtain ⟨o, eo, p, kvs, e1, hr, hp, hl⟩ := S.at h0
  subst e1
  obtain ⟨nM, hr⟩ := rd_hid.mp hr
  refine h _ σ H (S.thaw h0 nM (fun o ho eo' => ?_) eo) k hk Q fun a H2 ka x => q a H2 ka x
  subst eo'
  exact ⟨_, rfl, p, kvs, rfl, rd_hid.mpr ⟨fun z => z.2 rfl, hr⟩, pmap hp fun _ _ z => ⟨z.1, r'.mono (ew_hid_le fun a h => h.1) z.2⟩, hl⟩
theorem ev_thawL {i : Nat} {r' : R K γ} {d : List γ} (f : Flat r) (h0 : sls[i]? = some (slL r' d)) (h : EV E (sls.set i (slV (rLst r') d)) te r c) : EV E sls te r c := fun O σ H S k hk Q q => by
  obtain ⟨o, eo, p, kvs, e1, hr, hp, hl⟩ := S.at h0
  subst e1
  obtain ⟨nM, hr⟩ := rd_hid.mp hr
  refine h _ σ H (S.thaw h0 nM (fun o ho eo' => ?_) eo) k hk Q fun a v H2 ka x hv => q a v H2 ka x (f hv)
  subst eo'
  exact ⟨_, rfl, p, kvs, rfl, rd_hid.mpr ⟨fun z => z.2 rfl, hr⟩, pmap hp fun _ _ z => r'.mono (ew_hid_le fun a h => h.1) z, hl⟩
theorem et_thawL {i : Nat} {r' : R K γ} {d : List γ} {tt : TT} {c : PT Bool} (h0 : sls[i]? = some (slL r' d)) (h : ET E (sls.set i (slV (rLst r') d)) tt c) : ET E sls tt c := fun O σ H S k hk Q q => by
  obtain ⟨o, eo, p, kvs, e1, hr, hp, hl⟩ := S.at h0
  subst e1
  obtain ⟨nM, hr⟩ := rd_hid.mp hr
  refine h _ σ H (S.thaw h0 nM (fun o ho eo' => ?_) eo) k hk Q fun a H2 ka x => q a H2 ka x
  subst eo'
  exact ⟨_, rfl, p, kvs, rfl, rd_hid.mpr ⟨fun z => z.2 rfl, hr⟩, pmap hp fun _ _ z => r'.mono (ew_hid_le fun a h => h.1) z, hl⟩
theorem ev_thawDt {i : Nat} {e : Kt κ} {r' : R K γ} {d : List (κ × γ)} (f : Flat r) (h0 : sls[i]? = some (slDt e r' d)) (h : EV E (sls.set i (slV (rDt e r') d)) te r c) : EV E sls te r c := fun O σ H S k hk Q q => by
  obtain ⟨o, eo, p, kvs, e1, hr, hp, hl⟩ := S.at h0
  subst e1
  obtain ⟨nM, hr⟩ := rd_hid.mp hr
  refine h _ σ H (S.thaw h0 nM (fun o ho eo' => ?_) eo) k hk Q fun a v H2 ka x hv => q a v H2 ka x (f hv)
  subst eo'
  exact ⟨_, rfl, p, kvs, rfl, rd_hid.mpr ⟨fun z => z.2 rfl, hr⟩, pmap hp fun _ _ z => ⟨z.1, r'.mono (ew_hid_le fun a h => h.1) z.2⟩, hl⟩

/-! ### walks over dicts, locked -/
/-- a lock, where it is none yet -/
def tLk (t : TE) : TE := fun σ H Q => tLockE t σ H Q ∨ t σ H Q
theorem pe_lk {X : Cx} {e : Expr} {t : TE} (h : PE X e t) : PE X e (tLk t) := ⟨fun pins s σ H Q I hw => hw.elim (fun z => (pe_lock h).run pins s σ H Q I z) fun z => h.run pins s σ H Q I z⟩
def sLk (t : TS) : TS := fun D σ H => tLock t D σ H ∨ t D σ H
theorem ps_lk {X : Cx} {st : Stmt} {t : TS} (h : PS X st t) : PS X st (sLk t) := ⟨fun pins s σ H D I hw => hw.elim (fun z => (ps_lock h).run pins s σ H D I z) fun z => h.run pins s σ H D I z⟩
/-- a comprehension over a dict that a name holds -/
theorem XX.unlock {H H2 : Hp} {p : Addr} {od : Obj} {u : HO} (nM : ¬ E.M p) (h : H p = some u) (x : XX E (upd H p (.frz od u)) H2) : XX E H (upd H2 p u) := ⟨fun a w e => by
  obtain ⟨na, e⟩ := of_hid e
  rw [hid_out na]
  by_cases c : a = p
  · subst c
    rw [h] at e
    cases e
    exact upd_same
  · rw [upd_ne c]
    have := x.1 a w (by rw [hid_out na, upd_ne c]; exact e)
    exact (of_hid this).2, E.mono (fun a ha => upd_ne fun e => nM (by subst e; exact ha)) (ext_upd (frz_nx (x.keep upd_same nM))) x.2⟩
theorem rd_one {H : Hp} {p : Addr} {u w : HO} (h : Rd H p u) (h' : Rd H p w) (pu : Pl u) (pw : Pl w) : w = u := by
  rcases h with h | ⟨o, h⟩ <;> rcases h' with h' | ⟨o', h'⟩ <;> rw [h] at h' <;> cases h'
  · rfl
  · exact pu.elim
  · exact pw.elim
  · rfl
/-- a slot in which a dict stands that may be walked, and what it is when it is locked -/
structure Lkb (sl sl' : Sl K) : Prop where
  lk : ∀ {H : Hp} {O M : Addr → Prop} {o : Option V}, (∀ a, M a → O a) → sl.p (hid H O) (hid H M) o → ∃ p u, o = some (.ref p) ∧ Rd (hid H M) p u ∧ Pl u ∧ ∀ {F' H' : Hp} {od : Obj}, Ew (hid H O) F' → H' p = some (.frz od u) → sl'.p F' H' (some (.ref p))
theorem lk_own {e : Ky κ} {d : List (κ × α)} : Lkb (slDk e r d) (slDkF e r d) := ⟨fun mo ⟨p, kvs, eo, hr, hp, hl⟩ => ⟨p, .dK kvs, eo, hr, True.intro, fun w hf => ⟨p, _, kvs, rfl, hf, pmap hp fun _ _ z => ⟨z.1, r.mono w z.2⟩, hl⟩⟩⟩
theorem lk_ownT {e : Kt κ} {d : List (κ × α)} : Lkb (slDt e r d) (slDtF e r d) := ⟨fun mo ⟨p, kvs, eo, hr, hp, hl⟩ => ⟨p, .dT kvs, eo, hr, True.intro, fun w hf => ⟨p, _, kvs, rfl, hf, pmap hp fun _ _ z => ⟨z.1, r.mono w z.2⟩, hl⟩⟩⟩
theorem lk_val {e : Ky κ} {d : List (κ × α)} : Lkb (slV (rDk e r) d) (slDkF e r d) := ⟨fun mo ⟨v, eo, p, kvs, ev, hr, hp, hl⟩ => ⟨p, .dK kvs, by rw [eo, ev], (ew_hid_le mo).rd _ _ (by exact True.intro) hr, True.intro, fun w hf => ⟨p, _, kvs, rfl, hf, pmap hp fun _ _ z => ⟨z.1, r.mono w z.2⟩, hl⟩⟩⟩
theorem lk_valT {e : Kt κ} {d : List (κ × α)} : Lkb (slV (rDt e r) d) (slDtF e r d) := ⟨fun mo ⟨v, eo, p, kvs, ev, hr, hp, hl⟩ => ⟨p, .dT kvs, by rw [eo, ev], (ew_hid_le mo).rd _ _ (by exact True.intro) hr, True.intro, fun w hf => ⟨p, _, kvs, rfl, hf, pmap hp fun _ _ z => ⟨z.1, r.mono w z.2⟩, hl⟩⟩⟩
theorem lk_F {e : Ky κ} {d : List (κ × α)} : Lkb (slDkF e r d) (slDkF e r d) := ⟨fun mo ⟨p, od, kvs, eo, hr, hp, hl⟩ => ⟨p, .dK kvs, eo, .inr ⟨od, hr⟩, True.intro, fun w hf => ⟨p, _, kvs, rfl, hf, pmap hp fun _ _ z => ⟨z.1, r.mono w z.2⟩, hl⟩⟩⟩
theorem lk_FT {e : Kt κ} {d : List (κ × α)} : Lkb (slDtF e r d) (slDtF e r d) := ⟨fun mo ⟨p, od, kvs, eo, hr, hp, hl⟩ => ⟨p, .dT kvs, eo, .inr ⟨od, hr⟩, True.intro, fun w hf => ⟨p, _, kvs, rfl, hf, pmap hp fun _ _ z => ⟨z.1, r.mono w z.2⟩, hl⟩⟩⟩
/-- the two ways of a lock -/
theorem lk_cases {i : Nat} {sl sl' : Sl K} (L : Lkb sl sl') (h0 : sls[i]? = some sl) {σ : L2.St} {H : Hp} (S : SL O E sls σ H) :
    ∃ p u, σ[i]? = some (some (.ref p)) ∧ ¬ E.M p ∧ Pl u ∧ ((H p = some u ∧ ∀ od, SL O E (sls.set i sl') σ (upd H p (.frz od u))) ∨ ((∃ od, H p = some (.frz od u)) ∧ SL O E (sls.set i sl') σ H)) := by
  obtain ⟨o, e, q⟩ := S.at h0
  obtain ⟨p, u, eo, hr, pu, f⟩ := L.lk S.mo q
  subst eo
  obtain ⟨nM, hr⟩ := rd_hid.mp hr
  refine ⟨p, u, e, nM, pu, ?_⟩
  rcases hr with hr | ⟨od, hr⟩
  · refine .inl ⟨hr, fun od => ?_⟩
    have ef := Ef.lock od hr pu.mut
    refine ⟨?_, fun a h => ?_, S.mo, E.mono (fun a ha => upd_ne fun e => nM (by subst e; exact ha)) (ext_upd (pu.nx hr)) S.inv⟩
    · have base : Paired (fun o (sl : Sl K) => sl.p (hid (upd H p (.frz od u)) O) (hid (upd H p (.frz od u)) E.M) o) σ sls := pmap S.sl fun o sl h => sl.mono (ef.ew.hid _) (ef.hid _) h
      have := paired_set (F := fun o (sl : Sl K) => sl.p (hid (upd H p (.frz od u)) O) (hid (upd H p (.frz od u)) E.M) o) (f (F' := hid (upd H p (.frz od u)) O) (H' := hid (upd H p (.frz od u)) E.M) (od := od) (ef.ew.hid _) (by rw [hid_out nM]; exact upd_same)) i base
      rwa [set_self e] at this
    · obtain ⟨w, hw, nt⟩ := S.od a h
      by_cases c : a = p
      · subst c; exact ⟨_, upd_same, fun _ z => by cases z⟩
      · exact ⟨w, by rw [upd_ne c]; exact hw, nt⟩
  · refine .inr ⟨⟨od, hr⟩, ?_, S.od, S.mo, S.inv⟩
    have := paired_set (F := fun o (sl : Sl K) => sl.p (hid H O) (hid H E.M) o) (f (F' := hid H O) (H' := hid H E.M) (od := od) (Ew.refl _) (by rw [hid_out nM]; exact hr)) i S.sl
    rwa [set_self e] at this
theorem lock_free {H : Hp} {p q : Addr} {u : HO} (h : upd H p u q = none) : q ≠ p ∧ H q = none := by
  by_cases c : q = p
  · subst c; rw [upd_same] at h; cases h
  · rw [upd_ne c] at h; exact ⟨c, h⟩
theorem el_lk {i : Nat} {sl sl' : Sl K} (L : Lkb sl sl') (h0 : sls[i]? = some sl) {c : PT (List α)} (h : EL E (sls.set i sl') te r c) : EL E sls (tLk te) r c := fun O σ H S k hk Q q => by
  obtain ⟨p, u, e, nM, pu, z⟩ := lk_cases L h0 S
  rcases z with ⟨hp, S'⟩ | ⟨_, S'⟩
  · refine .inl ⟨p, u, hp, pu.mut, fun od => h _ σ _ (S' od) k hk _ fun xs P vs H2 ka x nP hP hr hl => ?_⟩
    obtain ⟨ne, nP⟩ := lock_free nP
    have x' := x.unlock nM hp
    have h2 : H2 p = some (.frz od u) := x.keep upd_same nM
    exact ⟨h2, q xs P vs _ ka x' nP (by rw [upd_ne ne]; exact hP) (pmap hr fun _ _ z => r.mono ((Ew.unlock h2).hid _) z) hl⟩
  · exact .inr (h _ σ _ S' k hk Q q)
theorem ed_lk [DecidableEq κ] {e : Ky κ} {i : Nat} {sl sl' : Sl K} (L : Lkb sl sl') (h0 : sls[i]? = some sl) {c : PT (List (κ × α))} (h : ED E (sls.set i sl') te e r c) : ED E sls (tLk te) e r c := fun O σ H S k hk Q q => by
  obtain ⟨p, u, e, nM, pu, z⟩ := lk_cases L h0 S
  rcases z with ⟨hp, S'⟩ | ⟨_, S'⟩
  · refine .inl ⟨p, u, hp, pu.mut, fun od => h _ σ _ (S' od) k hk _ fun xs P vs H2 ka x nP hP hr hl => ?_⟩
    obtain ⟨ne, nP⟩ := lock_free nP
    have x' := x.unlock nM hp
    have h2 : H2 p = some (.frz od u) := x.keep upd_same nM
    exact ⟨h2, q xs P vs _ ka x' nP (by rw [upd_ne ne]; exact hP) (pmap hr fun _ _ z => ⟨z.1, r.mono ((Ew.unlock h2).hid _) z.2⟩) hl⟩
  · exact .inr (h _ σ _ S' k hk Q q)
/-- a locked dict's keys, items -/
theorem key_get {e : Ky κ} {rk : R K κ} (Kr : ∀ {H a}, rk.rp H (kV (e.enc a)) a) {F : Hp} {vs : List (Key × V)} {d : List (κ × α)} (h : Paired (DkRel e.enc r F) vs d) {i : Nat} {k : Key} {v : V} (hi : vs[i]? = some (k, v)) : ∃ p, d[i]? = some p ∧ k = e.enc p.1 ∧ r.rp F v p.2 := by
  induction h generalizing i with
  | nil => simp at hi
  | cons h t ih =>
    cases i with
    | zero =>
      simp at hi
      subst hi
      exact ⟨_, rfl, h.1, h.2⟩
    | succ i => simpa using ih (i := i) (by simpa using hi)
structure KyW (rk : R K κ) (e : Ky κ) : Prop where
  is : ∀ {H a}, rk.rp H (kV (e.enc a)) a
theorem kyw_int : KyW (rInt (K := K)) kyI := ⟨rfl⟩
theorem kyw_str : KyW (rStr (K := K)) kyS := ⟨rfl⟩
theorem iw_keys {e : Ky κ} {rk : R K κ} (Kw : KyW rk e) {F B : Hp} {p : Addr} {od : Obj} {vs : List (Key × V)} {d : List (κ × α)} (hB : B p = some (.frz od (.dK vs))) (hp : Paired (DkRel e.enc r F) vs d) (hl : vs.length ≤ big) : IW F B rk (d.map (·.1)) (Itk p od vs) := by
  have e1 := hp.length
  refine ⟨by rw [List.length_map]; omega, fun i H3 hi w => ⟨w.fz _ _ _ hB, by rw [List.length_map] at hi; omega⟩, fun H3 w => ⟨w.fz _ _ _ hB, by rw [List.length_map]; omega⟩, fun O' i H3 x H4 hi w od' wf y => ?_⟩
  obtain ⟨e4, k, v, ek, ex⟩ := y
  subst e4 ex
  obtain ⟨q, eq, rfl, _⟩ := key_get (rk := rk) Kw.is hp ek
  exact ⟨Ex.refl _, q.1, by rw [List.getElem?_map, eq]; rfl, Kw.is⟩
theorem ir_keysF {e : Ky κ} {rk : R K κ} (Kw : KyW rk e) {i : Nat} {d : List (κ × α)} (h0 : sls[i]? = some (slDkF e r d)) : IR E sls (iKeys (tVar i)) rk (fun k => k (d.map (·.1))) := fun O σ H S k hk Rr q => by
  obtain ⟨o, eo, p, od, kvs, e1, hr, hp, hl⟩ := S.at h0
  subst e1
  exact ⟨_, eo, p, od, rfl, .inl ⟨kvs, (of_hid hr).2, q _ _ H hk (XX.refl S) (iw_keys Kw hr hp hl)⟩⟩
theorem iw_items {e : Ky κ} {rk : R K κ} (Kw : KyW rk e) {F B : Hp} {p : Addr} {od : Obj} {vs : List (Key × V)} {d : List (κ × α)} (hB : B p = some (.frz od (.dK vs))) (hp : Paired (DkRel e.enc r F) vs d) (hl : vs.length ≤ big) : IW F B (rPr (fc rk (f1 r))) d (Iti p od vs) := by
  have e1 := hp.length
  refine iw_pair (p := p) (xs := []) (ys := []) (by omega) (fun i H3 hi w => ⟨w.fz _ _ _ hB, by omega⟩) (fun H3 w => ⟨w.fz _ _ _ hB, by omega⟩) (fun i H3 v H4 hi w y => ?_)
  obtain ⟨T, k, v', ek, h2, h3, h4⟩ := y
  obtain ⟨q, eq, rfl, hv⟩ := key_get (rk := rk) Kw.is hp ek
  exact ⟨T, _, _, h2, h3, h4, q, eq, Kw.is, hv⟩
theorem ir_itemsF {e : Ky κ} {rk : R K κ} (Kw : KyW rk e) {i : Nat} {d : List (κ × α)} (h0 : sls[i]? = some (slDkF e r d)) : IR E sls (iItems (tVar i)) (rPr (fc rk (f1 r))) (fun k => k d) := fun O σ H S k hk Rr q => by
  obtain ⟨o, eo, p, od, kvs, e1, hr, hp, hl⟩ := S.at h0
  subst e1
  exact ⟨_, eo, p, od, kvs, rfl, (of_hid hr).2, q _ _ H hk (XX.refl S) (iw_items Kw hr hp hl)⟩
theorem getT {e : Kt κ} {F : Hp} {vs : List (List Key × V)} {d : List (κ × α)} (h : Paired (DtRel e.enc r F) vs d) {i : Nat} {k : List Key} {v : V} (hi : vs[i]? = some (k, v)) : ∃ p, d[i]? = some p ∧ k = e.enc p.1 ∧ r.rp F v p.2 := by
  induction h generalizing i with
  | nil => simp at hi
  | cons h t ih =>
    cases i with
    | zero =>
      simp at hi
      subst hi
      exact ⟨_, rfl, h.1, h.2⟩
    | succ i => simpa using ih (i := i) (by simpa using hi)
/-- tuples that are keys, as values -/
structure KtW (rk : R K κ) (e : Kt κ) : Prop where
  is : ∀ {H : Hp} {a : κ} {p : Addr}, H p = some (.tup ((e.enc a).map kV)) → rk.rp H (.ref p) a
theorem ktw_ii {μ : Type} {rk : R K κ} {rm : R K μ} {ek : Ky κ} {em : Ky μ} (h1 : KyW rk ek) (h2 : KyW rm em) : KtW (rPr (fc rk (f1 rm))) (ktP ek em) := ⟨fun {H a p} h => ⟨p, _, rfl, .inl h, _, _, rfl, h1.is, _, rfl, h2.is⟩⟩
theorem iw_keysT {e : Kt κ} {rk : R K κ} (Kw : KtW rk e) {F B : Hp} {p : Addr} {od : Obj} {vs : List (List Key × V)} {d : List (κ × α)} (hB : B p = some (.frz od (.dT vs))) (hp : Paired (DtRel e.enc r F) vs d) (hl : vs.length ≤ big) : IW F B rk (d.map (·.1)) (Itkt p od vs) := by
  have e1 := hp.length
  refine ⟨by rw [List.length_map]; omega, fun i H3 hi w => ⟨w.fz _ _ _ hB, by rw [List.length_map] at hi; omega⟩, fun H3 w => ⟨w.fz _ _ _ hB, by rw [List.length_map]; omega⟩, fun O' i H3 x H4 hi w od' wf y => ?_⟩
  obtain ⟨e4, k, v, q, ek, ex, eq⟩ := y
  subst e4 ex
  obtain ⟨pr, epr, rfl, _⟩ := getT hp ek
  refine ⟨Ex.refl _, pr.1, by rw [List.getElem?_map, epr]; rfl, Kw.is ?_⟩
  rw [hid_out fun z => ?_]
  · exact eq
  · obtain ⟨u, hu, nt⟩ := od' q z
    rw [eq] at hu
    cases hu
    exact nt _ rfl
theorem ir_keysTF {e : Kt κ} {rk : R K κ} (Kw : KtW rk e) {i : Nat} {d : List (κ × α)} (h0 : sls[i]? = some (slDtF e r d)) : IR E sls (iKeys (tVar i)) rk (fun k => k (d.map (·.1))) := fun O σ H S k hk Rr q => by
  obtain ⟨o, eo, p, od, kvs, e1, hr, hp, hl⟩ := S.at h0
  subst e1
  exact ⟨_, eo, p, od, rfl, .inr ⟨kvs, (of_hid hr).2, q _ _ H hk (XX.refl S) (iw_keysT Kw hr hp hl)⟩⟩
end
end Nz

/-! Nz5: statements. -/
namespace Nz
open PySem L2
variable {K : PySem.W.Frag} {E : Eff}
section
variable {α β γ κ S : Type} {te ta tb tc : TE}

def OwnOf (O0 : Addr → Prop) (own : List Nat) (σ : L2.St) : Addr → Prop := fun a => O0 a ∨ ∃ i ∈ own, σ[i]? = some (some (.ref a))
structure SI (E : Eff) (O0 : Addr → Prop) (H0 G : Hp) (sls : List (Sl K)) (own : List Nat) (σ : L2.St) (H : Hp) : Prop where
  sl : SL (OwnOf O0 own σ) E sls σ H
  h0 : Ex (hid H0 E.M) (hid H E.M)
  g : Ef G (hid H (OwnOf O0 own σ))
  ow : ∀ i ∈ own, ∃ p u, σ[i]? = some (some (.ref p)) ∧ G p = none ∧ H0 p = none ∧ ¬ E.M p ∧ ¬ O0 p ∧ H p = some u ∧ Pl u
  ap : ∀ i ∈ own, ∀ j ∈ own, σ[i]? = σ[j]? → i = j
  mo : ∀ a, E.M a → O0 a
  hk : ∀ j sl, sls[j]? = some sl → sl.hp = true → j ∈ own
section
variable {O0 : Addr → Prop} {H0 G : Hp} {sls : List (Sl K)} {own own' : List Nat} {σ : L2.St} {H H' : Hp} {r : R K α}
theorem SI.ext (I : SI E O0 H0 G sls own σ H) (x : XX E H H') : SI E O0 H0 G sls own σ H' where
  sl := I.sl.ext x
  h0 := I.h0.trans x.1
  g := I.g.trans (x.ex I.sl.mo).ef
  ow := fun i hi => by
    obtain ⟨p, u, a, b, c, d, e, f, g⟩ := I.ow i hi
    exact ⟨p, u, a, b, c, d, e, x.keep f d, g⟩
  ap := I.ap
  mo := I.mo
  hk := I.hk
theorem own_le {O0 : Addr → Prop} {own own' : List Nat} {σ σ' : L2.St} (h : ∀ j ∈ own', j ∈ own ∧ σ'[j]? = σ[j]?) : ∀ a, OwnOf O0 own' σ' a → OwnOf O0 own σ a := fun a ha => ha.elim .inl fun ⟨j, hj, e⟩ => .inr ⟨j, (h j hj).1, (h j hj).2 ▸ e⟩
/-- slots changed that are not one's own any more; what stands there is known -/
theorem SI.chg {sls' : List (Sl K)} {σ' : L2.St} (I : SI E O0 H0 G sls own σ H) (ho : ∀ j ∈ own', j ∈ own ∧ σ'[j]? = σ[j]?) (hs : Paired (fun o (sl : Sl K) => sl.p (hid H (OwnOf O0 own' σ')) (hid H E.M) o) σ' sls')
    (hk : ∀ j sl, sls'[j]? = some sl → sl.hp = true → j ∈ own') : SI E O0 H0 G sls' own' σ' H where
  sl := ⟨hs, fun a h => I.sl.od a (own_le ho a h), fun a h => .inl (I.mo a h), I.sl.inv⟩
  h0 := I.h0
  g := I.g.trans (ef_hid_le (own_le ho))
  ow := fun i hi => by
    obtain ⟨p, u, a, q⟩ := I.ow i (ho i hi).1
    exact ⟨p, u, (ho i hi).2.trans a, q⟩
  ap := fun i hi j hj e => I.ap i (ho i hi).1 j (ho j hj).1 (by rw [← (ho i hi).2, ← (ho j hj).2]; exact e)
  mo := I.mo
  hk := hk
theorem at_ne {α : Type} {xs : List α} {i j : Nat} {a : α} (h : j ≠ i) : (xs.set i a)[j]? = xs[j]? := List.getElem?_set_ne (Ne.symm h)
def rmv (own : List Nat) (i : Nat) : List Nat := own.filter fun j => decide (j ≠ i)
theorem mem_rmv {own : List Nat} {i j : Nat} : j ∈ rmv own i ↔ j ∈ own ∧ j ≠ i := by unfold rmv; simp
theorem set_sl {i : Nat} {o : Option V} {sl : Sl K} {F H : Hp} {sls : List (Sl K)} {σ : L2.St} (h : sl.p F H o) (t : Paired (fun o (sl : Sl K) => sl.p F H o) σ sls) : Paired (fun o (sl : Sl K) => sl.p F H o) (σ.set i o) (sls.set i sl) := paired_set (F := fun o (sl : Sl K) => sl.p F H o) h i t
/-- a slot set to what is known by what one does not own -/
theorem SI.setS {i : Nat} {o : Option V} {sl : Sl K} (I : SI E O0 H0 G sls own σ H) (hp : sl.hp = false) (hv : sl.p (hid H (OwnOf O0 own σ)) (hid H E.M) o) : SI E O0 H0 G (sls.set i sl) (rmv own i) (σ.set i o) H := by
  have h1 : ∀ j ∈ rmv own i, j ∈ own ∧ (σ.set i o)[j]? = σ[j]? := fun j hj => ⟨(mem_rmv.mp hj).1, at_ne (mem_rmv.mp hj).2⟩
  refine I.chg h1 ?_ fun j s hj hs => ?_
  · exact set_sl (sl.mono (ew_hid_le (own_le h1)) (Ef.refl _) hv) (pmap I.sl.sl fun o sl h => sl.mono (ew_hid_le (own_le h1)) (Ef.refl _) h)
  · by_cases c : j = i
    · subst c
      by_cases hl : j < sls.length
      · rw [List.getElem?_set_self hl] at hj
        cases hj
        rw [hp] at hs
        cases hs
      · rw [List.getElem?_eq_none (by simpa using hl)] at hj
        cases hj
    · rw [at_ne c] at hj
      exact mem_rmv.mpr ⟨I.hk j s hj hs, c⟩
theorem SI.set {i : Nat} {v : V} {a : α} (I : SI E O0 H0 G sls own σ H) (hv : r.rp (hid H (OwnOf O0 own σ)) v a) : SI E O0 H0 G (sls.set i (slV r a)) (rmv own i) (σ.set i (some v)) H := I.setS rfl ⟨v, rfl, hv⟩
/-- a new thing of one's own in slot i -/
theorem SI.made {i : Nat} {p : Addr} {u : HO} {sl : Sl K} (I : SI E O0 H0 G sls own σ H) (x : XX E H H') (np : H p = none) (hu : H' p = some u) (pu : Pl u)
    (hs : sl.p (hid H' (wD (OwnOf O0 own σ) p)) (hid H' E.M) (some (.ref p))) (hi : i < sls.length) : SI E O0 H0 G (sls.set i sl) (i :: rmv own i) (σ.set i (some (.ref p))) H' := by
  have nO : ¬ OwnOf O0 own σ p := I.sl.nOn np
  have nM : ¬ E.M p := fun z => nO (I.sl.mo p z)
  have hl : i < σ.length := by rw [I.sl.sl.length]; exact hi
  have ho : ∀ j ∈ rmv own i, j ∈ own ∧ j ≠ i := fun j hj => mem_rmv.mp hj
  have le : ∀ a, OwnOf O0 (i :: rmv own i) (σ.set i (some (.ref p))) a → wD (OwnOf O0 own σ) p a := fun a ha => by
    rcases ha with ha | ⟨j, hj, e⟩
    · exact .inl (.inl ha)
    · rcases List.mem_cons.mp hj with rfl | hj
      · rw [List.getElem?_set_self hl] at e
        cases e
        exact .inr rfl
      · rw [at_ne (ho j hj).2] at e
        exact .inl (.inr ⟨j, (ho j hj).1, e⟩)
  have S1 := I.sl.withD np x ⟨u, hu, pu.nt⟩
  refine ⟨⟨?_, fun a h => S1.od a (le a h), fun a h => .inl (I.mo a h), x.2⟩, I.h0.trans x.1, ?_, fun j hj => ?_, fun j hj j' hj' e => ?_, I.mo, fun j s hj hp => ?_⟩
  · exact set_sl (sl.mono (ew_hid_le le) (Ef.refl _) hs) (pmap S1.sl fun o sl h => sl.mono (ew_hid_le le) (Ef.refl _) h)
  · have e1 := I.g
    rw [← hid_wD np] at e1
    exact (e1.trans (x.ex (O := wD (OwnOf O0 own σ) p) fun a h => .inl (I.sl.mo a h)).ef).trans (ef_hid_le le)
  · rcases List.mem_cons.mp hj with rfl | hj
    · refine ⟨p, u, List.getElem?_set_self hl, ?_, ?_, nM, fun z => nO (.inl z), hu, pu⟩
      · cases q : G p with
        | none => rfl
        | some w =>
          obtain ⟨w', h'⟩ := I.g.ex p w q
          rw [(of_hid h').2] at np
          cases np
      · cases q : H0 p with
        | none => rfl
        | some w =>
          have := I.h0 p w (by rw [hid_out nM]; exact q)
          rw [(of_hid this).2] at np
          cases np
    · obtain ⟨q, w, a, b, c, d, e, f, g⟩ := I.ow j (ho j hj).1
      exact ⟨q, w, by rw [at_ne (ho j hj).2]; exact a, b, c, d, e, x.keep f d, g⟩
  · have at' : ∀ k ∈ rmv own i, ∃ q, (σ.set i (some (.ref p)))[k]? = some (some (.ref q)) ∧ q ≠ p := fun k hk => by
      obtain ⟨q, w, a, _, _, _, _, f, _⟩ := I.ow k (ho k hk).1
      exact ⟨q, by rw [at_ne (ho k hk).2]; exact a, ne_of_none f np⟩
    rcases List.mem_cons.mp hj with rfl | hj <;> rcases List.mem_cons.mp hj' with rfl | hj'
    · rfl
    · obtain ⟨q, a, n⟩ := at' j' hj'
      rw [a, List.getElem?_set_self hl] at e
      cases e
      exact (n rfl).elim
    · obtain ⟨q, a, n⟩ := at' j hj
      rw [a, List.getElem?_set_self hl] at e
      cases e
      exact (n rfl).elim
    · rw [at_ne (ho j hj).2, at_ne (ho j' hj').2] at e
      exact I.ap j (ho j hj).1 j' (ho j' hj').1 e
  · by_cases c : j = i
    · subst c; exact List.mem_cons_self
    · rw [at_ne c] at hj
      exact List.mem_cons_of_mem _ (mem_rmv.mpr ⟨I.hk j s hj hp, c⟩)
/-- one's own is changed -/
theorem SI.mut {i : Nat} {p : Addr} {u : HO} {sl : Sl K} (I : SI E O0 H0 G sls own σ H) (hi : i ∈ own) (e : σ[i]? = some (some (.ref p))) (pu : Pl u) (hs : sl.p (hid H (OwnOf O0 own σ)) (hid (upd H p u) E.M) (some (.ref p))) :
    SI E O0 H0 G (sls.set i sl) own σ (upd H p u) := by
  obtain ⟨p', u', e', Gp, H0p, nM, nO0, hp, pu'⟩ := I.ow i hi
  rw [e] at e'
  cases e'
  have Op : OwnOf O0 own σ p := .inr ⟨i, hi, e⟩
  have hh : hid (upd H p u) (OwnOf O0 own σ) = hid H (OwnOf O0 own σ) := funext fun a => by
    by_cases c : OwnOf O0 own σ a
    · rw [hid_in c, hid_in c]
    · rw [hid_out c, hid_out c, upd_ne fun e => c (by subst e; exact Op)]
  refine ⟨⟨?_, fun a h => ?_, I.sl.mo, E.mono (fun a ha => upd_ne fun e => nM (by subst e; exact ha)) (ext_upd (pu'.nx hp)) I.sl.inv⟩, fun a w q => ?_, by rw [hh]; exact I.g, fun j hj => ?_, I.ap, I.mo, fun j s hj hp => ?_⟩
  · rw [hh]
    -- every other slot stands
    have all : ∀ (τ : L2.St) (ts : List (Sl K)) (n : Nat), (∀ (j : Nat) (o : Option V) (s : Sl K), j ≠ n → τ[j]? = some o → ts[j]? = some s → s.hp = true → o ≠ some (.ref p)) → Paired (fun o (sl : Sl K) => sl.p (hid H (OwnOf O0 own σ)) (hid H E.M) o) τ ts → n < τ.length → τ[n]? = some (some (.ref p)) →
        Paired (fun o (sl : Sl K) => sl.p (hid H (OwnOf O0 own σ)) (hid (upd H p u) E.M) o) τ (ts.set n sl) := by
      intro τ ts
      have one : ∀ o (s : Sl K), (s.hp = true → o ≠ some (.ref p)) → s.p (hid H (OwnOf O0 own σ)) (hid H E.M) o → s.p (hid H (OwnOf O0 own σ)) (hid (upd H p u) E.M) o := fun o s hn h => by
        cases q : s.hp with
        | false => exact s.no q h
        | true => exact s.yes (fun a ea => by
            have ne : a ≠ p := fun z => hn q (by rw [ea, z])
            by_cases m : E.M a
            · rw [hid_in m, hid_in m]
            · rw [hid_out m, hid_out m, upd_ne ne]) h
      have rest : ∀ (τ : L2.St) (ts : List (Sl K)), (∀ (j : Nat) (o : Option V) (s : Sl K), τ[j]? = some o → ts[j]? = some s → s.hp = true → o ≠ some (.ref p)) → Paired (fun o (sl : Sl K) => sl.p (hid H (OwnOf O0 own σ)) (hid H E.M) o) τ ts → Paired (fun o (sl : Sl K) => sl.p (hid H (OwnOf O0 own σ)) (hid (upd H p u) E.M) o) τ ts := by
        intro τ ts hn h
        induction h with
        | nil => exact .nil
        | cons h t ih => exact .cons (one _ _ (fun q => hn 0 _ _ rfl rfl q) h) (ih fun j o s a b q => hn (j + 1) o s (by simpa using a) (by simpa using b) q)
      intro n hn h hlt en
      induction h generalizing n with
      | nil => simp at en
      | cons h t ih =>
        cases n with
        | zero =>
          simp at en
          subst en
          exact .cons hs (rest _ _ (fun j o s a b q => hn (j + 1) o s (by omega) (by simpa using a) (by simpa using b) q) t)
        | succ n => exact .cons (one _ _ (fun q => hn 0 _ _ (by omega) rfl rfl q) h) (ih n (fun j o s c a b q => hn (j + 1) o s (by omega) (by simpa using a) (by simpa using b) q) (by simpa using hlt) (by simpa using en))
    refine all σ sls i (fun j o s c a b q z => ?_) I.sl.sl (List.getElem?_eq_some_iff.mp e).1 e
    subst z
    exact c (I.ap j (I.hk j s b q) i hi (by rw [a, e]))
  · obtain ⟨w, hw, nt⟩ := I.sl.od a h
    by_cases c : a = p
    · subst c; exact ⟨u, upd_same, pu.nt⟩
    · exact ⟨w, by rw [upd_ne c]; exact hw, nt⟩
  · have := I.h0 a w q
    obtain ⟨na, q⟩ := of_hid q
    rw [hid_out na, upd_ne (ne_of_none q H0p)]
    exact (of_hid this).2
  · obtain ⟨q, w, a, b, c, d, e1, f, g⟩ := I.ow j hj
    by_cases z : q = p
    · subst z; exact ⟨q, u, a, b, c, d, e1, upd_same, pu⟩
    · exact ⟨q, w, a, b, c, d, e1, by rw [upd_ne z]; exact f, g⟩
  · by_cases c : j = i
    · subst c; exact hi
    · rw [at_ne c] at hj
      exact I.hk j s hj hp
/-- seen from another beginning -/
theorem SI.ghost {G' : Hp} (I : SI E O0 H0 G sls own σ H) (f : Ef G' G) : SI E O0 H0 G' sls own σ H := ⟨I.sl, I.h0, f.trans I.g, (fun i hi => by
  obtain ⟨p, u, a, b, q⟩ := I.ow i hi
  refine ⟨p, u, a, ?_, q⟩
  cases z : G' p with
  | none => rfl
  | some w =>
    obtain ⟨w', h⟩ := f.ex p w z
    rw [b] at h
    cases h), I.ap, I.mo, I.hk⟩
theorem SI.fresh (I : SI E O0 H0 G sls own σ H) : SI E O0 H0 (hid H (OwnOf O0 own σ)) sls own σ H := ⟨I.sl, I.h0, Ef.refl _, (fun i hi => by
  obtain ⟨p, u, a, b, q⟩ := I.ow i hi
  exact ⟨p, u, a, hid_in (.inr ⟨i, hi, a⟩), q⟩), I.ap, I.mo, I.hk⟩
end

/-! ### weakening of slots -/
/-- slot by slot: what is known less -/
structure Wk (a b : Sl K) : Prop where
  to : ∀ {F H : Hp} {o : Option V}, a.p F H o → b.p F H o
inductive Wks (own' : List Nat) : Nat → List (Sl K) → List (Sl K) → Prop
  | nil {n : Nat} : Wks own' n [] []
  | step {n : Nat} {a b : Sl K} {s t : List (Sl K)} : Wk a b → b.hp = false ∨ n ∈ own' → Wks own' (n + 1) s t → Wks own' n (a :: s) (b :: t)
theorem wk_k {own' : List Nat} {n : Nat} {a : Sl K} {s t : List (Sl K)} (h : a.hp = false) (w : Wks own' (n + 1) s t) : Wks own' n (a :: s) (a :: t) := .step ⟨fun h => h⟩ (.inl h) w
theorem wk_o {own' : List Nat} {n : Nat} {a : Sl K} {s t : List (Sl K)} (h : n ∈ own') (w : Wks own' (n + 1) s t) : Wks own' n (a :: s) (a :: t) := .step ⟨fun h => h⟩ (.inr h) w
theorem wk_a {own' : List Nat} {n : Nat} {a : Sl K} {s t : List (Sl K)} (w : Wks own' (n + 1) s t) : Wks own' n (a :: s) (slAny :: t) := .step ⟨fun _ => True.intro⟩ (.inl rfl) w
theorem Wks.sl {own' : List Nat} {n : Nat} {s t : List (Sl K)} (w : Wks own' n s t) {σ : L2.St} {F H : Hp} (h : Paired (fun o (sl : Sl K) => sl.p F H o) σ s) : Paired (fun o (sl : Sl K) => sl.p F H o) σ t := by
  induction w generalizing σ with
  | nil => cases h; exact .nil
  | step w _ t ih => cases h with | cons h1 h2 => exact .cons (w.to h1) (ih h2)
theorem Wks.hk {own' : List Nat} {n : Nat} {s t : List (Sl K)} (w : Wks own' n s t) : ∀ (j : Nat) (sl : Sl K), t[j]? = some sl → sl.hp = true → n + j ∈ own' := by
  induction w with
  | nil => intro j sl h; simp at h
  | step w h t ih =>
    intro j sl hj hp
    cases j with
    | zero =>
      simp at hj
      subst hj
      rcases h with h | h
      · rw [h] at hp; cases hp
      · exact h
    | succ j =>
      have := ih j sl (by simpa using hj) hp
      rwa [Nat.add_right_comm, Nat.add_assoc] at this
theorem SI.wk {O0 : Addr → Prop} {H0 G : Hp} {sls sls' : List (Sl K)} {own own' : List Nat} {σ : L2.St} {H : Hp} (I : SI E O0 H0 G sls own σ H) (w : Wks own' 0 sls sls') (ho : ∀ j ∈ own', j ∈ own) : SI E O0 H0 G sls' own' σ H :=
  I.chg (fun j hj => ⟨ho j hj, rfl⟩) (w.sl (pmap I.sl.sl fun o sl h => sl.mono (ew_hid_le (own_le fun j hj => ⟨ho j hj, rfl⟩)) (Ef.refl _) h)) fun j s a b => by simpa using w.hk j s a b

/-! ### blocks -/
def seqK {β L N M : Type} (f : M → PT (Ctl β L N)) (k : Ctl β L N → Prop) : Ctl β L M → Prop
  | .nx s => f s k
  | .rt b => k (.rt b)
  | .bk l => k (.bk l)
  | .ct l => k (.ct l)
/-- from the slots sls, what is one's own at own, the block t does what m says -/
def BJ {β L N : Type} (E : Eff) (sls : List (Sl K)) (own : List Nat) (t : TS) (m : PT (Ctl β L N)) (r : R K β) (fN : N → List (Sl K)) (oN : List Nat) (fL : L → List (Sl K)) (oL : List Nat) : Prop :=
  ∀ (O0 : Addr → Prop) (H0 G : Hp) (σ : L2.St) (H : Hp), SI E O0 H0 G sls own σ H → ∀ k : Ctl β L N → Prop, m k → ∀ D : Ends,
    (∀ n σ' H', k (.nx n) → SI E O0 H0 G (fN n) oN σ' H' → D.nx σ' H') →
    (∀ b v H', k (.rt b) → Ex (hid H0 E.M) (hid H' E.M) → E.I H' → r.rp (hid H' O0) v b → D.rt v H') →
    (∀ l σ' H', k (.bk l) → SI E O0 H0 G (fL l) oL σ' H' → D.bk σ' H') →
    (∀ l σ' H', k (.ct l) → SI E O0 H0 G (fL l) oL σ' H' → D.ct σ' H') → t D σ H
variable {L N M : Type} {sls : List (Sl K)} {own own' : List Nat} {r : R K β} {fN : N → List (Sl K)} {oN : List Nat} {fL : L → List (Sl K)} {oL : List Nat} {u : TS} {rx : R K α}
theorem bj_nx {s : N} (w : Wks oN 0 sls (fN s)) (ho : ∀ j ∈ oN, j ∈ own) : BJ E sls own tNext (fun k => k (.nx s)) r fN oN fL oL := fun O0 H0 G σ H I k hk' D q1 q2 q3 q4 => q1 s σ H hk' (I.wk w ho)
theorem bj_brk {s : L} (w : Wks oL 0 sls (fL s)) (ho : ∀ j ∈ oL, j ∈ own) : BJ E sls own (tSeq tBreak u) (fun k => k (.bk s)) r fN oN fL oL := fun O0 H0 G σ H I k hk' D q1 q2 q3 q4 => q3 s σ H hk' (I.wk w ho)
theorem bj_cnt {s : L} (w : Wks oL 0 sls (fL s)) (ho : ∀ j ∈ oL, j ∈ own) : BJ E sls own (tSeq tCont u) (fun k => k (.ct s)) r fN oN fL oL := fun O0 H0 G σ H I k hk' D q1 q2 q3 q4 => q4 s σ H hk' (I.wk w ho)
theorem bj_never : BJ E sls own (tSeq tNever u) (fun _ => False) r fN oN fL oL := fun O0 H0 G σ H I k hk D q1 q2 q3 q4 => hk.elim
theorem bj_ret {c : PT β} (h : EV E sls te r c) : BJ E sls own (tSeq (tRet te) u) (fun k => c fun a => k (.rt a)) r fN oN fL oL := fun O0 H0 G σ H I k hk D q1 q2 q3 q4 =>
  h _ σ H I.sl _ hk _ fun a v H2 ka x hv => q2 a v H2 ka (I.h0.trans x.1) x.2 (r.mono (ew_hid_le fun _ h => .inl h) hv)
theorem bj_asg {i : Nat} {c : PT α} {m : α → PT (Ctl β L N)} (h : EV E sls te rx c) (n : ∀ a, BJ E (sls.set i (slV rx a)) (rmv own i) u (m a) r fN oN fL oL) :
    BJ E sls own (tSeq (tAsg te (gName i)) u) (fun k => c fun a => m a k) r fN oN fL oL := fun O0 H0 G σ H I k hk D q1 q2 q3 q4 =>
  h _ σ H I.sl _ hk _ fun a v H2 ka x hv => n a O0 H0 G _ H2 ((I.ext x).set hv) k ka D q1 q2 q3 q4
theorem bj_asgL {i : Nat} {c : PT (List α)} {m : List α → PT (Ctl β L N)} (h : EL E sls te rx c) (hi : i < sls.length) (n : ∀ a, BJ E (sls.set i (slL rx a)) (i :: rmv own i) u (m a) r fN oN fL oL) :
    BJ E sls own (tSeq (tAsg te (gName i)) u) (fun k => c fun a => m a k) r fN oN fL oL := fun O0 H0 G σ H I k hk D q1 q2 q3 q4 =>
  h _ σ H I.sl _ hk _ fun a p vs H2 ka x np hp hr hl => n a O0 H0 G _ H2 (I.made x np hp True.intro ⟨p, vs, rfl, .inl (by rw [hid_out fun z => I.sl.nOn np (I.sl.mo p z)]; exact hp), hr, hl⟩ hi) k ka D q1 q2 q3 q4
theorem bj_asgD {i : Nat} {e : Ky κ} {c : PT (List (κ × α))} {m : List (κ × α) → PT (Ctl β L N)} (h : ED E sls te e rx c) (hi : i < sls.length) (n : ∀ a, BJ E (sls.set i (slDk e rx a)) (i :: rmv own i) u (m a) r fN oN fL oL) :
    BJ E sls own (tSeq (tAsg te (gName i)) u) (fun k => c fun a => m a k) r fN oN fL oL := fun O0 H0 G σ H I k hk D q1 q2 q3 q4 =>
  h _ σ H I.sl _ hk _ fun a p vs H2 ka x np hp hr hl => n a O0 H0 G _ H2 (I.made x np hp True.intro ⟨p, vs, rfl, .inl (by rw [hid_out fun z => I.sl.nOn np (I.sl.mo p z)]; exact hp), hr, hl⟩ hi) k ka D q1 q2 q3 q4
theorem bj_asgDt {i : Nat} {e : Kt κ} {c : PT (List (κ × α))} {m : List (κ × α) → PT (Ctl β L N)} (h : EDt E sls te e rx c) (hi : i < sls.length) (n : ∀ a, BJ E (sls.set i (slDt e rx a)) (i :: rmv own i) u (m a) r fN oN fL oL) :
    BJ E sls own (tSeq (tAsg te (gName i)) u) (fun k => c fun a => m a k) r fN oN fL oL := fun O0 H0 G σ H I k hk D q1 q2 q3 q4 =>
  h _ σ H I.sl _ hk _ fun a p vs H2 ka x np hp hr hl => n a O0 H0 G _ H2 (I.made x np hp True.intro ⟨p, vs, rfl, .inl (by rw [hid_out fun z => I.sl.nOn np (I.sl.mo p z)]; exact hp), hr, hl⟩ hi) k ka D q1 q2 q3 q4
/-- a value thrown away -/
theorem bj_drop {c : PT α} {m : α → PT (Ctl β L N)} (h : EV E sls te rx c) (n : ∀ a, BJ E sls own u (m a) r fN oN fL oL) : BJ E sls own (tSeq (tDrop te) u) (fun k => c fun a => m a k) r fN oN fL oL := fun O0 H0 G σ H I k hk D q1 q2 q3 q4 =>
  h _ σ H I.sl _ hk _ fun a v H2 ka x hv => n a O0 H0 G _ H2 (I.ext x) k ka D q1 q2 q3 q4
/-- a target of several names -/
theorem SI.tgt {O0 : Addr → Prop} {H0 G : Hp} {σ σ' : L2.St} {H : Hp} {sls' : List (Sl K)} {js : List Nat} (I : SI E O0 H0 G sls own σ H) (S : SL (OwnOf O0 own σ) E sls' σ' H) (hs : Hs sls sls') (h2 : ∀ i, i ∉ js → σ'[i]? = σ[i]?) (hd : ∀ j ∈ own, j ∉ js) : SI E O0 H0 G sls' own σ' H := by
  have ho : ∀ j ∈ own, j ∈ own ∧ σ'[j]? = σ[j]? := fun j hj => ⟨hj, h2 j (hd j hj)⟩
  exact I.chg ho (pmap S.sl fun o sl h => sl.mono (ew_hid_le (own_le ho)) (Ef.refl _) h) fun j sl a b => let ⟨s, e, h⟩ := hs j sl a b; I.hk j s e h
theorem bj_asgG {g : TG} {js : List Nat} {h : α → List (Sl K)} {c : PT α} {m : α → PT (Ctl β L N)} (he : EV E sls te rx c) (hg : GT E sls g rx js h) (hd : ∀ j ∈ own, j ∉ js) (n : ∀ a, BJ E (h a) own u (m a) r fN oN fL oL) :
    BJ E sls own (tSeq (tAsg te g) u) (fun k => c fun a => m a k) r fN oN fL oL := fun O0 H0 G σ H I k hk D q1 q2 q3 q4 =>
  he _ σ H I.sl _ hk _ fun a v H2 ka x hv => hg _ σ H2 a v (I.ext x).sl hv _ fun σ' S' hs h1 h2 => n a O0 H0 G σ' H2 ((I.ext x).tgt S' hs h2 hd) k ka D q1 q2 q3 q4
/-- one's own from now on known by value -/
theorem SI.frz {O0 : Addr → Prop} {H0 G : Hp} {σ : L2.St} {H : Hp} {i : Nat} {sl sl' : Sl K} (I : SI E O0 H0 G sls own σ H) (hi : i ∈ own) (h : sls[i]? = some sl) (hp : sl'.hp = false)
    (to : ∀ {F F' H : Hp} {p : Addr}, Ew F F' → (∀ u, Pl u → Rd H p u → Rd F' p u) → sl.p F H (some (.ref p)) → sl'.p F' H (some (.ref p))) : SI E O0 H0 G (sls.set i sl') (rmv own i) σ H := by
  obtain ⟨o, eo, q⟩ := I.sl.at h
  obtain ⟨p, u, e, Gp, H0p, nM, nO0, hp', pu⟩ := I.ow i hi
  rw [e] at eo
  cases eo
  have h1 : ∀ j ∈ rmv own i, j ∈ own ∧ σ[j]? = σ[j]? := fun j hj => ⟨(mem_rmv.mp hj).1, rfl⟩
  have nO : ¬ OwnOf O0 (rmv own i) σ p := fun z => by
    rcases z with z | ⟨j, hj, ej⟩
    · exact nO0 z
    · exact (mem_rmv.mp hj).2 (I.ap j (mem_rmv.mp hj).1 i hi (by rw [ej, e]))
  have base := pmap I.sl.sl fun o sl h => sl.mono (ew_hid_le (own_le h1)) (Ef.refl _) h
  have := set_sl (i := i) (to (F' := hid H (OwnOf O0 (rmv own i) σ)) (ew_hid_le (own_le h1)) (fun u pu hr => rd_hid.mpr ⟨nO, (rd_hid.mp hr).2⟩) q) base
  rw [set_self e] at this
  refine I.chg h1 this fun j s hj hs => ?_
  by_cases c : j = i
  · subst c
    rw [List.getElem?_set_self (List.getElem?_eq_some_iff.mp h).1] at hj
    cases hj
    rw [hp] at hs
    cases hs
  · rw [at_ne c] at hj
    exact mem_rmv.mpr ⟨I.hk j s hj hs, c⟩
theorem bj_frzL {i : Nat} {xs : List α} {m : PT (Ctl β L N)} (hi : i ∈ own) (h : sls[i]? = some (slL rx xs)) (n : BJ E (sls.set i (slV (rLst rx) xs)) (rmv own i) u m r fN oN fL oL) : BJ E sls own u m r fN oN fL oL := fun O0 H0 G σ H I k hk D =>
  n O0 H0 G σ H (I.frz hi h rfl fun w hr ⟨p, vs, eo, a, b, c⟩ => by cases eo; exact ⟨_, rfl, _, vs, rfl, hr (.lst vs) True.intro a, pmap b fun _ _ z => rx.mono w z, c⟩) k hk D
theorem bj_frzD {i : Nat} {e : Ky κ} {xs : List (κ × α)} {m : PT (Ctl β L N)} (hi : i ∈ own) (h : sls[i]? = some (slDk e rx xs)) (n : BJ E (sls.set i (slV (rDk e rx) xs)) (rmv own i) u m r fN oN fL oL) : BJ E sls own u m r fN oN fL oL := fun O0 H0 G σ H I k hk D =>
  n O0 H0 G σ H (I.frz hi h rfl fun w hr ⟨p, vs, eo, a, b, c⟩ => by cases eo; exact ⟨_, rfl, _, vs, rfl, hr (.dK vs) True.intro a, pmap b fun _ _ z => ⟨z.1, rx.mono w z.2⟩, c⟩) k hk D
theorem bj_frzDt {i : Nat} {e : Kt κ} {xs : List (κ × α)} {m : PT (Ctl β L N)} (hi : i ∈ own) (h : sls[i]? = some (slDt e rx xs)) (n : BJ E (sls.set i (slV (rDt e rx) xs)) (rmv own i) u m r fN oN fL oL) : BJ E sls own u m r fN oN fL oL := fun O0 H0 G σ H I k hk D =>
  n O0 H0 G σ H (I.frz hi h rfl fun w hr ⟨p, vs, eo, a, b, c⟩ => by cases eo; exact ⟨_, rfl, _, vs, rfl, hr (.dT vs) True.intro a, pmap b fun _ _ z => ⟨z.1, rx.mono w z.2⟩, c⟩) k hk D
/-- what one owns, as it stands now -/
theorem SI.atL {O0 : Addr → Prop} {H0 G : Hp} {σ : L2.St} {H : Hp} {i : Nat} {xs : List α} (I : SI E O0 H0 G sls own σ H) (hi : i ∈ own) (h : sls[i]? = some (slL rx xs)) : ∃ p vs, σ[i]? = some (some (.ref p)) ∧ ¬ E.M p ∧ H p = some (.lst vs) ∧ Paired (rx.rp (hid H (OwnOf O0 own σ))) vs xs ∧ vs.length ≤ big := by
  obtain ⟨o, eo, p, vs, e1, hr, hp, hl⟩ := I.sl.at h
  subst e1
  obtain ⟨p', u, e, _, _, nM, _, hp', pu⟩ := I.ow i hi
  rw [e] at eo
  cases eo
  have := rd_one (.inl hp') (rd_hid.mp hr).2 pu True.intro
  subst this
  exact ⟨p, vs, e, nM, hp', hp, hl⟩
theorem SI.atD {O0 : Addr → Prop} {H0 G : Hp} {σ : L2.St} {H : Hp} {i : Nat} {e : Ky κ} {xs : List (κ × α)} (I : SI E O0 H0 G sls own σ H) (hi : i ∈ own) (h : sls[i]? = some (slDk e rx xs)) : ∃ p vs, σ[i]? = some (some (.ref p)) ∧ ¬ E.M p ∧ H p = some (.dK vs) ∧ Paired (DkRel e.enc rx (hid H (OwnOf O0 own σ))) vs xs ∧ vs.length ≤ big := by
  obtain ⟨o, eo, p, vs, e1, hr, hp, hl⟩ := I.sl.at h
  subst e1
  obtain ⟨p', u, e, _, _, nM, _, hp', pu⟩ := I.ow i hi
  rw [e] at eo
  cases eo
  have := rd_one (.inl hp') (rd_hid.mp hr).2 pu True.intro
  subst this
  exact ⟨p, vs, e, nM, hp', hp, hl⟩
theorem SI.atDt {O0 : Addr → Prop} {H0 G : Hp} {σ : L2.St} {H : Hp} {i : Nat} {e : Kt κ} {xs : List (κ × α)} (I : SI E O0 H0 G sls own σ H) (hi : i ∈ own) (h : sls[i]? = some (slDt e rx xs)) : ∃ p vs, σ[i]? = some (some (.ref p)) ∧ ¬ E.M p ∧ H p = some (.dT vs) ∧ Paired (DtRel e.enc rx (hid H (OwnOf O0 own σ))) vs xs ∧ vs.length ≤ big := by
  obtain ⟨o, eo, p, vs, e1, hr, hp, hl⟩ := I.sl.at h
  subst e1
  obtain ⟨p', u, e, _, _, nM, _, hp', pu⟩ := I.ow i hi
  rw [e] at eo
  cases eo
  have := rd_one (.inl hp') (rd_hid.mp hr).2 pu True.intro
  subst this
  exact ⟨p, vs, e, nM, hp', hp, hl⟩
/-- behind a change of one's own, what slots say by it -/
theorem own_hid {O0 : Addr → Prop} {H0 G : Hp} {σ : L2.St} {H : Hp} {i : Nat} {p : Addr} {w : HO} (I : SI E O0 H0 G sls own σ H) (hi : i ∈ own) (e : σ[i]? = some (some (.ref p))) : hid (upd H p w) (OwnOf O0 own σ) = hid H (OwnOf O0 own σ) := funext fun a => by
  by_cases c : OwnOf O0 own σ a
  · rw [hid_in c, hid_in c]
  · rw [hid_out c, hid_out c, upd_ne fun z => c (by subst z; exact .inr ⟨i, hi, e⟩)]
theorem SI.putL {O0 : Addr → Prop} {H0 G : Hp} {σ : L2.St} {H : Hp} {i : Nat} {p : Addr} {vs : List V} {xs : List α} (I : SI E O0 H0 G sls own σ H) (hi : i ∈ own) (e : σ[i]? = some (some (.ref p))) (nM : ¬ E.M p) (hp : Paired (rx.rp (hid H (OwnOf O0 own σ))) vs xs) (hl : xs.length ≤ big) : SI E O0 H0 G (sls.set i (slL rx xs)) own σ (upd H p (.lst vs)) :=
  I.mut hi e True.intro ⟨p, vs, rfl, .inl (by rw [hid_out nM]; exact upd_same), hp, by rw [hp.length]; exact hl⟩
/-- l.append(e) -/
theorem bj_app {i : Nat} {xs : List α} {c : PT α} {m : List α → PT (Ctl β L N)} (hi : i ∈ own) (h0 : sls[i]? = some (slL rx xs)) (h : EV E sls te rx c) (n : ∀ ys, BJ E (sls.set i (slL rx ys)) own u (m ys) r fN oN fL oL) :
    BJ E sls own (tSeq (tDrop (tBM K "list" rAppend (tVar i) (tCons te tNil))) u) (fun k => c fun a => xs.length < big ∧ m (xs ++ [a]) k) r fN oN fL oL := fun O0 H0 G σ H I k hk D q1 q2 q3 q4 => by
  obtain ⟨p, vs, e, nM, hp, hv, hl⟩ := I.atL hi h0
  refine ⟨_, e, .inl ⟨rfl, vs, .inl (.inl hp)⟩, h _ σ H I.sl _ hk _ fun a v H2 ka x hv2 => ?_⟩
  have I2 := I.ext x
  have hp2 := x.keep hp nM
  have hv' := pmap hv fun _ _ z => I.sl.rep x z
  exact ⟨p, vs, v, rfl, rfl, hp2, lt_line (by rw [hv.length]; exact ka.1), n _ O0 H0 G σ _ (I2.putL hi e nM (paired_app hv' (.cons hv2 .nil)) (by rw [List.length_append]; exact ka.1)) k ka.2 D q1 q2 q3 q4⟩
/-- d[k] = e, keys ints or texts -/
theorem bj_dput [DecidableEq κ] {i : Nat} {e : Ky κ} {rk : R K κ} (Kr : KyR rk e) {tk : TE} {xs : List (κ × α)} {c : PT α} {ck : PT κ} {m : List (κ × α) → PT (Ctl β L N)} (hi : i ∈ own) (h0 : sls[i]? = some (slDk e rx xs)) (hk' : EV E sls tk rk ck) (h : EV E sls te rx c) (n : ∀ ys, BJ E (sls.set i (slDk e rx ys)) own u (m ys) r fN oN fL oL) :
    BJ E sls own (tSeq (sDPut (tVar i) tk te) u) (fun k => c fun a => ck fun b => xs.length < big ∧ m (dput xs b a) k) r fN oN fL oL := fun O0 H0 G σ H I k hk D q1 q2 q3 q4 => by
  obtain ⟨p, vs, e1, nM, hp, hv, hl⟩ := I.atD hi h0
  refine h _ σ H I.sl _ hk _ fun a v H2 ka x hv2 => ⟨_, e1, hk' _ σ H2 (I.ext x).sl _ ka _ fun b y H3 kb x3 hy => ?_⟩
  have I3 := (I.ext x).ext x3
  have hp3 := x3.keep (x.keep hp nM) nM
  have hv' : Paired (DkRel e.enc rx (hid H3 (OwnOf O0 own σ))) vs xs := pmap hv fun _ _ z => ⟨z.1, (I.ext x).sl.rep x3 (I.sl.rep x z.2)⟩
  refine ⟨p, upd H3 p (.dK (putK vs (e.enc b) v)), rfl, .inl ⟨vs, e.enc b, hp3, Kr.is hy, lt_line (by rw [hv.length]; exact kb.1), rfl⟩, n _ O0 H0 G σ _ (I3.mut hi e1 (u := .dK _) True.intro ?_) k kb.2 D q1 q2 q3 q4⟩
  have := paired_dputK (e := e) (a := b) ((I.ext x).sl.rep x3 hv2) hv'
  exact ⟨p, _, rfl, .inl (by rw [hid_out nM]; exact upd_same), this, by rw [this.length]; have := dput_len xs b a; have := kb.1; omega⟩
/-- .., keys tuples shown as they are made -/
theorem bj_dputT [DecidableEq κ] {i : Nat} {e : Kt κ} {f : RF K κ} (Kr : KtX f e) {tk : TA} {xs : List (κ × α)} {c : PT α} {ck : PT κ} {m : List (κ × α) → PT (Ctl β L N)} (hi : i ∈ own) (h0 : sls[i]? = some (slDt e rx xs)) (hk' : EA E sls tk f ck) (h : EV E sls te rx c) (n : ∀ ys, BJ E (sls.set i (slDt e rx ys)) own u (m ys) r fN oN fL oL) (hn : f.n ≤ 1000 := by exact of_decide_eq_true rfl) :
    BJ E sls own (tSeq (sDPut (tVar i) (tTup tk) te) u) (fun k => c fun a => ck fun b => xs.length < big ∧ m (dput xs b a) k) r fN oN fL oL := fun O0 H0 G σ H I k hk D q1 q2 q3 q4 => by
  obtain ⟨p, vs, e1, nM, hp, hv, hl⟩ := I.atDt hi h0
  refine h _ σ H I.sl _ hk _ fun a v H2 ka x hv2 => ⟨_, e1, hk' _ σ H2 (I.ext x).sl _ ka _ fun b ys H3 kb x3 hy => ⟨by rw [f.len hy]; exact Nat.le_trans hn (by decide), fun P nP => ?_⟩⟩
  have I3 := (I.ext x).ext x3
  have n4 := I3.sl.new (u := .tup ys) nP
  have I4 := I3.ext n4.1
  have hp4 := n4.1.keep (x3.keep (x.keep hp nM) nM) nM
  have hv' : Paired (DtRel e.enc rx (hid (upd H3 P (.tup ys)) (OwnOf O0 own σ))) vs xs := pmap hv fun _ _ z => ⟨z.1, I3.sl.rep n4.1 ((I.ext x).sl.rep x3 (I.sl.rep x z.2))⟩
  refine ⟨p, upd (upd H3 P (.tup ys)) p (.dT (putK vs (e.enc b) v)), rfl, .inr ⟨vs, e.enc b, P, hp4, rfl, by rw [upd_same, Kr.is hy], lt_line (by rw [hv.length]; exact kb.1), rfl⟩, n _ O0 H0 G σ _ (I4.mut hi e1 (u := .dT _) True.intro ?_) k kb.2 D q1 q2 q3 q4⟩
  have := paired_dputT (e := e) (a := b) (I3.sl.rep n4.1 ((I.ext x).sl.rep x3 hv2)) hv'
  exact ⟨p, _, rfl, .inl (by rw [hid_out nM]; exact upd_same), this, by rw [this.length]; have := dput_len xs b a; have := kb.1; omega⟩
/-- l[i] = e -/
theorem paired_setV {F : V → α → Prop} {v : V} {a : α} (h : F v a) : ∀ {vs : List V} {xs : List α} (j : Nat), Paired F vs xs → Paired F (vs.set j v) (xs.set j a) := fun j t => paired_set h j t
theorem bj_setL {i : Nat} {ti : TE} {xs : List α} {c : PT α} {ci : PT Int} {m : List α → PT (Ctl β L N)} (hi : i ∈ own) (h0 : sls[i]? = some (slL rx xs)) (hk' : EV E sls ti rInt ci) (h : EV E sls te rx c) (n : ∀ ys, BJ E (sls.set i (slL rx ys)) own u (m ys) r fN oN fL oL) :
    BJ E sls own (tSeq (tAsg te (gSub (tVar i) ti rSetL)) u) (fun k => c fun a => ci fun j => ∃ n, ixN xs.length j = some n ∧ m (xs.set n a) k) r fN oN fL oL := fun O0 H0 G σ H I k hk D q1 q2 q3 q4 => by
  obtain ⟨p, vs, e1, nM, hp, hv, hl⟩ := I.atL hi h0
  refine h _ σ H I.sl _ hk _ fun a v H2 ka x hv2 => ⟨_, e1, hk' _ σ H2 (I.ext x).sl _ ka _ fun b y H3 ⟨j, ej, kb⟩ x3 hy => ?_⟩
  have I3 := (I.ext x).ext x3
  have hp3 := x3.keep (x.keep hp nM) nM
  have hv' := pmap hv fun _ _ z => (I.ext x).sl.rep x3 (I.sl.rep x z)
  exact ⟨p, vs, b, j, rfl, hy, hp3, by rw [hv.length]; exact ej, n _ O0 H0 G σ _ (I3.putL hi e1 nM (paired_setV ((I.ext x).sl.rep x3 hv2) j hv') (by rw [List.length_set, ← hv.length]; exact hl)) k kb D q1 q2 q3 q4⟩
/-- l.extend(a new list) -/
theorem bj_ext {i : Nat} {xs : List α} {c : PT (List α)} {m : List α → PT (Ctl β L N)} (hi : i ∈ own) (h0 : sls[i]? = some (slL rx xs)) (h : EL E sls te rx c) (n : ∀ ys, BJ E (sls.set i (slL rx ys)) own u (m ys) r fN oN fL oL) :
    BJ E sls own (tSeq (tDrop (tBM K "list" rExtend (tVar i) (tCons te tNil))) u) (fun k => c fun a => (xs ++ a).length ≤ big ∧ m (xs ++ a) k) r fN oN fL oL := fun O0 H0 G σ H I k hk D q1 q2 q3 q4 => by
  obtain ⟨p, vs, e, nM, hp, hv, hl⟩ := I.atL hi h0
  refine ⟨_, e, .inl ⟨rfl, vs, .inl (.inl hp)⟩, h _ σ H I.sl _ hk _ fun a P ws H2 ka x nP hP hr hl2 => ?_⟩
  have I2 := I.ext x
  have hp2 := x.keep hp nM
  have hv' := pmap hv fun _ _ z => I.sl.rep x z
  have hr' := pmap hr fun _ _ z => rx.mono (ew_hid_le fun a h => .inl h) z
  refine ⟨p, P, vs, ws, rfl, rfl, hp2, hP, le_line (by rw [hv.length, hr.length, ← List.length_append]; exact ka.1), n _ O0 H0 G σ _ (I2.putL hi e nM (paired_app hv' hr') ka.1) k ka.2 D q1 q2 q3 q4⟩
/-- x op= e on an int -/
theorem bj_aug {i : Nat} {a : Int} {g : Int → Int → Int} {c : PT Int} {m : Int → PT (Ctl β L N)} (h0 : sls[i]? = some (slV rInt a)) (h : EV E sls te rInt c) (n : ∀ b, BJ E (sls.set i (slV rInt b)) (rmv own i) u (m b) r fN oN fL oL) :
    BJ E sls own (tSeq (tAug i te (ipI g)) u) (fun k => c fun b => m (g a b) k) r fN oN fL oL := fun O0 H0 G σ H I k hk D q1 q2 q3 q4 => by
  obtain ⟨v, e, hv⟩ := I.sl.val h0
  exact ⟨v, e, h _ σ H I.sl _ hk _ fun b y H2 kb x hy => ⟨a, b, hv, hy, n _ O0 H0 G _ H2 ((I.ext x).set (r := rInt) rfl) k kb D q1 q2 q3 q4⟩⟩
/-- if -/
theorem bj_if {tt : TT} {t1 t2 : TS} {c : PT Bool} {m1 m2 : PT (Ctl β L M)} {m3 : M → PT (Ctl β L N)} {fM : M → List (Sl K)} {oM : List Nat} (h : ET E sls tt c) (h1 : BJ E sls own t1 m1 r fM oM fL oL) (h2 : BJ E sls own t2 m2 r fM oM fL oL) (n : ∀ s, BJ E (fM s) oM u (m3 s) r fN oN fL oL) :
    BJ E sls own (tSeq (tIfS tt t1 t2) u) (fun k => c fun b => if b = true then m1 (seqK m3 k) else m2 (seqK m3 k)) r fN oN fL oL := fun O0 H0 G σ H I k hk D q1 q2 q3 q4 =>
  h _ σ H I.sl _ hk _ fun b H2 kb x => by
    cases b with
    | true =>
      rw [if_pos rfl] at kb ⊢
      exact h1 O0 H0 G σ H2 (I.ext x) _ kb { D with nx := u D } (fun s σ' H' ks I' => n s O0 H0 G σ' H' I' k ks D q1 q2 q3 q4) q2 q3 q4
    | false =>
      rw [if_neg Bool.false_ne_true] at kb ⊢
      exact h2 O0 H0 G σ H2 (I.ext x) _ kb { D with nx := u D } (fun s σ' H' ks I' => n s O0 H0 G σ' H' I' k ks D q1 q2 q3 q4) q2 q3 q4
/-- if, one way of which never comes behind: what follows stands in the other way -/
theorem bj_ifD {tt : TT} {t1 t2 : TS} {c : PT Bool} {m1 m2 : PT (Ctl β L N)} (h : ET E sls tt c) (h1 : BJ E sls own (tSeq t1 u) m1 r fN oN fL oL) (h2 : BJ E sls own (tSeq t2 u) m2 r fN oN fL oL) :
    BJ E sls own (tSeq (tIfS tt t1 t2) u) (fun k => c fun b => if b = true then m1 k else m2 k) r fN oN fL oL := fun O0 H0 G σ H I k hk D q1 q2 q3 q4 =>
  h _ σ H I.sl _ hk _ fun b H2 kb x => by
    cases b with
    | true =>
      rw [if_pos rfl] at kb ⊢
      exact h1 O0 H0 G σ H2 (I.ext x) _ kb D q1 q2 q3 q4
    | false =>
      rw [if_neg Bool.false_ne_true] at kb ⊢
      exact h2 O0 H0 G σ H2 (I.ext x) _ kb D q1 q2 q3 q4
/-- while -/
theorem bj_while {tt : TT} {tb : TS} {t : S → PT Bool} {body : S → PT (Ctl β S S)} {m : S → PT (Ctl β L N)} {fS : S → List (Sl K)} {oS : List Nat} {s0 : S} (w : Wks oS 0 sls (fS s0)) (ho : ∀ j ∈ oS, j ∈ own) (ht : ∀ s, ET E (fS s) tt (t s)) (hb : ∀ s, BJ E (fS s) oS tb (body s) r fS oS fS oS) (n : ∀ s, BJ E (fS s) oS u (m s) r fN oN fL oL) :
    BJ E sls own (tSeq (tWhile tt tb) u) (fun k => whileT s0 t body (seqK m k)) r fN oN fL oL := fun O0 H0 G σ H I k ⟨n0, hk⟩ D q1 q2 q3 q4 => by
  refine ⟨fun n σ H => ∃ s, SI E O0 H0 G (fS s) oS σ H ∧ whileN n s t body (seqK m k), ⟨n0, s0, I.wk w ho, hk⟩, ?_⟩
  rintro n1 σ1 H1 ⟨s, I1, hk1⟩
  cases n1 with
  | zero => exact hk1.elim
  | succ n1 =>
    refine ht s _ σ1 H1 I1.sl _ hk1 _ fun b H2 kb x => ?_
    cases b with
    | false =>
      rw [if_neg Bool.false_ne_true] at kb ⊢
      exact n s O0 H0 G σ1 H2 (I1.ext x) k kb D q1 q2 q3 q4
    | true =>
      rw [if_pos rfl] at kb ⊢
      refine ⟨fun σ' H' => ∃ s, SI E O0 H0 G (fS s) oS σ' H' ∧ whileN n1 s t body (seqK m k), fun σ' H' hN => ⟨n1, Nat.lt_succ_self _, hN⟩, ?_⟩
      refine hb s O0 H0 G σ1 H2 (I1.ext x) _ kb _ (fun s' σ' H' ks I' => ⟨s', I', ks⟩) (fun b v H' kb' a1 a2 a3 => q2 b v H' kb' a1 a2 a3) (fun s' σ' H' ks I' => n s' O0 H0 G σ' H' I' k ks D q1 q2 q3 q4) (fun s' σ' H' ks I' => ⟨s', I', ks⟩)
/-- for -/
theorem bj_for {wi : TI} {g : TG} {tb : TS} {js : List Nat} {rx : R K α} {cx : PT (List α)} {body : α → S → PT (Ctl β S S)} {m : S → PT (Ctl β L N)} {fS : S → List (Sl K)} {h : S → α → List (Sl K)} {oS : List Nat} {s0 : S} (hi : IV E sls wi rx cx)
    (w : Wks oS 0 sls (fS s0)) (ho : ∀ j ∈ oS, j ∈ own) (hg : ∀ s, GT E (fS s) g rx js (h s)) (hd : ∀ j ∈ oS, j ∉ js) (hb : ∀ s a, BJ E (h s a) oS tb (body a s) r fS oS fS oS) (n : ∀ s, BJ E (fS s) oS u (m s) r fN oN fL oL) :
    BJ E sls own (tSeq (tFor wi g tb) u) (fun k => cx fun xs => forC xs s0 body (seqK m k)) r fN oN fL oL := fun O0 H0 G σ H I k hk D q1 q2 q3 q4 =>
  hi _ σ H I.sl _ hk _ fun xs J H2 ka x2 W => by
    have I2 := (I.ext x2)
    have I2' := (I2.wk w ho)
    have le : Ef (hid H2 (OwnOf O0 own σ)) (hid H2 (OwnOf O0 oS σ)) := ef_hid_le (own_le fun j hj => ⟨ho j hj, rfl⟩)
    refine ⟨fun i m' σ3 H3 => m' = xs.length - i ∧ i ≤ xs.length ∧ ∃ s, SI E O0 H0 (hid H2 (OwnOf O0 oS σ)) (fS s) oS σ3 H3 ∧ forC (xs.drop i) s body (seqK m k), ⟨xs.length, by simp, Nat.zero_le _, s0, I2'.fresh, by simpa using ka⟩, ?_⟩
    rintro i m' σ3 H3 ⟨rfl, hi', s, I3, kc⟩
    have b3 : Ef (hid H2 (OwnOf O0 own σ)) H3 := (le.trans I3.g).trans ef_un
    by_cases hlt : i < xs.length
    · refine .inr ⟨W.go i H3 hlt b3, fun σ' H' => xs.length - (i + 1) < xs.length - i ∧ ∃ s, SI E O0 H0 (hid H2 (OwnOf O0 oS σ)) (fS s) oS σ' H' ∧ forC (xs.drop (i + 1)) s body (seqK m k), fun σ' H' ⟨h1, h2⟩ => ⟨xs.length - (i + 1), h1, rfl, hlt, h2⟩, fun v H4 y => ?_⟩
      obtain ⟨ex, a, ea, hv⟩ := W.yld (OwnOf O0 oS σ3) i H3 v H4 hlt b3 I3.sl.od (le.trans I3.g).ew y
      rw [drop_at ea, forC] at kc
      have I4 := I3.ext (.of_ex ex I3.sl.inv)
      refine hg s _ σ3 H4 a v I4.sl hv _ fun σ5 S5 hs h1 h2 => ?_
      refine hb s a O0 H0 _ σ5 H4 (I4.tgt S5 hs h2 hd) _ kc _ (fun s' σ' H' ks I' => ⟨by omega, s', I', ks⟩) (fun b v H' kb' a1 a2 a3 => q2 b v H' kb' a1 a2 a3) (fun s' σ' H' ks I' => n s' O0 H0 G σ' H' (I'.ghost (I2'.g)) k ks D q1 q2 q3 q4) (fun s' σ' H' ks I' => ⟨by omega, s', I', ks⟩)
    · have e : i = xs.length := by omega
      subst e
      rw [List.drop_length, forC] at kc
      exact .inl ⟨W.stop H3 b3, n s O0 H0 G σ3 H3 (I3.ghost I2'.g) k kc D q1 q2 q3 q4⟩
end
end Nz

/-! Nz6: several targets, calls with a tape, defs as a whole. -/
namespace Nz
open PySem L2
variable {K : PySem.W.Frag} {E : Eff}
section
variable {α β γ κ S : Type} {te ta tb tc : TE} {sls : List (Sl K)}
/-! ### values that may be new things of one's own -/
def Hold (E : Eff) (b : Bool) (sl : Sl K) (v : V) (H H2 : Hp) (O : Addr → Prop) : Prop :=
  (b = true ∧ ∃ p u, v = .ref p ∧ H p = none ∧ H2 p = some u ∧ Pl u ∧ sl.p (hid H2 (wD O p)) (hid H2 E.M) (some v)) ∨ (b = false ∧ sl.hp = false ∧ sl.p (hid H2 O) (hid H2 E.M) (some v))
def US (E : Eff) (sls : List (Sl K)) (b : Bool) (te : TE) (f : α → Sl K) (c : PT α) : Prop := ∀ O σ H, SL O E sls σ H → ∀ k : α → Prop, c k → ∀ Q : VK, (∀ a v H2, k a → XX E H H2 → Hold E b (f a) v H H2 O → Q v H2) → te σ H Q
theorem us_v {r : R K α} {c : PT α} (h : EV E sls te r c) : US E sls false te (slV r) c := fun O σ H S k hk Q q => h _ σ H S k hk Q fun a v H2 ka x hv => q a v H2 ka x (.inr ⟨rfl, rfl, v, rfl, hv⟩)
theorem us_l {r : R K α} {c : PT (List α)} (h : EL E sls te r c) : US E sls true te (slL r) c := fun O σ H S k hk Q q => h _ σ H S k hk Q fun a p vs H2 ka x np hp hr hl => q a _ H2 ka x (.inl ⟨rfl, p, _, rfl, np, hp, True.intro, p, vs, rfl, .inl (by rw [hid_out fun z => S.nOn np (S.mo p z)]; exact hp), hr, hl⟩)
theorem us_d {e : Ky κ} {r : R K α} {c : PT (List (κ × α))} (h : ED E sls te e r c) : US E sls true te (slDk e r) c := fun O σ H S k hk Q q => h _ σ H S k hk Q fun a p vs H2 ka x np hp hr hl => q a _ H2 ka x (.inl ⟨rfl, p, _, rfl, np, hp, True.intro, p, vs, rfl, .inl (by rw [hid_out fun z => S.nOn np (S.mo p z)]; exact hp), hr, hl⟩)
theorem us_dt {e : Kt κ} {r : R K α} {c : PT (List (κ × α))} (h : EDt E sls te e r c) : US E sls true te (slDt e r) c := fun O σ H S k hk Q q => h _ σ H S k hk Q fun a p vs H2 ka x np hp hr hl => q a _ H2 ka x (.inl ⟨rfl, p, _, rfl, np, hp, True.intro, p, vs, rfl, .inl (by rw [hid_out fun z => S.nOn np (S.mo p z)]; exact hp), hr, hl⟩)
def ownW (b : Bool) (i : Nat) (own : List Nat) : List Nat := if b then i :: rmv own i else rmv own i
section
variable {O0 : Addr → Prop} {H0 G : Hp} {own : List Nat} {σ : L2.St} {H H2 : Hp} {b : Bool} {sl : Sl K} {v : V} {i : Nat} {O : Addr → Prop}
theorem SI.hold (I : SI E O0 H0 G sls own σ H) (x : XX E H H2) (h : Hold E b sl v H H2 O) (le : ∀ a, OwnOf O0 own σ a → O a) (hi : i < sls.length) : SI E O0 H0 G (sls.set i sl) (ownW b i own) (σ.set i (some v)) H2 := by
  rcases h with ⟨rfl, p, u, rfl, np, hp, pu, hs⟩ | ⟨rfl, hh, hs⟩
  · exact I.made x np hp pu (sl.mono (ew_hid_le fun a z => z.elim (fun z => .inl (le a z)) .inr) (Ef.refl _) hs) hi
  · exact (I.ext x).setS hh (sl.mono (ew_hid_le le) (Ef.refl _) hs)
/-- what a held value hides besides -/
def hO (b : Bool) (v : V) (O : Addr → Prop) : Addr → Prop := fun a => O a ∨ (b = true ∧ v = .ref a)
theorem hold_SL (S : SL O E sls σ H) (x : XX E H H2) (h : Hold E b sl v H H2 O) : SL (hO b v O) E sls σ H2 := by
  rcases h with ⟨rfl, p, u, rfl, np, hp, pu, hs⟩ | ⟨rfl, hh, hs⟩
  · have e : hO true (.ref p) O = wD O p := funext fun a => propext ⟨fun z => z.elim .inl fun z => .inr (by have := V.ref.inj z.2; exact this.symm), fun z => z.elim .inl fun z => .inr ⟨rfl, by rw [z]⟩⟩
    rw [e]
    exact S.withD np x ⟨u, hp, pu.nt⟩
  · have e : hO false v O = O := funext fun a => propext ⟨fun z => z.elim id (fun z => (nomatch z.1)), .inl⟩
    rw [e]
    exact S.ext x
theorem hold_le {own : List Nat} (le : ∀ a, OwnOf O0 own σ a → O a) (hi : i < σ.length) (h : Hold E b sl v H H2 O) : ∀ a, OwnOf O0 (ownW b i own) (σ.set i (some v)) a → hO b v O a := fun a ha => by
  rcases ha with ha | ⟨j, hj, e⟩
  · exact .inl (le a (.inl ha))
  · by_cases c : j = i
    · subst c
      rw [List.getElem?_set_self hi] at e
      cases e
      cases b with
      | true => exact .inr ⟨rfl, rfl⟩
      | false => exact ((mem_rmv.mp hj).2 rfl).elim
    · rw [at_ne c] at e
      refine .inl (le a (.inr ⟨j, ?_, e⟩))
      cases b with
      | true =>
        rcases List.mem_cons.mp hj with z | z
        · exact (c z).elim
        · exact (mem_rmv.mp z).1
      | false => exact (mem_rmv.mp hj).1
end
variable {L N M : Type} {own own' : List Nat} {r : R K β} {fN : N → List (Sl K)} {oN : List Nat} {fL : L → List (Sl K)} {oL : List Nat} {u : TS}
theorem core2 {O0 : Addr → Prop} {H0 G : Hp} {σ : L2.St} {H : Hp} {b1 b2 : Bool} {f : α → Sl K} {g : β → Sl K} {c : PT α} {d : PT β} {i j : Nat} (I : SI E O0 H0 G sls own σ H) (h1 : US E sls b1 ta f c) (h2 : US E sls b2 tb g d) (hi : i < sls.length) (hj : j < sls.length)
    {k : α → β → Prop} (hk : c fun a => d fun b => k a b) {Q : List V → Hp → Prop} (q : ∀ a b v w H3, k a b → SI E O0 H0 G ((sls.set i (f a)).set j (g b)) (ownW b2 j (ownW b1 i own)) ((σ.set i (some v)).set j (some w)) H3 → XX E H H3 → Q [v, w] H3) : (tCons ta (tCons tb tNil)) σ H Q :=
  h1 _ σ H I.sl _ hk _ fun a v H2 ka x1 o1 => h2 _ σ H2 (hold_SL I.sl x1 o1) _ ka _ fun b w H3 kb x2 o2 =>
    q a b v w H3 kb ((I.hold x1 o1 (fun _ z => z) hi).hold x2 o2 (hold_le (fun _ z => z) (by rw [I.sl.sl.length]; exact hi) o1) (by rw [List.length_set]; exact hj)) (x1.trans x2)
theorem core3 {O0 : Addr → Prop} {H0 G : Hp} {σ : L2.St} {H : Hp} {b1 b2 b3 : Bool} {f : α → Sl K} {g : β → Sl K} {h : γ → Sl K} {c : PT α} {d : PT β} {e : PT γ} {i j l : Nat} (I : SI E O0 H0 G sls own σ H) (h1 : US E sls b1 ta f c) (h2 : US E sls b2 tb g d) (h3 : US E sls b3 tc h e) (hi : i < sls.length) (hj : j < sls.length) (hl : l < sls.length)
    {k : α → β → γ → Prop} (hk : c fun a => d fun b => e fun z => k a b z) {Q : List V → Hp → Prop} (q : ∀ a b z v w y H3, k a b z → SI E O0 H0 G (((sls.set i (f a)).set j (g b)).set l (h z)) (ownW b3 l (ownW b2 j (ownW b1 i own))) (((σ.set i (some v)).set j (some w)).set l (some y)) H3 → XX E H H3 → Q [v, w, y] H3) : (tCons ta (tCons tb (tCons tc tNil))) σ H Q :=
  h1 _ σ H I.sl _ hk _ fun a v H2 ka x1 o1 => h2 _ σ H2 (hold_SL I.sl x1 o1) _ ka _ fun b w H3 kb x2 o2 => h3 _ σ H3 (hold_SL (hold_SL I.sl x1 o1) x2 o2) _ kb _ fun z y H4 kz x3 o3 => by
    have li : i < σ.length := by rw [I.sl.sl.length]; exact hi
    have lj : j < (σ.set i (some v)).length := by rw [List.length_set, I.sl.sl.length]; exact hj
    have e1 := hold_le (own := own) (O0 := O0) (fun _ z => z) li o1
    exact q a b z v w y H4 kz (((I.hold x1 o1 (fun _ z => z) hi).hold x2 o2 e1 (by rw [List.length_set]; exact hj)).hold x3 o3 (hold_le e1 lj o2) (by rw [List.length_set, List.length_set]; exact hl)) ((x1.trans x2).trans x3)
theorem bj_par {rb : R K S} {fN : N → List (Sl K)} {b1 b2 : Bool} {f : α → Sl K} {g : β → Sl K} {c : PT α} {d : PT β} {i j : Nat} {m : α → β → PT (Ctl S L N)} (h1 : US E sls b1 ta f c) (h2 : US E sls b2 tb g d) (hi : i < sls.length) (hj : j < sls.length)
    (n : ∀ a b, BJ E ((sls.set i (f a)).set j (g b)) (ownW b2 j (ownW b1 i own)) u (m a b) rb fN oN fL oL) : BJ E sls own (tSeq (tPar i j (tCons ta (tCons tb tNil))) u) (fun k => c fun a => d fun b => m a b k) rb fN oN fL oL := fun O0 H0 G σ H I k hk D q1 q2 q3 q4 => by
  unfold tSeq tPar
  exact core2 I h1 h2 hi hj (k := fun a b => m a b k) hk fun a b v w H3 kb I3 _ => ⟨v, w, rfl, n a b O0 H0 G _ H3 I3 k kb D q1 q2 q3 q4⟩
theorem bj_par3 {rb : R K S} {fN : N → List (Sl K)} {b1 b2 b3 : Bool} {f : α → Sl K} {g : β → Sl K} {h : γ → Sl K} {c : PT α} {d : PT β} {e : PT γ} {i j l : Nat} {m : α → β → γ → PT (Ctl S L N)} (h1 : US E sls b1 ta f c) (h2 : US E sls b2 tb g d) (h3 : US E sls b3 tc h e) (hi : i < sls.length) (hj : j < sls.length) (hl : l < sls.length)
    (n : ∀ a b z, BJ E (((sls.set i (f a)).set j (g b)).set l (h z)) (ownW b3 l (ownW b2 j (ownW b1 i own))) u (m a b z) rb fN oN fL oL) : BJ E sls own (tSeq (tPar3 i j l (tCons ta (tCons tb (tCons tc tNil)))) u) (fun k => c fun a => d fun b => e fun z => m a b z k) rb fN oN fL oL := fun O0 H0 G σ H I k hk D q1 q2 q3 q4 => by
  unfold tSeq tPar3
  exact core3 I h1 h2 h3 hi hj hl (k := fun a b z => m a b z k) hk fun a b z v w y H3 kb I3 _ => ⟨v, w, y, rfl, n a b z O0 H0 G _ H3 I3 k kb D q1 q2 q3 q4⟩
theorem new_ext {O0 : Addr → Prop} {H0 G : Hp} {σ : L2.St} {H : Hp} {p : Addr} {w : HO} (I : SI E O0 H0 G sls own σ H) (np : H p = none) : SI E O0 H0 G sls own σ (upd H p w) := I.ext (I.sl.new np).1
/-- a, b = e1, e2 by the tuple -/
theorem bj_tup2 {rb : R K S} {fN : N → List (Sl K)} {b1 b2 : Bool} {f : α → Sl K} {g : β → Sl K} {c : PT α} {d : PT β} {i j : Nat} {m : α → β → PT (Ctl S L N)} (h1 : US E sls b1 ta f c) (h2 : US E sls b2 tb g d) (hi : i < sls.length) (hj : j < sls.length)
    (n : ∀ a b, BJ E ((sls.set i (f a)).set j (g b)) (ownW b2 j (ownW b1 i own)) u (m a b) rb fN oN fL oL) : BJ E sls own (tSeq (tAsg (tTup (tCons ta (tCons tb tNil))) (gTup K 2 (gCons (gName i) (gCons (gName j) gNil)))) u) (fun k => c fun a => d fun b => m a b k) rb fN oN fL oL := fun O0 H0 G σ H I k hk D q1 q2 q3 q4 => by
  unfold tSeq tAsg tTup
  exact core2 I h1 h2 hi hj (k := fun a b => m a b k) hk fun a b v w H3 kb I3 _ => ⟨by show 2 ≤ sizeLine; decide, fun P nP => ⟨P, [v, w], rfl, .inl (.inl upd_same), rfl, v, [w], rfl, w, [], rfl, rfl, n a b O0 H0 G _ _ (new_ext I3 nP) k kb D q1 q2 q3 q4⟩⟩
theorem bj_tup3 {rb : R K S} {fN : N → List (Sl K)} {b1 b2 b3 : Bool} {f : α → Sl K} {g : β → Sl K} {h : γ → Sl K} {c : PT α} {d : PT β} {e : PT γ} {i j l : Nat} {m : α → β → γ → PT (Ctl S L N)} (h1 : US E sls b1 ta f c) (h2 : US E sls b2 tb g d) (h3 : US E sls b3 tc h e) (hi : i < sls.length) (hj : j < sls.length) (hl : l < sls.length)
    (n : ∀ a b z, BJ E (((sls.set i (f a)).set j (g b)).set l (h z)) (ownW b3 l (ownW b2 j (ownW b1 i own))) u (m a b z) rb fN oN fL oL) : BJ E sls own (tSeq (tAsg (tTup (tCons ta (tCons tb (tCons tc tNil)))) (gTup K 3 (gCons (gName i) (gCons (gName j) (gCons (gName l) gNil))))) u) (fun k => c fun a => d fun b => e fun z => m a b z k) rb fN oN fL oL := fun O0 H0 G σ H I k hk D q1 q2 q3 q4 => by
  unfold tSeq tAsg tTup
  exact core3 I h1 h2 h3 hi hj hl (k := fun a b z => m a b z k) hk fun a b z v w y H3 kb I3 _ => ⟨by show 3 ≤ sizeLine; decide, fun P nP => ⟨P, [v, w, y], rfl, .inl (.inl upd_same), rfl, v, [w, y], rfl, w, [y], rfl, y, [], rfl, rfl, n a b z O0 H0 G _ _ (new_ext I3 nP) k kb D q1 q2 q3 q4⟩⟩

/-! ### a tape -/
def tapeKvs (c : Addr) (at_ left seed salt : Int) : List (Key × V) := [(.inr "cells", .ref c), (.inr "at", .int at_), (.inr "left", .int left), (.inr "seed", .int seed), (.inr "salt", .int salt)]
def TapeI (pt c : Addr) (H : Hp) : Prop := ∃ (cells : List Int) (at_ left seed salt : Int), H pt = some (.dK (tapeKvs c at_ left seed salt)) ∧ H c = some (.lst (cells.map V.int)) ∧ (∀ x ∈ cells, 0 ≤ x) ∧ cells.length ≤ 63 ∧ 0 ≤ at_ ∧ at_ ≤ cells.length ∧ 0 ≤ left ∧ 0 ≤ salt
def effT (pt c : Addr) : Eff := ⟨fun a => a = pt ∨ a = c, TapeI pt c, fun h _ ⟨cells, a, b, s, t, h1, h2, q⟩ => ⟨cells, a, b, s, t, by rw [h pt (.inl rfl)]; exact h1, by rw [h c (.inr rfl)]; exact h2, q⟩, fun ⟨_, _, _, _, _, h1, h2, _⟩ a ha => by
  rcases ha with rfl | rfl
  · exact ⟨_, h1, fun _ z => nomatch z⟩
  · exact ⟨_, h2, fun _ z => nomatch z⟩⟩
/-- a def that draws: its first argument is the tape -/
def spT (f : RF K α) (r : R K β) (m : α → PT β) : Sp := fun vs H Q _ => ∃ (pt c : Addr) (ws : List V) (O : Addr → Prop) (a : α) (k : β → Prop), vs = .ref pt :: ws ∧ (∀ x, O x → ∃ u, H x = some u ∧ NT u) ∧ (∀ x, (effT pt c).M x → O x) ∧ TapeI pt c H ∧ f.rp (hid H O) ws a ∧ m a k ∧
  ∀ b v H2, k b → XX (effT pt c) H H2 → r.rp (hid H2 O) v b → Q v H2
theorem ev_callT {pt c : Addr} {f : RF K α} {s : R K β} {m : α → PT β} {t : TA} {X0 : XK} {ca : PT α} {i : Nat} (h0 : sls[i]? = some (slAt pt)) (h : EA (effT pt c) sls t f ca) : EV (effT pt c) sls (tCall (spT f s m) [] X0 (tCons (tVar i) t)) s (fun k => ca fun a => m a k) := fun O σ H S k hk Q q => by
  obtain ⟨o, e, eo⟩ := S.at h0
  rw [show o = some (V.ref pt) from eo] at e
  exact ⟨_, e, h _ σ H S _ hk _ fun a vs H2 ka x hv => ⟨pt, c, vs, O, a, k, by rw [List.append_nil], (S.ext x).od, S.mo, x.2, hv, ka, fun b v H3 kb x3 hr => q b v H3 kb (x.trans x3) hr⟩⟩

/-! ### a def as a whole -/
theorem own_nil (O : Addr → Prop) (σ : L2.St) : OwnOf O [] σ = O := funext fun a => propext ⟨fun z => z.elim id fun ⟨_, h, _⟩ => by simp at h, .inl⟩
/-- the parameters' slots -/
structure Prm (f : RF K α) (g : α → List (Sl K)) : Prop where
  sl : ∀ {F F' : Hp} {vs : List V} {a : α}, f.rp F vs a → Paired (fun o (sl : Sl K) => sl.p F F' o) (vs.map some) (g a)
  hp : ∀ (a : α) (j : Nat) (sl : Sl K), (g a)[j]? = some sl → sl.hp = false
theorem prm_1 {r : R K α} : Prm (f1 r) (fun a => [slV r a]) := ⟨fun ⟨v, e, h⟩ => by subst e; exact .cons ⟨v, rfl, h⟩ .nil, fun a j sl h => by cases j with | zero => simp at h; subst h; rfl | succ j => simp at h⟩
theorem prm_c {r : R K α} {f : RF K β} {g : β → List (Sl K)} (p : Prm f g) : Prm (fc r f) (fun a => slV r a.1 :: g a.2) := ⟨fun ⟨v, ws, e, h, h2⟩ => by subst e; exact .cons ⟨v, rfl, h⟩ (p.sl h2), fun a j sl h => by cases j with | zero => simp at h; subst h; rfl | succ j => exact p.hp a.2 j sl (by simpa using h)⟩
theorem paired_rep {F F' : Hp} : ∀ n : Nat, Paired (fun o (sl : Sl K) => sl.p F F' o) (List.replicate n none) (List.replicate n slAny)
  | 0 => .nil
  | n + 1 => .cons True.intro (paired_rep n)
theorem pair_app {A B : Type} {F : A → B → Prop} : ∀ {vs ws : List A} {xs ys : List B}, Paired F vs xs → Paired F ws ys → Paired F (vs ++ ws) (xs ++ ys)
  | _, _, _, _, .nil, h => h
  | _, _, _, _, .cons a t, h => .cons a (pair_app t h)
theorem rep_hp (a : List (Sl K)) (n : Nat) (h : ∀ (j : Nat) (sl : Sl K), a[j]? = some sl → sl.hp = false) : ∀ (j : Nat) (sl : Sl K), (a ++ List.replicate n slAny)[j]? = some sl → sl.hp = false := fun j sl e => by
  by_cases c : j < a.length
  · rw [List.getElem?_append_left c] at e
    exact h j sl e
  · rw [List.getElem?_append_right (by omega)] at e
    have := List.mem_of_getElem? e
    rw [List.eq_of_mem_replicate this]
    rfl
abbrev noL : Empty → List (Sl K) := fun e => nomatch e
/-- what a def hands back by how its block comes to an end -/
def outF (k : β → Prop) : Ctl β Empty Unit → Prop
  | .rt b => k b
  | .nx _ => False
  | .bk l => nomatch l
  | .ct l => nomatch l
def outU (k : Unit → Prop) : Ctl Unit Empty Unit → Prop
  | .rt b => k b
  | .nx _ => k ()
  | .bk l => nomatch l
  | .ct l => nomatch l
theorem fn_start {f : RF K α} {g : α → List (Sl K)} (p : Prm f g) {N : List Str} {H : Hp} {O : Addr → Prop} {vs : List V} {a : α} (hO : ∀ x, O x → ∃ u, H x = some u ∧ NT u) (mo : ∀ x, E.M x → O x) (hI : E.I H) (ha : f.rp (hid H O) vs a) {n : Nat} (hn : N.length - f.n = n) :
    SI E O H (hid H O) (g a ++ List.replicate n slAny) [] (L2.start N vs) H := by
  refine ⟨?_, Ex.refl _, by rw [own_nil]; exact Ef.refl _, fun i h => (by simp at h), fun i h => (by simp at h), mo, fun j sl h hp => ?_⟩
  · rw [own_nil]
    refine ⟨?_, hO, mo, hI⟩
    unfold L2.start
    rw [f.len ha, hn]
    exact pair_app (p.sl ha) (paired_rep n)
  · rw [rep_hp _ n (p.hp a) j sl h] at hp
    cases hp
theorem fnP {f : RF K α} {r : R K β} {m : α → PT β} {g : α → List (Sl K)} (p : Prm f g) {N : List Str} {n : Nat} (hn : N.length - f.n = n) {t : TS} {mb : α → PT (Ctl β Empty Unit)} (hb : ∀ a, BJ eff0 (g a ++ List.replicate n slAny) [] t (mb a) r (fun _ => (g a ++ List.replicate n slAny).map fun _ => slAny) [] noL [])
    (hm : ∀ a k, m a k → mb a (outF k)) {vs : List V} {H : Hp} {Q : VK} {X0 : XK} (h : spP f r m vs H Q X0) : t { nx := fun _ H' => Q .non H', rt := Q } (L2.start N vs) H := by
  obtain ⟨O, a, k, hO, ha, hk, q⟩ := h
  refine hb a O H (hid H O) _ H (fn_start (E := eff0) p hO (fun _ z => False.elim z) True.intro ha hn) _ (hm a k hk) _ (fun _ _ _ z => z.elim) (fun b v H' kb e1 _ e3 => ?_) (fun l => nomatch l) (fun l => nomatch l)
  rw [show eff0.M = fun _ => False from rfl, hid_no, hid_no] at e1
  exact q b v H' kb e1 e3
theorem fnU {f : RF K α} {m : α → PT Unit} {g : α → List (Sl K)} (p : Prm f g) {N : List Str} {n : Nat} (hn : N.length - f.n = n) {t : TS} {mb : α → PT (Ctl Unit Empty Unit)} (hb : ∀ a, BJ eff0 (g a ++ List.replicate n slAny) [] t (mb a) rNon (fun _ => (g a ++ List.replicate n slAny).map fun _ => slAny) [] noL [])
    (hm : ∀ a k, m a k → mb a (outU k)) {vs : List V} {H : Hp} {Q : VK} {X0 : XK} (h : spP f rNon m vs H Q X0) : t { nx := fun _ H' => Q .non H', rt := Q } (L2.start N vs) H := by
  obtain ⟨O, a, k, hO, ha, hk, q⟩ := h
  have fin : ∀ {H' : Hp}, Ex (hid H eff0.M) (hid H' eff0.M) → k () → Q .non H' := fun {H'} e1 kb => by
    rw [show eff0.M = fun _ => False from rfl, hid_no, hid_no] at e1
    exact q () .non H' kb e1 rfl
  refine hb a O H (hid H O) _ H (fn_start (E := eff0) p hO (fun _ z => False.elim z) True.intro ha hn) _ (hm a k hk) _ (fun _ σ' H' kb I' => fin I'.h0 kb) (fun b v H' kb e1 _ e3 => ?_) (fun l => nomatch l) (fun l => nomatch l)
  rw [show v = .non from e3]
  exact fin e1 kb
/-- a def that draws: slot 0 is the tape -/
theorem fnT {f : RF K α} {r : R K β} {m : α → PT β} {g : α → List (Sl K)} (p : Prm f g) {N : List Str} {n : Nat} (hn : N.length - (f.n + 1) = n) {t : TS} {mb : α → PT (Ctl β Empty Unit)} (hb : ∀ pt c a, BJ (effT pt c) (slAt pt :: (g a ++ List.replicate n slAny)) [] t (mb a) r (fun _ => slAny :: (g a ++ List.replicate n slAny).map fun _ => slAny) [] noL [])
    (hm : ∀ a k, m a k → mb a (outF k)) {vs : List V} {H : Hp} {Q : VK} {X0 : XK} (h : spT f r m vs H Q X0) : t { nx := fun _ H' => Q .non H', rt := Q } (L2.start N vs) H := by
  obtain ⟨pt, c, ws, O, a, k, e, hO, mo, hI, ha, hk, q⟩ := h
  subst e
  refine hb pt c a O H (hid H O) _ H ?_ _ (hm a k hk) _ (fun _ _ _ z => z.elim) (fun b v H' kb e1 e2 e3 => q b v H' kb ⟨e1, e2⟩ e3) (fun l => nomatch l) (fun l => nomatch l)
  refine ⟨?_, Ex.refl _, by rw [own_nil]; exact Ef.refl _, fun i h => (by simp at h), fun i h => (by simp at h), mo, fun j sl h hp => ?_⟩
  · rw [own_nil]
    refine ⟨?_, hO, mo, hI⟩
    unfold L2.start
    rw [List.length_cons, f.len ha, hn]
    exact .cons rfl (pair_app (p.sl ha) (paired_rep n))
  · cases j with
    | zero => simp at h; subst h; cases hp
    | succ j =>
      rw [rep_hp _ n (p.hp a) j sl (by simpa using h)] at hp
      cases hp
end
end Nz
namespace Nz
open PySem L2
variable {K : PySem.W.Frag} {E : Eff}
theorem spP_len {α β : Type} {f : RF K α} {r : R K β} {m : α → PT β} {vs : List V} {H : Hp} {Q : VK} {X0 : XK} (h : spP f r m vs H Q X0) : vs.length = f.n := let ⟨_, _, _, _, ha, _⟩ := h; f.len ha
theorem spT_len {α β : Type} {f : RF K α} {r : R K β} {m : α → PT β} {vs : List V} {H : Hp} {Q : VK} {X0 : XK} (h : spT f r m vs H Q X0) : vs.length = f.n + 1 := by
  obtain ⟨_, _, ws, _, _, _, e, _, _, _, ha, _⟩ := h
  rw [e, List.length_cons, f.len ha]
theorem rl_l {α : Type} {sls : List (Sl K)} {te : TE} {r : R K α} {c : PT (List α)} (h : EL E sls te r c) : ERl E sls te r c := rl_ev (ev_l h)
theorem rd_d {α κ : Type} {sls : List (Sl K)} {te : TE} {e : Ky κ} {r : R K α} {c : PT (List (κ × α))} (h : ED E sls te e r c) : ERd E sls te e r c := rd_ev (ev_d h)
end Nz

/-! Nz7: further rules: enumerate of a tuple, update, joins of lists, .. -/
namespace Nz
open PySem L2 PyProof.Rows
/-! ### enumerate(a tuple) -/
theorem enum_endT {prog : Program} {w : World} {A : Around} {E : Value → Shared → Prop} {s : Shared} {e it l : Addr} {i : Nat} {items : Array Value} {old : Value} {Q : Option Value → Shared → Prop} (hh : A.handled = none)
    (he : IsEnum s.heap e it i old) (hit : s.heap.IsTupleIter it l i) (hl : s.heap.IsTuple l items) (hx : items[i]? = none)
    (hQ : ∀ h', Heap.ExtBut it s.heap h' → Q none { s with heap := h' }) : wpAny (model prog w) A (pyNext (.ref e)) Q E s := by
  have hT : s.TypeIs (.ref e) "enumerate" := ⟨_, he, rfl⟩
  unfold pyNext
  refine wpAny_bind (wpAny_attempt (wpAny_callSpecial?_slot (name := Str.ofString "__next__") hT F.slot_enumerate_next
    (wpAny_call_entry F.slot_enumerate_next hT F.entry_enumerate_next ?_ (F.args_enumerate_next_1 _))))
  show wpAny _ _ (field (.ref e) 2 >>= _) _ _ _
  refine wpAny_bind (wpAny_field he rfl (x := .ref it) rfl ?_)
  refine wpAny_bind (wpAny_nextOf_tuple_end hh hit hl hx fun h' x he' hx' => ?_)
  obtain ⟨o, ho, hc⟩ := hx'
  refine wpAny_bind (wpAny_isInstance (T := "StopIteration") (b := true) ⟨o, ho, hc⟩ isSubtype_stop ?_)
  exact wpAny_pure (hQ _ he')
def IteT (K : PySem.W.Frag) (a : Addr) : It :=
  ⟨fun i H => ∃ (xs : List V) (x : V), SqT K H a xs ∧ xs[i]? = some x, fun i H v H' => ∃ T x, v = .ref T ∧ H T = none ∧ H' = upd H T (.tup [.int (i : Nat), x]) ∧ ∀ xs, SqT K H a xs → xs[i]? = some x, fun i H => ∃ xs : List V, SqT K H a xs ∧ xs.length ≤ i⟩
theorem turn_enumT {P : Program} {w : World} {K : PySem.W.Frag} {elts : List Expr} {kk : Nat} {tpos : Pos} (a e it : Addr) :
    Turn P w K (.Tuple elts kk tpos) (IteT K a) [e, it] e (fun i h => (∃ old, IsEnum h e it ((i : Nat) : Int) old) ∧ h.IsTupleIter it a i ∧ e ≠ it) where
  mem := by simp
  obj := fun i h st b hb => by
    obtain ⟨⟨old, he⟩, ⟨o, ho, hc, hd⟩, _⟩ := st
    have e' : b = e ∨ b = it := by simpa using hb
    rcases e' with z | z
    · rw [z]; exact ⟨_, he, fun v q => nomatch q⟩
    · rw [z]; exact ⟨o, ho, fun v q => by rw [hd] at q; cases q⟩
  keep := fun i h h' st k => let ⟨⟨old, he⟩, hi, hne⟩ := st; ⟨⟨old, k e (by simp) _ he⟩, hi.at fun o q => k it (by simp) o q, hne⟩
  item := by
    intro X hP hw hK hc i pins s σ H E I hf st hg
    subst hP hw hK
    obtain ⟨⟨old, he⟩, hit, hne⟩ := st
    obtain ⟨xs, x, hq, hx⟩ := hg
    obtain ⟨its, rv, p, hz⟩ := I.tuple hq
    obtain ⟨u, hu, ru⟩ := rv.get hx
    have hp : s.heap.IsTuple a its.toArray := p
    have hea : e ≠ a := fun z => by
      subst z
      obtain ⟨o, ho, hc', _⟩ := hp
      rw [show s.heap.get? e = some _ from he] at ho
      cases ho
      have hc2 : Value.type "enumerate" = Value.type "tuple" := hc'
      simp at hc2
    have hia : a ≠ it := fun z => by
      subst z
      obtain ⟨o, ho, hc', _⟩ := hp
      obtain ⟨o', ho', hc'', _⟩ := hit
      rw [ho] at ho'
      cases ho'
      rw [hc'] at hc''
      have hc2 : Value.type "tuple" = Value.type "tuple_iterator" := hc''
      simp at hc2
    have hel : e < s.heap.objs.size := Heap.lt_size he
    have hil : it < s.heap.objs.size := by obtain ⟨_, q, _⟩ := hit; exact Heap.lt_size q
    have hlt : i < its.toArray.size := by simpa using (List.getElem?_eq_some_iff.mp hu).1
    refine wpAny_pyNext_enum_itemC (Draws.tuple (A := X.A.in1) (I.ok.hd hc) it a hia its.toArray) he ⟨hit, hp⟩ hlt hne (by simp [hne, hea]) fun y h' tk hP ho hs' hT hsz hk => ?_
    have ey : y = u := by
      have : its.toArray[i]? = some u := by simpa using hu
      rw [this] at hP; cases hP; rfl
    subst ey
    refine ⟨_, rfl, wpAny_letOwnedTupleGo_enum (s := { s with heap := h', toks := tk + 1 }) ho fun h'' he' sb => ?_⟩
    have hT2 : h''.get? s.heap.objs.size = some { cls := .type "tuple", data := .seq #[.int i tk, y] } := (sb.2 _ (Nat.ne_of_gt hel)).trans hT
    have new : ObjOk X.prog X.w (upd H s.heap.objs.size (.tup [.int (i : Nat), x])) h'' s.heap.objs.size (.tup [.int (i : Nat), x]) :=
      ⟨by show 2 ≤ sizeLine; decide, [.int i tk, y], .cons ⟨_, rfl⟩ (.cons ru .nil), ⟨_, hT2, rfl, _, rfl⟩⟩
    have I1 : Inv X pins σ (upd H s.heap.objs.size (.tup [.int (i : Nat), x])) { s with heap := h'', toks := tk + 1 } :=
      I.turnedNew (ch := [e, it]) (fun b ob hb q => (sb.2 b (fun z => hb (by simp [z]))).trans (hk b ob (fun z => hb (by simp [z])) (fun z => hb (by simp [z])) q)) hf (Nat.le_refl _) new
    refine ⟨.ref s.heap.objs.size, _, I1, rfl, ⟨_, x, rfl, I.hok.fresh (Nat.le_refl _), rfl, fun ys hy => by rw [I.tuple_inj hy hq]; exact hx⟩, ⟨⟨y, ?_⟩, hs'.1.at fun o q => (sb.2 it (Ne.symm hne)).trans q, hne⟩, fun b hb => ?_⟩
    · have e1 : ((i + 1 : Nat) : Int) = (i : Int) + 1 := by omega
      rw [e1]; exact he'
    · have hb' : b < s.heap.objs.size := by
        have e' : b = e ∨ b = it := by simpa using hb
        rcases e' with z | z
        · rw [z]; exact hel
        · rw [z]; exact hil
      rw [upd_ne (Nat.ne_of_lt hb')]
      exact (hf b hb).1
  done := by
    intro X hP hw hK hc i pins s σ H E I hf st hg
    subst hP hw hK
    obtain ⟨⟨old, he⟩, hit, hne⟩ := st
    obtain ⟨xs, hq, hx⟩ := hg
    obtain ⟨its, rv, p, hz⟩ := I.tuple hq
    obtain ⟨f0, f1, f2, f3, f4, f5⟩ := hf it (by simp)
    have hp : s.heap.IsTuple a its.toArray := p
    have hl := rv.length
    exact enum_endT (I.ok.hd hc) he hit hp (by simp; omega) fun h' eb => ⟨rfl, I.turned (t' := s.toks) (fun b o hb q => eb b o hb q) f0 f1 f3 f4 f5⟩
  self := fun A i s Q E st h => let ⟨⟨_, he⟩, _⟩ := st; wpAny_pyIter_enum he h
set_option maxHeartbeats 1000000 in
theorem meets_enum1 {v : Value} {o : Obj} {H : Heap → Prop} (B : Begins v o H) :
    Meets (Builtin.«enumerate.__new__» ⟨[.type "enumerate", v], []⟩) (fun _ R s => H s.heap ∧
      R (.ok (.ret (.ref (s.heap.push o).objs.size))) { s with heap := (s.heap.push o).push { cls := .type "enumerate", data := .fields #[.none, .bool false, .ref s.heap.objs.size, rawInt 0, .none, .none] } }) :=
  .of_wp fun prog w A R s h => by
    obtain ⟨hp, g, d, tk, os⟩ := s; obtain ⟨h1, h⟩ := h
    have hsub := sub_enumerate
    have q1 : ∀ {A' : Around} {E : Value → Shared → Prop} {Q : Value → Shared → Prop}, Q (.ref hp.objs.size) ⟨hp.push o, g, d, tk, os⟩ → wpAny (model prog w) A' (pyIter v) Q E ⟨hp, g, d, tk, os⟩ :=
      fun q => B.iter prog w _ _ ⟨hp, g, d, tk, os⟩ _ h1 q
    wp_walk using q1
    refine wpAny_stack_any fun st => wpAny_pure ?_
    split
    · rename_i c _ _ _ _ _
      cases (c == Value.type "enumerate")
      · wp_walk using q1
        exact ⟨_, rfl, h⟩
      · wp_walk using q1
        exact ⟨_, rfl, h⟩
    · wp_walk using q1
      exact ⟨_, rfl, h⟩
theorem call_enumT {prog : Program} {w : World} {A : Around} {E : Value → Shared → Prop} {s : Shared} {l : Addr} {items : Array Value} {Q : Value → Shared → Prop} (hL : s.heap.IsTuple l items)
    (h : ∀ h', IsEnum h' (s.heap.objs.size + 1) s.heap.objs.size 0 .none → h'.IsTupleIter s.heap.objs.size l 0 → h'.objs.size = s.heap.objs.size + 2 →
      (∀ b o, s.heap.get? b = some o → h'.get? b = some o) → Q (.ref (s.heap.objs.size + 1)) { s with heap := h' }) :
    wpAny (model prog w) A (call (.type "enumerate") [.ref l]) Q E s := by
  refine callType_new F.called_enumerate (by decide) (F.typeCall_enumerate_1 _) (F.newCall_enumerate_1 _) (fun obj => F.args_object_init_2 obj _) F.entry_enumerate_new
    (meets_enum1 (begins_tuple l items)) ⟨hL, ?_⟩
  have hz : (s.heap.push { cls := .type "tuple_iterator", data := .fields #[.ref l, .int 0 0] }).objs.size = s.heap.objs.size + 1 := Heap.size_push ..
  show _ ∧ _
  rw [hz]
  have he : IsEnum ((s.heap.push { cls := .type "tuple_iterator", data := .fields #[.ref l, .int 0 0] }).push
      { cls := .type "enumerate", data := .fields #[.none, .bool false, .ref s.heap.objs.size, rawInt 0, .none, .none] }) (s.heap.objs.size + 1) s.heap.objs.size 0 .none := by
    have := Heap.get?_push_size (s.heap.push { cls := .type "tuple_iterator", data := .fields #[.ref l, .int 0 0] })
      (o := { cls := .type "enumerate", data := .fields #[.none, .bool false, .ref s.heap.objs.size, rawInt 0, .none, .none] }) rfl
    rw [hz] at this; exact this
  refine ⟨⟨_, he, rfl⟩, h _ he ⟨_, Heap.get?_push_of_some _ (Heap.get?_push_size _ rfl), rfl, rfl⟩ (by rw [Heap.size_push, hz]) fun b o x => Heap.get?_push_of_some _ (Heap.get?_push_of_some _ x)⟩
def iEnumT (K : PySem.W.Frag) (ta : TA) : TI := fun σ H R => ta σ H fun vs H1 => ∃ a xs, vs = [.ref a] ∧ SqT K H1 a xs ∧ R (IteT K a) H1
theorem pi_enumT {X : Cx} {e : Expr} {ta : TA} {p pos tpos : Pos} {elts : List Expr} {kk : Nat} (hg : Gl X "enumerate") (hm : X.mg "enumerate" = none) (ha : PA X [e] ta) (hs : starEach [e] X.env = [(false, eval e X.env)] := by rfl) :
    PI X (.Tuple elts kk tpos) (.Call (.Name "enumerate" p) [e] [] pos) (iEnumT X.K ta) := by
  refine ⟨fun pins s σ H R I h => ?_⟩
  refine Call_ (ld_blt I hg hm boot_enumerate (PyProof.Rows.callWith_type1 (thn (ha.run pos pins s σ H _ I h) fun us s1 ⟨vs, H1, I1, r1, q1⟩ => ?_) hs rfl))
  obtain ⟨a, xs, ex, hq, q⟩ := q1
  subst ex
  cases r1 with
  | cons r rr =>
    cases rr
    cases r
    obtain ⟨its, rv, p', hz⟩ := I1.tuple hq
    refine call_enumT (show s1.heap.IsTuple a its.toArray from p') fun h' he hit hsz hk => wpAny_pyIter_enum he ?_
    have I2 : Inv X pins σ H1 { s1 with heap := h' } := I1.kept (t' := s1.toks) hk
    refine ⟨s1.heap.objs.size + 1, [s1.heap.objs.size + 1, s1.heap.objs.size], _, _, H1, rfl, I2, turn_enumT a (s1.heap.objs.size + 1) s1.heap.objs.size, ⟨⟨.none, he⟩, hit, Nat.succ_ne_self _⟩, fun b hb => ?_, q⟩
    have e' : b = s1.heap.objs.size + 1 ∨ b = s1.heap.objs.size := by simpa using hb
    have hle : s1.heap.objs.size ≤ b := by
      rcases e' with z | z
      · rw [z]; exact Nat.le_add_right _ _
      · rw [z]; exact Nat.le_refl _
    exact I1.fpOk hle (I1.hok.fresh hle)
section
variable {K : PySem.W.Frag} {O : Addr → Prop} {E : Eff} {sls : List (Sl K)}
variable {α β γ κ : Type} {te ta tb tc : TE} {r : R K α} {s : R K β} {c : PT α} {d : PT β}
theorem iw_enumT {F B : Hp} {p : Addr} {vs : List V} {xs : List α} (hs : TpX K B p vs) (hp : Paired (r.rp F) vs xs) (hl : vs.length ≤ big) : IW F B (rPr (fc rInt (f1 r))) (enumZ xs) (IteT K p) := by
  have e := hp.length
  refine iw_pair (p := p) (xs := []) (ys := xs) (by rw [enumZ_len]; omega) (fun i H3 hi w => ?_) (fun H3 w => ⟨vs, (hs.mono w.ew).sq, by rw [enumZ_len]; omega⟩) (fun i H3 v H4 hi w y => ?_)
  · rw [enumZ_len] at hi
    exact ⟨vs, vs[i]'(by omega), (hs.mono w.ew).sq, by simp [show i < vs.length by omega]⟩
  · rw [enumZ_len] at hi
    obtain ⟨T, x, h1, h2, h3, h4⟩ := y
    obtain ⟨v, e1, hv⟩ := paired_get' hp (i := i) (a := xs[i]) (by simp [hi])
    have := h4 vs (hs.mono w.ew).sq
    rw [e1] at this
    cases this
    exact ⟨T, _, _, h1, h2, h3, ((i : Int), xs[i]), enumZ_get xs i _ (by simp [hi]), rfl, hv⟩
theorem iv_enumT {c : PT (List α)} (h : EV E sls te (rTup r) c) : IV E sls (iEnumT K (tCons te tNil)) (rPr (fc rInt (f1 r))) (fun k => c fun xs => k (enumZ xs)) := fun O σ H S k hk Rr q =>
  h _ σ H S _ hk _ fun xs v H2 ka x ⟨p, vs, e, hs, hp, hl⟩ => ⟨p, vs, by rw [e], hs.of_hid.sq, q _ _ H2 ka x (iw_enumT hs hp hl)⟩
end

/-! ### d.update(e) -/
section
variable {X : Cx} {pins : List (Addr × Obj)} {σ : L2.St} {H : Hp} {s : Shared} {A : Around} {E : Value → Shared → Prop}
theorem d_upd {a b : Addr} {kvs more : List (Key × V)} {Q : Value → Shared → Prop} (I : Inv X pins σ H s) (e : H a = some (.dK kvs)) (e2 : Rd H b (.dK more)) (hne : a ≠ b) (hl : kvs.length + more.length ≤ sizeLine)
    (h : ∀ s', Inv X pins σ (upd H a (.dK (mergeK kvs more))) s' → Q .none s') :
    wpAny (model X.prog X.w) A (call (.builtin "dict.update") [.ref a, .ref b]) Q E s := by
  obtain ⟨z, hd, vs, rel, dd⟩ := dk_of I.hok e
  obtain ⟨z2, hd2, vs2, rel2, dd2⟩ := dk_rd I.hok e2
  refine call_meetsIn PySem.F.slot_dict_update dd.typeIs PySem.F.entry_dict_update (PySem.F.args_dict_update_2 _ _) (PySem.meets_dict_update (mixKind X.prog X.w) a b hne hd2) ⟨vs, vs2, dd, dd2, by rw [← rel.length, ← rel2.length]; exact hl, fun h' dd' _ hs => ?_⟩
  have he : ∃ q, h'.get? a = some q := let ⟨q, _, _, hq, _⟩ := dd'; ⟨q, hq⟩
  exact h _ (d_write (t' := s.toks) I (by rw [e]; exact True.intro) hs he (dk_new (Nat.le_trans (length_mergeK _ _) hl) hd (rel2.merge rel) dd'))
end
def tDUpd (td te : TE) : TE := fun σ H Q => td σ H fun x H1 => ∃ a, x = .ref a ∧ IsD H1 a ∧ te σ H1 fun y H2 => ∃ (b : Addr) (kvs more : List (Key × V)), y = .ref b ∧ H2 a = some (.dK kvs) ∧ Rd H2 b (.dK more) ∧ a ≠ b ∧ kvs.length + more.length ≤ sizeLine ∧ Q .non (upd H2 a (.dK (mergeK kvs more)))
theorem pe_dupd {X : Cx} {o e : Expr} {td ty : TE} {apos cpos : Pos} (ho : PE X o td) (he : PE X e ty) (m : M1 X o "update" apos e cpos) : PE X (.Call (.Attribute o "update" apos) [e] [] cpos) (tDUpd td ty) := by
  refine ⟨fun pins s σ H Q I h => ?_⟩
  refine wpAny_Call_method m.base m.few m.line PySem.F.plainAttrs_dict PySem.F.slot_dict_update PySem.F.type_dict_update (thn (ho.run pins s σ H _ I h) fun u s1 ⟨x, H1, I1, rx, a, ex, d, q1⟩ => ?_)
  subst ex
  obtain rfl : u = Value.ref a := rx
  obtain ⟨t1, t2, _⟩ := isD_at I1 d
  refine ⟨t1, t2, ?_⟩
  rw [m.trees]
  refine Calls.callWith_builtin rfl (Calls.evalArgs_plain (Calls.spliced_cons (thn (he.run pins s1 σ H1 _ I1 q1) fun iv s2 ⟨y, H2, I2, ry, b, kvs, more, ey, ea, eb, hne, hl, q2⟩ => Calls.spliced_nil ?_)))
  subst ey
  obtain rfl : iv = Value.ref b := ry
  exact d_upd I2 ea eb hne hl fun s4 I4 => ⟨.non, _, I4, rfl, q2⟩
section
variable {K : PySem.W.Frag} {E : Eff} {α β κ L N : Type} {te : TE} {rx : R K α} {sls : List (Sl K)} {own : List Nat} {r : R K β} {fN : N → List (Sl K)} {oN : List Nat} {fL : L → List (Sl K)} {oL : List Nat} {u : TS}
theorem paired_dputsK [DecidableEq κ] {e : Ky κ} {H : Hp} : ∀ {ws : List (Key × V)} {d : List (κ × α)}, Paired (DkRel e.enc rx H) ws d → ∀ {vs : List (Key × V)} {xs : List (κ × α)}, Paired (DkRel e.enc rx H) vs xs → Paired (DkRel e.enc rx H) (mergeK vs ws) (dputs xs d)
  | _, _, .nil, _, _, h => h
  | w :: ws, p :: d, .cons hw t, vs, xs, h => by
    show Paired _ (mergeK (putK vs w.1 w.2) ws) (dputs (dput xs p.1 p.2) d)
    have := paired_dputK (e := e) (a := p.1) hw.2 h
    rw [← hw.1] at this
    exact paired_dputsK t this
theorem dputs_len [DecidableEq κ] : ∀ (d xs : List (κ × α)), (dputs xs d).length ≤ xs.length + d.length
  | [], xs => by simp [dputs]
  | p :: d, xs => by
    have h1 := dputs_len d (dput xs p.1 p.2)
    have h2 := dput_len xs p.1 p.2
    show (dputs (dput xs p.1 p.2) d).length ≤ _
    rw [List.length_cons]
    omega
theorem bj_upd [DecidableEq κ] {i : Nat} {e : Ky κ} {xs : List (κ × α)} {c : PT (List (κ × α))} {m : List (κ × α) → PT (Ctl β L N)} (hi : i ∈ own) (h0 : sls[i]? = some (slDk e rx xs)) (h : EV E sls te (rDk e rx) c) (n : ∀ ys, BJ E (sls.set i (slDk e rx ys)) own u (m ys) r fN oN fL oL) :
    BJ E sls own (tSeq (tDrop (tDUpd (tVar i) te)) u) (fun k => c fun a => xs.length + a.length ≤ big ∧ m (dputs xs a) k) r fN oN fL oL := fun O0 H0 G σ H I k hk D q1 q2 q3 q4 => by
  obtain ⟨p, vs, e1, nM, hp, hv, hl⟩ := I.atD hi h0
  refine ⟨_, e1, p, rfl, .inl ⟨vs, .inl hp⟩, h _ σ H I.sl _ hk _ fun a v H2 ka x ⟨b, ws, ev, hr, hw, hl2⟩ => ?_⟩
  subst ev
  obtain ⟨nO, hr⟩ := rd_hid.mp hr
  have I2 := I.ext x
  have hp2 := x.keep hp nM
  have hv' : Paired (DkRel e.enc rx (hid H2 (OwnOf O0 own σ))) vs xs := pmap hv fun _ _ z => ⟨z.1, I.sl.rep x z.2⟩
  refine ⟨b, vs, ws, rfl, hp2, hr, fun z => nO (z ▸ .inr ⟨i, hi, e1⟩), le_line (by rw [hv.length, hw.length]; exact ka.1), n _ O0 H0 G σ _ (I2.mut hi e1 (u := .dK _) True.intro ?_) k ka.2 D q1 q2 q3 q4⟩
  have := paired_dputsK hw hv'
  exact ⟨p, _, rfl, .inl (by rw [hid_out nM]; exact upd_same), this, by rw [this.length]; exact Nat.le_trans (dputs_len _ _) ka.1⟩
end
end Nz

/-! Nz8: sets of ints that are sorted, lists of ranges, of dicts. -/
namespace Nz
open PySem L2 PySem.Spec PyProof.Rows
section
variable {P : Program} {w : World} {A : Around} {E : Value → Shared → Prop} {s : Shared}
set_option maxRecDepth 100000 in
set_option maxHeartbeats 3200000 in
theorem call_set_lstI {l : Addr} {items : Array Value} (ns : List Int) {Q : Value → Shared → Prop} (hh : A.handled = none) (hl : s.heap.IsList l items) (hit : IntsAre items.toList ns) (hb : ns.length + 1 < scanBound)
    (h : ∀ (h' : Heap) (tk c : Nat), SetR w h' s.heap.objs.size (fun j => decide (j ∈ ns)) c → c ≤ ns.length → (∀ b o, s.heap.get? b = some o → h'.get? b = some o) → Q (.ref s.heap.objs.size) { s with heap := h', toks := tk }) :
    wpAny (model P w) A (call (.type "set") [.ref l]) Q E s := by
  have hisz : items.size = ns.length := by
    have q := IntsAre.length hit
    rw [Array.length_toList] at q
    exact q
  obtain ⟨c, tl, hmro⟩ := F.called_set.mro
  have hmade := F.called_set.made
  have hsub := F.called_set.sub
  refine wpAny_call (codeAny_of_tree ?_)
  show wpAny _ _ (callAny (.type "set") _) _ _ _
  refine wpAny_pure ⟨Code.quiet_builtin _ (by decide +kernel), codeAny_builtin F.entry_type_call ?_⟩
  rw [Around.under_plain (weight_type_call_type "set" [.ref l] []) rfl]
  have h1 := F.called_set.notType
  have h2 := F.called_set.canCreate
  have hct := F.typeCall_set_1 (.ref l)
  repeat (any_goals (first | assumption | wp_step))

  refine codeAny_mono (code_set_led1 (.ref l) (E := E) (Q₁ := fun obj s₁ => obj = .ref s.heap.objs.size ∧ s₁ = { s with heap := s.heap.push { cls := .type "set", dict := none, data := .set #[] 0 (.fresh 0 0 (!w.params.followText "set-order")) } }) ⟨rfl, rfl⟩) fun r s₁ hr => ?_
  cases r with
  | error e => exact hr
  | ok fl =>
    cases fl with
    | ret obj =>
      obtain ⟨rfl, rfl⟩ := hr
      have hS : (s.heap.push { cls := .type "set", dict := none, data := .set #[] 0 (.fresh 0 0 (!w.params.followText "set-order")) }).get? s.heap.objs.size = some { cls := .type "set", dict := none, data := .set #[] 0 (.fresh 0 0 (!w.params.followText "set-order")) } := Heap.get?_push_size _ rfl
      have hT : Shared.TypeIs { s with heap := s.heap.push { cls := .type "set", dict := none, data := .set #[] 0 (.fresh 0 0 (!w.params.followText "set-order")) } } (.ref s.heap.objs.size) "set" := ⟨_, hS, rfl⟩
      have hli := F.called_set.init.lookup
      have hbi := F.called_set.init.bind (.ref s.heap.objs.size)
      repeat (any_goals (first | assumption | wp_step))

      refine codeAny_mono (codeAny_call_builtin (R := wants (fun r s₂ => r = .none ∧ ∃ h' tk c, s₂ = { s with heap := h', toks := tk } ∧ SetR w h' s.heap.objs.size (fun j => decide (j ∈ ns)) c ∧ c ≤ ns.length ∧
          (∀ b o, s.heap.get? b = some o → h'.get? b = some o)) E) F.called_set.init.plain F.entry_set_init (check_set_init_1 hT ?_)) fun r₂ s₂ hr₂ => ?_
      · obtain ⟨ol, hol, hcl, nl, hdl⟩ := hl
        obtain ⟨ocls, odict, odata, oslots⟩ := ol
        simp only at hcl hdl
        subst hcl; subst hdl
        have hol' : (s.heap.push { cls := .type "set", dict := none, data := .set #[] 0 (.fresh 0 0 (!w.params.followText "set-order")) }).get? l = some { cls := .type "list", dict := odict, data := .seq items nl, slots := oslots } := Heap.get?_push_of_some _ hol
        have hsls := F.sub_list_set
        have hslf := F.sub_list_frozenset
        have hne : (Value.type "list" == Value.type "dict") = false := by decide
        have hl1 : (s.heap.push { cls := .type "set", dict := none, data := .set #[] 0 (.fresh 0 0 (!w.params.followText "set-order")) }).IsList l items := ⟨_, hol', rfl, nl, rfl⟩
        unfold Builtin.«set.__init__» noKeywords Builtin.Frozenset.updateFrom
        generalize hPI : pyIter = PI
        wp_walk
        subst hPI

        refine wpAny_pyIter_list hl1 ?_
        refine wpAny_bind (wpAny_runValue ?_)
        have hlS : l < s.heap.objs.size := Heap.lt_size hol
        have hh3 : A.in1.in1.in1.handled = none := by simp [hh]
        have hz1 : (s.heap.push { cls := .type "set", dict := none, data := .set #[] 0 (.fresh 0 0 (!w.params.followText "set-order")) }).objs.size = s.heap.objs.size + 1 := Heap.size_push ..
        have hneI : l ≠ (s.heap.push { cls := .type "set", dict := none, data := .set #[] 0 (.fresh 0 0 (!w.params.followText "set-order")) }).objs.size := by
          rw [Heap.size_push]; exact Nat.ne_of_lt (Nat.lt_succ_of_lt hlS)
        have hSf : s.heap.objs.size ∉ [(s.heap.push { cls := .type "set", dict := none, data := .set #[] 0 (.fresh 0 0 (!w.params.followText "set-order")) }).objs.size, l] := by
          rw [Heap.size_push]; simp only [List.mem_cons, List.mem_singleton, List.not_mem_nil, or_false, not_or]
          exact ⟨Nat.ne_of_lt (Nat.lt_succ_self _), Nat.ne_of_gt hlS⟩
        have hval : ∀ (i : Nat) (v : Value), items[i]? = some v → ∃ k t, ns[i]? = some k ∧ v = .int k t := fun i v hv => by
          have hi : i < ns.length := by rw [← hisz]; exact (Array.getElem?_eq_some_iff.mp hv).1
          obtain ⟨t, e⟩ := PyProof.Rows.IntsAre.int_at hit i v (by rw [Array.getElem?_toList]; exact hv)
          refine ⟨ns[i], t, List.getElem?_eq_getElem hi, ?_⟩
          rw [e, List.getD_eq_getElem?_getD, List.getElem?_eq_getElem hi] <;> rfl
        refine set_update_ints ((Walks.list hh3 _ l hneI items).toS) s.heap.objs.size
          hSf ns hisz hb hval (items.size - 0) 0 _ (by omega) (Nat.zero_le _)
          ⟨⟨_, Heap.get?_push_size _ rfl, rfl, rfl⟩, (hl1.push _)⟩ ?hS0 ?hR
        case hS0 =>
          have hget : ((s.heap.push { cls := .type "set", dict := none, data := .set #[] 0 (.fresh 0 0 (!w.params.followText "set-order")) }).push { cls := .type "list_iterator", data := .fields #[.ref l, .int 0 0] }).get? s.heap.objs.size
              = some { cls := .type "set", dict := none, data := .set #[] 0 (.fresh 0 0 (!w.params.followText "set-order")) } := Heap.get?_push_of_some _ hS
          exact ⟨0, Nat.le_refl 0, setR_new_at hget⟩
        case hR =>
          intro s' c' hm hc' hS'
          obtain ⟨h', g2, d', tk', os'⟩ := s'
          have eg : g2 = s.gens := hm.gens
          have ed : d' = s.drawn := hm.drawn
          have eo : os' = s.os := hm.os
          subst eg; subst ed; subst eo
          show wpAny _ _ _ _ _ _
          refine wpAny_pure ?_
          show wpAny _ _ (ret Value.none) _ _ _
          rw [hisz] at hc'
          refine wpAny_pure ⟨rfl, h', tk', c', rfl, hS', hc', fun b o e => ?_⟩
          have hb0 : b < s.heap.objs.size := Heap.lt_size e
          have hb1 : b ≠ s.heap.objs.size := Nat.ne_of_lt hb0
          have hb2 : b ≠ (s.heap.push { cls := .type "set", dict := none, data := .set #[] 0 (.fresh 0 0 (!w.params.followText "set-order")) }).objs.size := by
            rw [Heap.size_push]; exact Nat.ne_of_lt (Nat.lt_succ_of_lt hb0)
          exact hm.heap b o (by simp only [List.mem_cons, List.mem_singleton, List.not_mem_nil, or_false, not_or]; exact ⟨hb1, hb2⟩) (Heap.get?_push_of_some _ (Heap.get?_push_of_some _ e))

      · cases r₂ with
        | error e => exact hr₂
        | ok fl₂ =>
          cases fl₂ with
          | ret r =>
            obtain ⟨rfl, h', tk, c', rfl, hS', hc', hk'⟩ := hr₂
            repeat (any_goals (first | assumption | wp_step))
            exact h _ _ _ hS' hc' hk'
          | _ => exact hr₂.elim
    | _ => exact hr.elim

end
end Nz

/-! Nz9: further rules. -/
namespace Nz
open PySem L2 PySem.Spec PyProof.Rows
/-- set(xs) of a list of ints -/
def rSetL (K : PySem.W.Frag) (w : World) : List V → Hp → VK → Prop := fun xs H Q => ∃ (p : Addr) (ns : List Int), xs = [.ref p] ∧ SqL K H p (ns.map V.int) ∧ ns.length < 64 ∧ ∀ q c, c ≤ ns.length → H q = none → Q (.ref q) (upd H q (SetO w q (fun j => decide (j ∈ ns)) c))
theorem cr_setL {X : Cx} (hc : X.calm = true) : CallR X (.type "set") (rSetL X.K X.w) := by
  intro pins s σ H xs us Q I r h
  obtain ⟨p, ns, e, hq, hl, q⟩ := h
  subst e
  obtain ⟨u, eu, rx⟩ := vals1 r
  subst eu
  obtain rfl : u = Value.ref p := rx
  obtain ⟨its, rv, pt, hz⟩ := I.list hq
  have hi : IntsAre its.toArray.toList ns := by simpa using Vals.ints rv
  refine call_set_lstI ns (I.ok.hd hc) pt.isList hi (by unfold scanBound; omega) fun h' tk c R1 hcn k => ?_
  exact ⟨.ref _, _, I.laid (t' := tk) k (Nat.le_refl _) (setO_new R1), rfl, q _ c hcn (I.hok.fresh (Nat.le_refl _))⟩
section
variable {K : PySem.W.Frag} {O : Addr → Prop} {E : Eff} {sls : List (Sl K)}
variable {α β γ κ : Type} {te ta tb tc : TE} {r : R K α} {s : R K β} {c : PT α} {d : PT β}
def tSortSet (K : PySem.W.Frag) (w : World) (te : TE) : TE := tCB (rSortedSet w) (tCons (tCB (rSetL K w) (tCons te tNil)) tNil)
theorem el_sortSet {w : World} {c : PT (List Int)} (h : ERl E sls te rInt c) : EL E sls (tSortSet K w te) rInt (fun k => c fun xs => xs.length < 64 ∧ k (sortU xs)) := fun O σ H S k hk Q q =>
  h _ σ H S _ hk _ fun xs p vs H2 ka x hs hp hl => ⟨p, xs, rfl, by rw [← ints_of hp]; exact lun hs, ka.1, fun p2 c2 hc2 np2 => by
    have S2 := S.ext x
    have n2 := S2.new (u := SetO w p2 (fun j => decide (j ∈ xs)) c2) np2
    refine ⟨p2, _, c2, rfl, upd_same, Nat.lt_of_le_of_lt hc2 ka.1, fun ns P pw mem hlen nP => ?_⟩
    have e : ns = sortU xs := lt_unique pw (pw_sortU xs) fun z => by rw [mem z, mem_sortU, decide_eq_true_eq]
    subst e
    exact q_ints S (x.trans n2.1) ka.2 (by rw [hlen]; show c2 ≤ 100000; have := ka.1; omega) q nP⟩
/-- list(range(n)), list(range(a, b)) -/
theorem rgV_eq (a b : Int) : rgV a b = (rg2 a b).map V.int := by
  unfold rgV rg2
  rw [List.map_map]
  rfl
theorem rg_rg2 (n : Int) : rg2 0 n = rg n := by
  unfold rg2 rg
  simp
theorem el_listRg1 {c : PT Int} (h : EV E sls te rInt c) : EL E sls (tLstRg (tRg1 te)) rInt (fun k => c fun n => (-100000 ≤ n ∧ n ≤ 100000) ∧ k (rg n)) := fun O σ H S k hk Q q =>
  h _ σ H S _ hk _ fun n v H2 ka x hv => ⟨n, hv, ⟨by omega, by omega, by omega, by omega, by omega⟩, fun P nP => by
    rw [rgV_eq, rg_rg2]
    exact q_ints S x ka.2 (by unfold rg; simp; omega) q nP⟩
theorem el_listRg2 {c d : PT Int} (h : EV E sls te rInt c) (h2 : EV E sls ta rInt d) : EL E sls (tLstRg (tRg2 te ta)) rInt (fun k => c fun a => d fun b => (-100000 ≤ a ∧ a ≤ 100000 ∧ -100000 ≤ b ∧ b ≤ 100000 ∧ b - a ≤ 100000) ∧ k (rg2 a b)) := fun O σ H S k hk Q q =>
  h _ σ H S _ hk _ fun a v H1 ka x1 hv => h2 _ σ H1 (S.ext x1) _ ka _ fun b w H2 kb x2 hw => ⟨a, b, hv, hw, ⟨by omega, by omega, by omega, by omega, by omega⟩, fun P nP => by
    rw [rgV_eq]
    exact q_ints S (x1.trans x2) kb.2 (by unfold rg2; simp; omega) q nP⟩
end
/-- list + list by what is read -/
theorem op_catR {X : Cx} : OpR X (binaryOp .Add) rCatL := by
  intro pins s σ H x y v u Q I rx ry h
  obtain ⟨l, b, xs, zs, rfl, rfl, hH, hB, hz, q⟩ := h
  cases rx
  cases ry
  obtain ⟨z, its, n, r, e⟩ := hH.ok I.hok
  obtain ⟨z2, its2, n2, r2, e2⟩ := hB.ok I.hok
  have l1 := r.length
  have l2 := r2.length
  refine PySem.P.add_list e e2 ?_ (by rw [List.size_toArray, List.size_toArray]; omega)
  have ea : its.toArray ++ its2.toArray = (its ++ its2).toArray := by simp
  rw [ea]
  exact ⟨.ref _, _, I.lnew (t' := s.toks) (r.append r2) (by rw [List.length_append]; omega), rfl, q _ I.fresh⟩
/-- list(d) by what is read -/
def rListDR : List V → Hp → VK → Prop := fun xs H Q => ∃ p kvs, xs = [.ref p] ∧ Rd H p (.dK kvs) ∧ ∀ q, H q = none → Q (.ref q) (upd H q (.lst (kvs.map fun kv => kV kv.1)))
theorem cr_listDR {X : Cx} (hc : X.calm = true) : CallR X (.type "list") rListDR := by
  intro pins s σ H xs us Q I r h
  obtain ⟨p, kvs, e, hk, q⟩ := h
  subst e
  obtain ⟨u, eu, rx⟩ := vals1 r
  subst eu
  obtain rfl : u = Value.ref p := rx
  obtain ⟨z, lo, vs, rk, hd⟩ := hk.ok I.hok
  obtain ⟨ep, hat⟩ := hd.dictAt
  have hl : kvs.length = vs.length := Paired.length rk
  refine PySem.W.kdl_call (PySem.W.kdl_dict (knd := mixKind X.prog X.w) (kvs := vs) (ep := ep) lo) (I.ok.hd hc) hat (by rw [← hl]; exact z) fun h' tk acc' c' hkeep hS hacc => ?_
  have h0 : acc'.size = vs.length := hacc.1
  have hv : Vals (kvs.map fun kv => kV kv.1) acc'.toList := by
    have hl2 : (kvs.map fun kv => kV kv.1).length = acc'.toList.length := by
      have h3 : acc'.toList.length = acc'.size := by simp
      rw [List.length_map, h3, h0]
      exact hl
    refine vals_of_at hl2 fun j x w h1 h2 => ?_
    obtain ⟨k, y, hky, hi⟩ := hacc.2 j w (by rw [← Array.getElem?_toList]; exact h2)
    obtain ⟨x', hx1, _⟩ := KV.at' rk hky
    rw [List.getElem?_map, hx1] at h1
    cases h1
    exact keyIs_rel hi
  refine ⟨.ref s.heap.objs.size, _, I.laid (o := .lst (kvs.map fun kv => kV kv.1)) hkeep (Nat.le_refl _) ⟨by rw [List.length_map]; exact z, acc'.toList, c', hv, by rw [Array.toArray_toList]; exact hS⟩, rfl, q _ (I.hok.fresh (Nat.le_refl _))⟩
section
variable {K : PySem.W.Frag} {O : Addr → Prop} {E : Eff} {sls : List (Sl K)}
variable {α β γ κ : Type} {te ta tb tc : TE} {r : R K α} {s : R K β} {c : PT α} {d : PT β}
theorem el_listDR {c : PT (List (Int × α))} (h : ERd E sls te kyI r c) : EL E sls (tCB rListDR (tCons te tNil)) rInt (fun k => c fun d => k (d.map (·.1))) := fun O σ H S k hk Q q =>
  h _ σ H S _ hk _ fun d p vs H2 ka x hs hp hl => ⟨p, vs, rfl, (rd_hid.mp hs).2, fun P nP => by
    have e : (vs.map fun kv => kV kv.1) = (d.map (·.1)).map V.int := by
      have := congrArg (List.map kV) (keys_of hp)
      rw [List.map_map, List.map_map] at this
      exact this
    rw [e]
    exact q_ints S x ka (by rw [List.length_map, ← hp.length]; exact hl) q nP⟩
/-- xs * n of a new list -/
theorem paired_rep' {F : V → α → Prop} {vs : List V} {xs : List α} (h : Paired F vs xs) : ∀ n : Nat, Paired F (List.replicate n vs).flatten (List.replicate n xs).flatten
  | 0 => .nil
  | n + 1 => by
    rw [List.replicate_succ, List.replicate_succ, List.flatten_cons, List.flatten_cons]
    exact paired_app h (paired_rep' h n)
theorem el_rep {c : PT (List α)} {d : PT Int} (h1 : EL E sls ta r c) (h2 : EV E sls tb rInt d) : EL E sls (tOp rRep ta tb) r (fun k => c fun a => d fun n => (-100000 ≤ n ∧ n ≤ 100000 ∧ a.length * n.toNat ≤ big) ∧ k (List.replicate n.toNat a).flatten) := fun O σ H S k hk Q q =>
  h1 _ σ H S _ hk _ fun a p1 vs1 H1 ka x1 np hs1 hp1 hl1 => h2 _ σ H1 (S.ext x1) _ ka _ fun n w H2 kb x2 hw => by
    have nO : ¬ O p1 := S.nOn np
    have nM : ¬ E.M p1 := fun z => nO (S.mo _ z)
    have S2 := (S.ext x1).ext x2
    have hp1' : Paired (r.rp (hid H2 O)) vs1 a := pmap hp1 fun _ _ z => (S.ext x1).rep x2 (r.mono (ew_hid_le fun a h => .inl h) z)
    refine ⟨p1, n, vs1, rfl, hw, x2.keep hs1 nM, by omega, by omega, le_line (by rw [hp1.length]; exact kb.1.2.2), fun P nP => ?_⟩
    have n3 := S2.new (u := .lst (List.replicate n.toNat vs1).flatten) nP
    refine q _ P _ _ kb.2 ((x1.trans x2).trans n3.1) ((x1.trans x2).back nP) upd_same (by rw [hid_new nP]; exact paired_rep' hp1' _) ?_
    rw [(paired_rep' hp1' n.toNat).length]
    have : (List.replicate n.toNat a).flatten.length = n.toNat * a.length := by simp [List.length_flatten, List.map_replicate, List.sum_replicate_nat]
    rw [this, Nat.mul_comm]
    exact kb.1.2.2
end
end Nz

/-! Nz10: loops over dicts that stand; rules with K told. -/
namespace Nz
open PySem L2 PySem.Spec PyProof.Rows
variable {K : PySem.W.Frag} {E : Eff}
section
variable {α β γ κ S : Type} {te ta tb tc : TE}
variable {L N M : Type} {sls : List (Sl K)} {own own' : List Nat} {r : R K β} {fN : N → List (Sl K)} {oN : List Nat} {fL : L → List (Sl K)} {oL : List Nat} {u : TS} {rx : R K α}
/-- the loop from an iterator on -/
theorem for_core {g : TG} {tb : TS} {js : List Nat} {rx : R K α} {xs : List α} {body : α → S → PT (Ctl β S S)} {k : Ctl β L S → Prop} {fS : S → List (Sl K)} {h : S → α → List (Sl K)} {oS : List Nat} {s0 : S} {O0 : Addr → Prop} {H0 G : Hp} {σ : L2.St} {H2 : Hp} {J : It}
    (I2 : SI E O0 H0 G sls own σ H2) (W : IW (hid H2 (OwnOf O0 own σ)) (hid H2 (OwnOf O0 own σ)) rx xs J)
    (w : Wks oS 0 sls (fS s0)) (ho : ∀ j ∈ oS, j ∈ own) (hg : ∀ s, GT E (fS s) g rx js (h s)) (hd : ∀ j ∈ oS, j ∉ js) (hb : ∀ s a, BJ E (h s a) oS tb (body a s) r fS oS fS oS) (ka : forC xs s0 body k) {D : Ends}
    (q1 : ∀ s σ' H', k (.nx s) → SI E O0 H0 (hid H2 (OwnOf O0 oS σ)) (fS s) oS σ' H' → D.nx σ' H')
    (q2 : ∀ b v H', k (.rt b) → Ex (hid H0 E.M) (hid H' E.M) → E.I H' → r.rp (hid H' O0) v b → D.rt v H') :
    ∃ Wv : Nat → Nat → L2.St → Hp → Prop, (∃ m, Wv 0 m σ H2) ∧ ∀ i m σ H, Wv i m σ H →
      (J.stop i H ∧ D.nx σ H) ∨ (J.go i H ∧ ∃ N : L2.St → Hp → Prop, (∀ σ' H', N σ' H' → ∃ m', m' < m ∧ Wv (i + 1) m' σ' H') ∧ ∀ x H', J.yld i H x H' → g x σ H' fun σ2 H2 => tb { D with nx := N, ct := N, bk := D.nx } σ2 H2) := by
  have I2' := (I2.wk w ho)
  have le : Ef (hid H2 (OwnOf O0 own σ)) (hid H2 (OwnOf O0 oS σ)) := ef_hid_le (own_le fun j hj => ⟨ho j hj, rfl⟩)
  refine ⟨fun i m' σ3 H3 => m' = xs.length - i ∧ i ≤ xs.length ∧ ∃ s, SI E O0 H0 (hid H2 (OwnOf O0 oS σ)) (fS s) oS σ3 H3 ∧ forC (xs.drop i) s body k, ⟨xs.length, by simp, Nat.zero_le _, s0, I2'.fresh, by simpa using ka⟩, ?_⟩
  rintro i m' σ3 H3 ⟨rfl, hi', s, I3, kc⟩
  have b3 : Ef (hid H2 (OwnOf O0 own σ)) H3 := (le.trans I3.g).trans ef_un
  by_cases hlt : i < xs.length
  · refine .inr ⟨W.go i H3 hlt b3, fun σ' H' => xs.length - (i + 1) < xs.length - i ∧ ∃ s, SI E O0 H0 (hid H2 (OwnOf O0 oS σ)) (fS s) oS σ' H' ∧ forC (xs.drop (i + 1)) s body k, fun σ' H' ⟨h1, h2⟩ => ⟨xs.length - (i + 1), h1, rfl, hlt, h2⟩, fun v H4 y => ?_⟩
    obtain ⟨ex, a, ea, hv⟩ := W.yld (OwnOf O0 oS σ3) i H3 v H4 hlt b3 I3.sl.od (le.trans I3.g).ew y
    rw [drop_at ea, forC] at kc
    have I4 := I3.ext (.of_ex ex I3.sl.inv)
    refine hg s _ σ3 H4 a v I4.sl hv _ fun σ5 S5 hs h1 h2 => ?_
    exact hb s a O0 H0 _ σ5 H4 (I4.tgt S5 hs h2 hd) _ kc _ (fun s' σ' H' ks I' => ⟨by omega, s', I', ks⟩) (fun b v H' kb' a1 a2 a3 => q2 b v H' kb' a1 a2 a3) (fun s' σ' H' ks I' => q1 s' σ' H' ks I') (fun s' σ' H' ks I' => ⟨by omega, s', I', ks⟩)
  · have e : i = xs.length := by omega
    subst e
    rw [List.drop_length, forC] at kc
    exact .inl ⟨W.stop H3 b3, q1 s σ3 H3 kc I3⟩
/-- a dict that a name holds by value, walked while it is locked -/
structure KW (wi : TI) (j : Nat) (sl : Sl K) (rx : R K α) (xs : List α) : Prop where
  hp : sl.hp = false
  run : ∀ {O M : Addr → Prop} {H : Hp} {o : Option V}, sl.p (hid H O) (hid H M) o → ∃ p u, o = some (.ref p) ∧ Rd (hid H O) p u ∧ Pl u ∧
    ∀ {σ : L2.St} {H1 : Hp} {od : Obj}, σ[j]? = some (some (.ref p)) → H1 p = some (.frz od u) → ¬ O p → Ew (hid H O) (hid H1 O) → ∀ Rr : It → Hp → Prop, (∀ J, IW (hid H1 O) (hid H1 O) rx xs J → Rr J H1) → wi σ H1 Rr
theorem kw_keys {e : Ky κ} {rk : R K κ} (Kw : KyW rk e) {j : Nat} {d : List (κ × α)} : KW (K := K) (iKeys (tVar j)) j (slV (rDk e rx) d) rk (d.map (·.1)) := ⟨rfl, fun ⟨v, eo, p, kvs, ev, hr, hp, hl⟩ => ⟨p, .dK kvs, by rw [eo, ev], hr, True.intro, fun {σ H1 od} es hf nO w Rr q =>
  ⟨_, es, p, od, rfl, .inl ⟨kvs, hf, q _ (iw_keys Kw (B := hid H1 _) (by rw [hid_out nO]; exact hf) (pmap hp fun _ _ z => ⟨z.1, rx.mono w z.2⟩) hl)⟩⟩⟩⟩
theorem kw_items {e : Ky κ} {rk : R K κ} (Kw : KyW rk e) {j : Nat} {d : List (κ × α)} : KW (K := K) (iItems (tVar j)) j (slV (rDk e rx) d) (rPr (fc rk (f1 rx))) d := ⟨rfl, fun ⟨v, eo, p, kvs, ev, hr, hp, hl⟩ => ⟨p, .dK kvs, by rw [eo, ev], hr, True.intro, fun {σ H1 od} es hf nO w Rr q =>
  ⟨_, es, p, od, kvs, rfl, hf, q _ (iw_items Kw (B := hid H1 _) (by rw [hid_out nO]; exact hf) (pmap hp fun _ _ z => ⟨z.1, rx.mono w z.2⟩) hl)⟩⟩⟩
theorem kw_keysT {e : Kt κ} {rk : R K κ} (Kw : KtW rk e) {j : Nat} {d : List (κ × α)} : KW (K := K) (iKeys (tVar j)) j (slV (rDt e rx) d) rk (d.map (·.1)) := ⟨rfl, fun ⟨v, eo, p, kvs, ev, hr, hp, hl⟩ => ⟨p, .dT kvs, by rw [eo, ev], hr, True.intro, fun {σ H1 od} es hf nO w Rr q =>
  ⟨_, es, p, od, rfl, .inr ⟨kvs, hf, q _ (iw_keysT Kw (B := hid H1 _) (by rw [hid_out nO]; exact hf) (pmap hp fun _ _ z => ⟨z.1, rx.mono w z.2⟩) hl)⟩⟩⟩⟩
theorem SI.lock {O0 : Addr → Prop} {H0 G : Hp} {σ : L2.St} {H : Hp} {p : Addr} {v : HO} (I : SI E O0 H0 G sls own σ H) (nO : ¬ OwnOf O0 own σ p) (hp : H p = some v) (pv : Pl v) (od : Obj) :
    SI E O0 (upd H0 p (.frz od v)) (hid (upd H p (.frz od v)) (OwnOf O0 own σ)) sls own σ (upd H p (.frz od v)) := by
  have nM : ¬ E.M p := fun z => nO (I.sl.mo p z)
  have ef := Ef.lock od hp pv.mut
  refine ⟨⟨pmap I.sl.sl fun o sl h => sl.mono (ef.ew.hid _) (ef.hid _) h, fun a h => ?_, I.sl.mo, E.mono (fun a ha => upd_ne fun e => nM (by subst e; exact ha)) (ext_upd (pv.nx hp)) I.sl.inv⟩, fun a w e => ?_, Ef.refl _, fun i hi => ?_, I.ap, I.mo, I.hk⟩
  · obtain ⟨w, hw, nt⟩ := I.sl.od a h
    have c : a ≠ p := fun c => nO (by subst c; exact h)
    exact ⟨w, by rw [upd_ne c]; exact hw, nt⟩
  · obtain ⟨na, e⟩ := of_hid e
    rw [hid_out na]
    by_cases c : a = p
    · subst c
      rw [upd_same] at e ⊢
      exact e
    · rw [upd_ne c] at e ⊢
      exact (of_hid (I.h0 a w (by rw [hid_out na]; exact e))).2
  · obtain ⟨q, w, a, b, c, d, e, f, g⟩ := I.ow i hi
    have nq : q ≠ p := fun z => nO (by subst z; exact .inr ⟨i, hi, a⟩)
    exact ⟨q, w, a, hid_in (.inr ⟨i, hi, a⟩), by rw [upd_ne nq]; exact c, d, e, by rw [upd_ne nq]; exact f, g⟩
/-- unlocked again -/
theorem SI.unlock {O0 : Addr → Prop} {H0 G : Hp} {oS : List Nat} {σ σ' : L2.St} {H H' : Hp} {p : Addr} {v : HO} {od : Obj} {sls' : List (Sl K)} (I : SI E O0 H0 G sls own σ H) (nO : ¬ OwnOf O0 own σ p) (hp : H p = some v) (pv : Pl v) (ho : ∀ j ∈ oS, j ∈ own)
    (I' : SI E O0 (upd H0 p (.frz od v)) (hid (upd H p (.frz od v)) (OwnOf O0 oS σ)) sls' oS σ' H') : H' p = some (.frz od v) ∧ SI E O0 H0 G sls' oS σ' (upd H' p v) := by
  have nM : ¬ E.M p := fun z => nO (I.sl.mo p z)
  have h2 : H' p = some (.frz od v) := by
    have := I'.h0 p (.frz od v) (by rw [hid_out nM]; exact upd_same)
    exact (of_hid this).2
  have nO' : ¬ OwnOf O0 oS σ' p := fun z => by
    rcases z with z | ⟨j, hj, e⟩
    · exact nO (.inl z)
    · obtain ⟨q, w, a, b, c, d, e1, f, g⟩ := I'.ow j hj
      rw [e] at a
      cases a
      rw [upd_same] at c
      cases c
  have le : ∀ a, OwnOf O0 oS σ a → OwnOf O0 own σ a := own_le fun j hj => ⟨ho j hj, rfl⟩
  have ew : Ew H' (upd H' p v) := Ew.unlock h2
  have hM : E.I (upd H' p v) := E.mono (fun a ha => upd_ne fun e => nM (by subst e; exact ha)) (ext_upd (frz_nx h2)) I'.sl.inv
  have S' : Paired (fun o (sl : Sl K) => sl.p (hid (upd H' p v) (OwnOf O0 oS σ')) (hid (upd H' p v) E.M) o) σ' sls' := by
    have base : ∀ (j : Nat) (o : Option V) (s : Sl K), σ'[j]? = some o → sls'[j]? = some s → s.p (hid H' (OwnOf O0 oS σ')) (hid H' E.M) o → s.p (hid (upd H' p v) (OwnOf O0 oS σ')) (hid (upd H' p v) E.M) o := fun j o s e1 e2 z => by
      have z1 := s.mono (ew.hid _) (Ef.refl _) z
      cases q : s.hp with
      | false => exact s.no q z1
      | true =>
        refine s.yes (fun a ea => ?_) z1
        have ne : a ≠ p := fun c => by
          subst c
          exact nO' (.inr ⟨j, I'.hk j s e2 q, by rw [e1, ea]⟩)
        by_cases m : E.M a
        · rw [hid_in m, hid_in m]
        · rw [hid_out m, hid_out m, upd_ne ne]
    have all : ∀ (τ : L2.St) (ts : List (Sl K)), (∀ (j : Nat) (o : Option V) (s : Sl K), τ[j]? = some o → ts[j]? = some s → s.p (hid H' (OwnOf O0 oS σ')) (hid H' E.M) o → s.p (hid (upd H' p v) (OwnOf O0 oS σ')) (hid (upd H' p v) E.M) o) →
        Paired (fun o (sl : Sl K) => sl.p (hid H' (OwnOf O0 oS σ')) (hid H' E.M) o) τ ts → Paired (fun o (sl : Sl K) => sl.p (hid (upd H' p v) (OwnOf O0 oS σ')) (hid (upd H' p v) E.M) o) τ ts := by
      intro τ ts f h
      induction h with
      | nil => exact .nil
      | cons h t ih => exact .cons (f 0 _ _ rfl rfl h) (ih fun j o s a b => f (j + 1) o s (by simpa using a) (by simpa using b))
    exact all σ' sls' base I'.sl.sl
  refine ⟨h2, ⟨S', fun a h => ?_, I'.sl.mo, hM⟩, fun a w e => ?_, I.g.trans ?_, fun i hi => ?_, I'.ap, I'.mo, I'.hk⟩
  · obtain ⟨w, hw, nt⟩ := I'.sl.od a h
    have c : a ≠ p := fun c => nO' (by subst c; exact h)
    exact ⟨w, by rw [upd_ne c]; exact hw, nt⟩
  · have h0 := (of_hid (I.h0 a w e)).2
    obtain ⟨na, e⟩ := of_hid e
    rw [hid_out na]
    by_cases c : a = p
    · subst c
      rw [hp] at h0
      rw [upd_same]
      exact h0
    · rw [upd_ne c]
      exact (of_hid (I'.h0 a w (by rw [hid_out na, upd_ne c]; exact e))).2
  · -- from hid H own
    have e1 : Ef (hid H (OwnOf O0 own σ)) (hid H (OwnOf O0 oS σ)) := ef_hid_le le
    have g' := I'.g
    have at' : ∀ a, a ≠ p → hid (upd H p (.frz od v)) (OwnOf O0 oS σ) a = hid H (OwnOf O0 oS σ) a := fun a c => by
      by_cases q : OwnOf O0 oS σ a
      · rw [hid_in q, hid_in q]
      · rw [hid_out q, hid_out q, upd_ne c]
    have at2 : ∀ a, a ≠ p → hid (upd H' p v) (OwnOf O0 oS σ') a = hid H' (OwnOf O0 oS σ') a := fun a c => by
      by_cases q : OwnOf O0 oS σ' a
      · rw [hid_in q, hid_in q]
      · rw [hid_out q, hid_out q, upd_ne c]
    have nOS : ¬ OwnOf O0 oS σ p := fun z => nO (le p z)
    have pp : hid H (OwnOf O0 oS σ) p = some v := by rw [hid_out nOS]; exact hp
    have pp2 : hid (upd H' p v) (OwnOf O0 oS σ') p = some v := by rw [hid_out nO']; exact upd_same
    refine e1.trans ⟨⟨fun a w pw q => ?_, fun a xs q => ?_⟩, fun a o w q => ?_, fun a w q => ?_⟩
    · by_cases c : a = p
      · subst c
        rcases q with q | ⟨o, q⟩
        · rw [pp] at q; cases q
          exact .inl pp2
        · rw [pp] at q; cases q
          exact pv.elim
      · have := g'.ew.rd a w pw (rd_eq (at' a c) q)
        exact rd_eq (at2 a c) this
    · by_cases c : a = p
      · subst c
        rw [pp] at q; cases q
        exact pv.elim
      · rw [at2 a c]
        exact g'.ew.tp a xs (by rw [at' a c]; exact q)
    · by_cases c : a = p
      · subst c
        rw [pp] at q; cases q
        exact pv.elim
      · rw [at2 a c]
        exact g'.fz a o w (by rw [at' a c]; exact q)
    · by_cases c : a = p
      · subst c
        exact ⟨_, pp2⟩
      · obtain ⟨w', h'⟩ := g'.ex a w (by rw [at' a c]; exact q)
        exact ⟨w', by rw [at2 a c]; exact h'⟩
  · obtain ⟨q, w, a, b, c, d, e, f, g⟩ := I'.ow i hi
    have nq : q ≠ p := fun z => nO' (by subst z; exact .inr ⟨i, hi, a⟩)
    refine ⟨q, w, a, ?_, by rw [upd_ne nq] at c; exact c, d, e, by rw [upd_ne nq]; exact f, g⟩
    cases z : G q with
    | none => rfl
    | some y =>
      obtain ⟨y1, h1⟩ := I.g.ex q y z
      obtain ⟨y2, h2'⟩ := (ef_hid_le (H := H) le).ex q y1 h1
      rw [hid_out (fun k => nO' (by
        have : (hid (upd H p (.frz od v)) (OwnOf O0 oS σ)) q = none := b
        rw [hid_in k] at h2'
        cases h2'))] at h2'
      have n : ¬ OwnOf O0 oS σ q := fun k => by
        have e3 := (ef_hid_le (H := H) le).ex q y1 h1
        obtain ⟨y3, h3⟩ := e3
        rw [hid_in k] at h3
        cases h3
      rw [hid_out n, upd_ne nq, h2'] at b
      cases b
theorem bj_forK {wi : TI} {g : TG} {tb : TS} {js : List Nat} {rx : R K α} {xs : List α} {sl : Sl K} {j : Nat} {body : α → S → PT (Ctl β S S)} {m : S → PT (Ctl β L N)} {fS : S → List (Sl K)} {h : S → α → List (Sl K)} {oS : List Nat} {s0 : S} (h0 : sls[j]? = some sl) (kw : KW wi j sl rx xs)
    (w : Wks oS 0 sls (fS s0)) (ho : ∀ j ∈ oS, j ∈ own) (hg : ∀ s, GT E (fS s) g rx js (h s)) (hd : ∀ j ∈ oS, j ∉ js) (hb : ∀ s a, BJ E (h s a) oS tb (body a s) r fS oS fS oS) (n : ∀ s, BJ E (fS s) oS u (m s) r fN oN fL oL) :
    BJ E sls own (tSeq (sLk (tFor wi g tb)) u) (fun k => forC xs s0 body (seqK m k)) r fN oN fL oL := fun O0 H0 G σ H I k hk D q1 q2 q3 q4 => by
  obtain ⟨o, eo, q⟩ := I.sl.at h0
  obtain ⟨p, v, e1, hr, pv, run⟩ := kw.run q
  subst e1
  obtain ⟨nO, hr⟩ := rd_hid.mp hr
  have nM : ¬ E.M p := fun z => nO (I.sl.mo p z)
  rcases hr with hp | ⟨od, hp⟩
  · refine .inl ⟨p, v, hp, pv.mut, fun od => ?_⟩
    have I1 := I.lock nO hp pv od
    refine run (σ := σ) (H1 := upd H p (.frz od v)) (od := od) eo upd_same nO ((Ew.lock od hp pv.mut).hid _) _ fun J W => ?_
    refine for_core I1 W w ho hg hd hb hk (fun s σ' H' ks I' => ?_) (fun b v' H' kb a1 a2 a3 => ?_)
    · obtain ⟨z1, z2⟩ := I.unlock nO hp pv ho I'
      exact ⟨z1, n s O0 H0 G σ' _ z2 k ks D q1 q2 q3 q4⟩
    · have z1 : H' p = some (.frz od v) := (of_hid (a1 p (.frz od v) (by rw [hid_out nM]; exact upd_same))).2
      refine ⟨z1, q2 b v' _ kb (fun a w e => ?_) (E.mono (fun a ha => upd_ne fun e => nM (by subst e; exact ha)) (ext_upd (frz_nx z1)) a2) (r.mono ((Ew.unlock z1).hid _) a3)⟩
      have h0' := (of_hid (I.h0 a w e)).2
      obtain ⟨na, e⟩ := of_hid e
      rw [hid_out na]
      by_cases c : a = p
      · subst c
        rw [hp] at h0'
        rw [upd_same]
        exact h0'
      · rw [upd_ne c]
        exact (of_hid (a1 a w (by rw [hid_out na, upd_ne c]; exact e))).2
  · refine .inr ?_
    refine run (σ := σ) (H1 := H) (od := od) eo hp nO (Ew.refl _) _ fun J W => ?_
    exact for_core I W w ho hg hd hb hk (fun s σ' H' ks I' => n s O0 H0 G σ' H' (I'.ghost (I.wk w ho).g) k ks D q1 q2 q3 q4) (fun b v' H' kb a1 a2 a3 => q2 b v' H' kb a1 a2 a3)
end
end Nz

/-! Nz11: programs of tests and blocks; rules with K told. -/
namespace Nz
open PySem L2 PySem.Spec PyProof.Rows
namespace Pg
variable {α β L M N S : Type}
def andG (c d : Pg Bool) : Pg Bool := ⟨fun k => c.wp fun a => if a = true then d.wp k else k false, fun h q => c.mono (fun a h' => by
  cases a with
  | true => rw [if_pos rfl] at h' ⊢; exact d.mono h h'
  | false => rw [if_neg Bool.false_ne_true] at h' ⊢; exact h _ h') q⟩
def orG (c d : Pg Bool) : Pg Bool := ⟨fun k => c.wp fun a => if a = true then k true else d.wp k, fun h q => c.mono (fun a h' => by
  cases a with
  | true => rw [if_pos rfl] at h' ⊢; exact h _ h'
  | false => rw [if_neg Bool.false_ne_true] at h' ⊢; exact d.mono h h') q⟩
def ifG (c : Pg Bool) (a b : Pg α) : Pg α := ⟨fun k => c.wp fun x => if x = true then a.wp k else b.wp k, fun h q => c.mono (fun x h' => by
  cases x with
  | true => rw [if_pos rfl] at h' ⊢; exact a.mono h h'
  | false => rw [if_neg Bool.false_ne_true] at h' ⊢; exact b.mono h h') q⟩
theorem seqK_mono {f : M → PT (Ctl β L N)} (mf : ∀ s (k k' : Ctl β L N → Prop), (∀ a, k a → k' a) → f s k → f s k') {k k' : Ctl β L N → Prop} (h : ∀ a, k a → k' a) : ∀ c, seqK f k c → seqK f k' c
  | .nx s, q => mf s k k' h q
  | .rt _, q => h _ q
  | .bk _, q => h _ q
  | .ct _, q => h _ q
def seqG (m : M → Pg (Ctl β L N)) (c : Ctl β L M) : Pg (Ctl β L N) := ⟨fun k => seqK (fun s => (m s).wp) k c, fun h q => seqK_mono (fun s _ _ h' => (m s).mono h') h c q⟩
def iteG (c : Pg Bool) (a b : Pg (Ctl β L M)) (m : M → Pg (Ctl β L N)) : Pg (Ctl β L N) := ⟨fun k => c.wp fun x => if x = true then a.wp (seqK (fun s => (m s).wp) k) else b.wp (seqK (fun s => (m s).wp) k), fun h q => c.mono (fun x h' => by
  cases x with
  | true => rw [if_pos rfl] at h' ⊢; exact a.mono (seqK_mono (fun s _ _ h2 => (m s).mono h2) h) h'
  | false => rw [if_neg Bool.false_ne_true] at h' ⊢; exact b.mono (seqK_mono (fun s _ _ h2 => (m s).mono h2) h) h') q⟩
def outG (m : Pg (Ctl β Empty Unit)) : Pg β := ⟨fun k => m.wp (outF k), fun h q => m.mono (fun c hc => by
  cases c with
  | rt b => exact h _ hc
  | nx _ => exact hc
  | bk l => exact nomatch l
  | ct l => exact nomatch l) q⟩
def outGU (m : Pg (Ctl Unit Empty Unit)) : Pg Unit := ⟨fun k => m.wp (outU k), fun h q => m.mono (fun c hc => by
  cases c with
  | rt b => exact h _ hc
  | nx _ => exact h _ hc
  | bk l => exact nomatch l
  | ct l => exact nomatch l) q⟩
theorem ext' {c d : Pg α} (h : ∀ k, c.wp k = d.wp k) : c = d := by
  obtain ⟨cw, cm⟩ := c
  obtain ⟨dw, dm⟩ := d
  have : cw = dw := funext h
  subst this
  rfl
@[simp] theorem pure_bnd (a : α) (f : α → Pg β) : (pure a : Pg α) >>= f = f a := rfl
@[simp] theorem andG_pure (a b : Bool) : andG (pure a) (pure b) = pure (a && b) := ext' fun k => by
  show (if a = true then k b else k false) = k (a && b)
  cases a <;> simp
@[simp] theorem orG_pure (a b : Bool) : orG (pure a) (pure b) = pure (a || b) := ext' fun k => by
  show (if a = true then k true else k b) = k (a || b)
  cases a <;> simp
@[simp] theorem ifG_pure (a : Bool) (x y : Pg α) : ifG (pure a) x y = if a = true then x else y := ext' fun k => by
  show (if a = true then x.wp k else y.wp k) = _
  cases a <;> simp
@[simp] theorem bnd_pure (c : Pg α) : (c >>= fun a => pure a) = c := rfl
theorem comp_pure (t : α → Bool) (f : α → β) (xs : List α) : comp xs (fun x => pure (t x)) (fun x => pure (f x)) = pure ((xs.filter t).map f) := ext' fun k => by
  show compT xs (fun x k => k (t x)) (fun x k => k (f x)) k = k ((xs.filter t).map f)
  induction xs generalizing k with
  | nil => rfl
  | cons x xs ih =>
    rw [compT_cons]
    cases h : t x with
    | true =>
      dsimp only
      rw [if_pos rfl, List.filter_cons, if_pos h, List.map_cons]
      exact ih fun ys => k (f x :: ys)
    | false =>
      dsimp only
      rw [if_neg Bool.false_ne_true, List.filter_cons, if_neg (by rw [h]; exact Bool.false_ne_true)]
      exact ih k
end Pg
section
variable {X : Cx} {a b e : Expr} {ta tb te : TE} {pos : Pos}
theorem op_inK (K : PySem.W.Frag) (h : X.K = K := by rfl) : OpR X (compareOp .In) (rIn K false) := h ▸ op_in_seq
theorem op_niK (K : PySem.W.Frag) (h : X.K = K := by rfl) : OpR X (compareOp .NotIn) (rIn K true) := h ▸ op_notIn_seq
theorem op_eqK (K : PySem.W.Frag) (hu : X.A.units + 64 < cLine) (h : X.K = K := by rfl) : OpR X (compareOp .Eq) (rEqD K) := h ▸ op_eqD hu
theorem op_neK (K : PySem.W.Frag) (hu : X.A.units + 64 < cLine) (h : X.K = K := by rfl) : OpR X (compareOp .NotEq) (rNeD K) := h ▸ op_neD hu
theorem ix_lK (K : PySem.W.Frag) (h : X.K = K := by rfl) : IxR X (rIxL K) := h ▸ ix_list
theorem ix_tK (K : PySem.W.Frag) (h : X.K = K := by rfl) : IxR X (rIxT K) := h ▸ ix_tup
theorem sl_tK (K : PySem.W.Frag) (h : X.K = K := by rfl) : L2.SlR X (rSlA K) := h ▸ sl_tupA
theorem sl_lK (K : PySem.W.Frag) (h : X.K = K := by rfl) : L2.SlR X (rSlL K) := h ▸ sl_list
theorem op_catK (K : PySem.W.Frag) (h : X.K = K := by rfl) : OpR X (binaryOp .Add) (rCatA K) := h ▸ op_catA
theorem cr_allK (K : PySem.W.Frag) (h : X.K = K := by rfl) (hc : X.calm = true := by rfl) : CallR X (.builtin "all") (rAll K) := h ▸ cr_all hc
theorem cr_anyK (K : PySem.W.Frag) (h : X.K = K := by rfl) (hc : X.calm = true := by rfl) : CallR X (.builtin "any") (rAny K) := h ▸ cr_any hc
theorem cr_sumK (K : PySem.W.Frag) (h : X.K = K := by rfl) (hc : X.calm = true := by rfl) : CallR X (.builtin "sum") (rSum K) := h ▸ cr_sum hc
theorem cr_maxK (K : PySem.W.Frag) (h : X.K = K := by rfl) (hc : X.calm = true := by rfl) : CallR X (.builtin "max") (rMax K) := h ▸ cr_max hc
theorem cr_minK (K : PySem.W.Frag) (h : X.K = K := by rfl) (hc : X.calm = true := by rfl) : CallR X (.builtin "min") (rMin K) := h ▸ cr_min hc
theorem cr_sortedK (K : PySem.W.Frag) (h : X.K = K := by rfl) : CallR X (.builtin "sorted") (rSortedI K) := h ▸ cr_sortedI
theorem cr_lenK (K : PySem.W.Frag) (h : X.K = K := by rfl) : CallR X (.builtin "len") (rLenS K) := h ▸ call_len_seq
theorem cr_listK (K : PySem.W.Frag) (h : X.K = K := by rfl) : CallR X (.type "list") (rListS K) := h ▸ call_list_of
theorem cr_tupK (K : PySem.W.Frag) (h : X.K = K := by rfl) : CallR X (.type "tuple") (rTupS K) := h ▸ call_tuple_of
theorem cr_setK (K : PySem.W.Frag) (w : World) (h : X.K = K := by rfl) (h2 : X.w = w := by rfl) (hc : X.calm = true := by rfl) : CallR X (.type "set") (rSetL K w) := h2 ▸ h ▸ cr_setL hc
theorem cr_sortSetK (w : World) (h2 : X.w = w := by rfl) (hc : X.calm = true := by rfl) : CallR X (.builtin "sorted") (rSortedSet w) := h2 ▸ cr_sortedSet hc
variable {tg l : Expr} {tl : TE}
theorem pi_lK (K : PySem.W.Frag) (hl : PE X l tl) (h : X.K = K := by rfl) : PI X tg l (iList K tl) := h ▸ pi_list hl
theorem pi_tK (K : PySem.W.Frag) (hl : PE X l tl) (h : X.K = K := by rfl) : PI X tg l (iTup K tl) := h ▸ pi_tup hl
variable {p tpos : Pos} {elts : List Expr} {kk : Nat} {t : TA} {e2 : Expr}
theorem pi_eLK (K : PySem.W.Frag) (hg : Gl X "enumerate") (hm : X.mg "enumerate" = none) (ha : PA X [e] t) (h : X.K = K := by rfl) (hs : starEach [e] X.env = [(false, eval e X.env)] := by rfl) : PI X (.Tuple elts kk tpos) (.Call (.Name "enumerate" p) [e] [] pos) (iEnum K t) := h ▸ pi_enum hg hm ha hs
theorem pi_eTK (K : PySem.W.Frag) (hg : Gl X "enumerate") (hm : X.mg "enumerate" = none) (ha : PA X [e] t) (h : X.K = K := by rfl) (hs : starEach [e] X.env = [(false, eval e X.env)] := by rfl) : PI X (.Tuple elts kk tpos) (.Call (.Name "enumerate" p) [e] [] pos) (iEnumT K t) := h ▸ pi_enumT hg hm ha hs
theorem pi_zK (K : PySem.W.Frag) (hg : Gl X "zip") (hm : X.mg "zip" = none) (ha : PA X [e, e2] t) (h : X.K = K := by rfl) (hs : starEach [e, e2] X.env = (false, eval e X.env) :: starEach [e2] X.env := by rfl) (hpl : (backTo pos (starEach [e2] X.env)).any (·.1) = false := by rfl) :
    PI X (.Tuple elts kk tpos) (.Call (.Name "zip" p) [e, e2] [] pos) (RZ.iZipA K t) := h ▸ RZ.pi_zipA hg hm ha hs hpl
theorem ps_lkA {i : Nat} {st : Stmt} {te : TE} (h : PS X st (tAsg te (gName i))) : PS X st (tAsg (tLk te) (gName i)) := ⟨(ps_lk h).run⟩
end
end Nz

/-! Nz12: glue of blocks, displays, defs by name. -/
namespace Nz
open PySem L2 PySem.Spec PyProof.Rows
section
variable {X : Cx} {a e : Expr} {ta te : TE}
theorem pt_truK (K : PySem.W.Frag) (ha : PE X a ta) (h : X.K = K := by rfl) (he : ∀ whole, isTrue a X.env whole = (do let v ← whole; standAt a.pos; holding [v] (truthy v)) := by intro _; rfl) :
    L2.PT X a (fun σ H Q => ta σ H fun x H' => ∃ k, TruV K x H' k ∧ Q k H') := h ▸ pt_truth ha he
theorem cr_sortedDI (hc : X.calm = true := by rfl) : CallR X (.builtin "sorted") rSortedDI := call_sortedDI hc
end
section
variable {K : PySem.W.Frag} {E : Eff} {α β κ L M N : Type} {tk te : TE} {sls : List (Sl K)} {own : List Nat} {r : R K β} {fN : N → List (Sl K)} {oN : List Nat} {fL : L → List (Sl K)} {oL : List Nat} {t u v : TS} {m : PT (Ctl β L N)} {rx : R K α}
theorem bj_seq (h : BJ E sls own (tSeq t (tSeq u v)) m r fN oN fL oL) : BJ E sls own (tSeq (tSeq t u) v) m r fN oN fL oL := h
theorem bj_seq0 (h : BJ E sls own v m r fN oN fL oL) : BJ E sls own (tSeq tNext v) m r fN oN fL oL := h
theorem bj_dead : BJ E sls own v (fun _ => False) r fN oN fL oL := fun O0 H0 G σ H I k hk D q1 q2 q3 q4 => hk.elim
/-- {k: v} -/
theorem ed_disp1 [DecidableEq κ] {e : Ky κ} {rk : R K κ} (Kr : KyR rk e) {ck : PT κ} {c : PT α} (hk : EV E sls tk rk ck) (h : EV E sls te rx c) : ED E sls (tDisp [(tk, te)]) e rx (fun k => ck fun a => c fun b => k [(a, b)]) := fun O σ H S k hk' Q q p np => by
  have nO : ¬ O p := S.nOn np
  have nM : ¬ E.M p := fun z => nO (S.mo _ z)
  have n0 := S.new (u := .dK []) np
  have S0 := S.withD np n0.1 ⟨_, upd_same, fun _ z => by cases z⟩
  have hp0 : upd H p (.dK []) p = some (.dK []) := upd_same
  refine hk _ σ _ S0 _ hk' _ fun a y H1 ka x1 hy => h _ σ H1 (S0.ext x1) _ ka _ fun b v H2 kb x2 hv => ?_
  have x02 := (n0.1.trans x1).trans x2
  refine ⟨x2.keep (x1.keep hp0 nM) nM, [(e.enc a, v)], by
    have : y = kV (e.enc a) := Kr.is hy
    rw [this]
    rfl, by simp, ?_⟩
  refine q [(a, b)] p [(e.enc a, v)] _ kb (x02.put np nM (fun φ z => by rw [x2.keep (x1.keep hp0 nM) nM] at z; cases z)) np upd_same (.cons ⟨rfl, ?_⟩ .nil) (by show 1 ≤ 100000; omega)
  rw [hid_put]
  exact hv
end
theorem pg_tupK (K : PySem.W.Frag) (n : Nat) {X : Cx} {es : List Expr} {kk : Nat} {pos : Pos} {t : TGs} (hc : X.calm = true) (h : PGs X es t) (hK : X.K = K := by rfl) (hn : (assignEach es X.env).length = n := by rfl) (hs : (assignEach es X.env).findIdx? (·.1) = none := by rfl) : PG X (.Tuple es kk pos) (gTup K n t) := by
  subst hK hn
  exact pg_tup hc h rfl hs
theorem pe_gc {X : Cx} {x : Str} {pos : Pos} {v : V} (hg : Gl X x) (h : ∃ u, X.mg x = some u ∧ RelV v u) (hd : (x == ("__debug__" : Str)) = false := by decide) : PE X (.Name x pos) (tC v) := by
  obtain ⟨u, hm, r⟩ := h
  exact pe_glob hg hm r hd
/-- a def of the module, by its name -/
structure DefK (K : PySem.W.Frag) (mg : Str → Option Value) (x : Str) (st : Stmt) (ps : List Str) : Prop where
  ex : ∃ f fd, L2.Fun K x x st f fd ∧ mg x = some (.ref f) ∧ Binds K fd ps []
/-- a def that may be called by its name -/
structure Cal (P : Program) (w : World) (K : PySem.W.Frag) (mg : Str → Option Value) (base : Heap) (k : Nat) (x : Str) (sp : Sp) (dvs : List V) : Prop where
  ex : ∃ (f : Addr) (fd : FuncData) (ps : List Str), FnOk P w K mg base CX0 k f fd ps sp ∧ mg x = some (.ref f) ∧ PySem.W.keepIn K (.ref f) = true ∧ Binds K fd ps [] ∧ dvs = []
theorem DefK.cal {P : Program} {w : World} {K : PySem.W.Frag} {mg : Str → Option Value} {base : Heap} {x : Str} {st : Stmt} {ps : List Str} {k : Nat} {sp : Sp} (D : DefK K mg x st ps) (h : ∀ f fd, L2.Fun K x x st f fd → FnOk P w K mg base CX0 k f fd ps sp) : Cal P w K mg base k x sp [] := by
  obtain ⟨f, fd, F, hm, b⟩ := D.ex
  exact ⟨f, fd, ps, h f fd F, hm, F.kp, b, rfl⟩
theorem pe_c {X : Cx} {k j : Nat} {x : Str} {sp : Sp} {p pos : Pos} {e : Expr} {es : List Expr} {t : TA} (c : Cal X.prog X.w X.K X.mg X.base k x sp []) (hr : Room j X.A) (hk : k ≤ j) (hg : Gl X x) (ha : PA X (e :: es) t)
    (hdb : (x == ("__debug__" : Str)) = false := by decide) (he : starEach (e :: es) X.env = (false, eval e X.env) :: starEach es X.env := by rfl) (hpl : (backTo pos (starEach es X.env)).any (·.1) = false := by rfl) :
    PE X (.Call (.Name x p) (e :: es) [] pos) (tCall sp [] E0 t) := by
  obtain ⟨f, fd, ps, F, hm, kp, b, _⟩ := c.ex
  exact pe_call F (hr.mono hk) hg hm kp b .nil pass0 ha hdb he hpl
end Nz

/-! Nz13: while True, left by break alone. -/
namespace Nz
open PySem L2 PySem.Spec PyProof.Rows
def whileB {β L S T : Type} : Nat → S → (S → PT (Ctl β T S)) → PT (Ctl β L T)
  | 0, _, _, _ => False
  | n + 1, s, f, k => f s fun c => match c with
    | .nx s' => whileB n s' f k
    | .ct _ => False
    | .bk b => k (.nx b)
    | .rt b => k (.rt b)
def whileBT {β L S T : Type} (s : S) (f : S → PT (Ctl β T S)) : PT (Ctl β L T) := fun k => ∃ n, whileB n s f k
theorem whileB_mono {β L S T : Type} {f : S → PT (Ctl β T S)} (mf : ∀ s (k k' : Ctl β T S → Prop), (∀ a, k a → k' a) → f s k → f s k') : ∀ (n : Nat) (s : S) (k k' : Ctl β L T → Prop), (∀ a, k a → k' a) → whileB n s f k → whileB n s f k'
  | 0, _, _, _, _, q => q
  | n + 1, s, k, k', h, q => mf s _ _ (fun c hc => by
    cases c with
    | nx s' => exact whileB_mono mf n s' k k' h hc
    | ct s' => exact hc
    | bk s' => exact h _ hc
    | rt b => exact h _ hc) q
def Pg.whileb {β L S T : Type} (s : S) (f : S → Pg (Ctl β T S)) : Pg (Ctl β L T) := ⟨whileBT s fun s => (f s).wp, fun h ⟨n, q⟩ => ⟨n, whileB_mono (fun s _ _ h' => (f s).mono h') n s _ _ h q⟩⟩
section
variable {K : PySem.W.Frag} {E : Eff} {β L N S T : Type} {sls : List (Sl K)} {own : List Nat} {r : R K β} {fN : N → List (Sl K)} {oN : List Nat} {fL : L → List (Sl K)} {oL : List Nat} {u : TS}
theorem bj_whileB {tt : TT} {tb : TS} {body : S → PT (Ctl β T S)} {m : T → PT (Ctl β L N)} {fS : S → List (Sl K)} {oS : List Nat} {fT : T → List (Sl K)} {oT : List Nat} {s0 : S} (w : Wks oS 0 sls (fS s0)) (ho : ∀ j ∈ oS, j ∈ own) (ht : ∀ s, ET E (fS s) tt (fun k => k true)) (hb : ∀ s, BJ E (fS s) oS tb (body s) r fS oS fT oT) (n : ∀ s, BJ E (fT s) oT u (m s) r fN oN fL oL) :
    BJ E sls own (tSeq (tWhile tt tb) u) (fun k => whileBT s0 body (seqK m k)) r fN oN fL oL := fun O0 H0 G σ H I k ⟨n0, hk⟩ D q1 q2 q3 q4 => by
  refine ⟨fun n σ H => ∃ s, SI E O0 H0 G (fS s) oS σ H ∧ whileB n s body (seqK m k), ⟨n0, s0, I.wk w ho, hk⟩, ?_⟩
  rintro n1 σ1 H1 ⟨s, I1, hk1⟩
  cases n1 with
  | zero => exact hk1.elim
  | succ n1 =>
    refine ht s _ σ1 H1 I1.sl (fun b => b = true ∧ whileB (n1 + 1) s body (seqK m k)) ⟨rfl, hk1⟩ _ fun b H2 kb x => ?_
    obtain ⟨rfl, kb⟩ := kb
    rw [if_pos rfl]
    refine ⟨fun σ' H' => ∃ s, SI E O0 H0 G (fS s) oS σ' H' ∧ whileB n1 s body (seqK m k), fun σ' H' hN => ⟨n1, Nat.lt_succ_self _, hN⟩, ?_⟩
    exact hb s O0 H0 G σ1 H2 (I1.ext x) _ kb _ (fun s' σ' H' ks I' => ⟨s', I', ks⟩) (fun b v H' kb' a1 a2 a3 => q2 b v H' kb' a1 a2 a3) (fun s' σ' H' ks I' => n s' O0 H0 G σ' H' I' k ks D q1 q2 q3 q4) (fun s' σ' H' ks I' => ks.elim)
end
end Nz

/-! Nz15: sorted(xs, key=lambda x: x[c]). -/
namespace Nz
open PySem L2 PySem.Spec PyProof.Rows LamX PySem.W
theorem lam_ix {prog : Program} {w : World} {A : Around} {E : Value → Shared → Prop} {s : Shared} {f c' t : Addr} {qual x : Str} {scope : Scope} {cl : List (Str × Addr)} {params : Arguments} {pm ctv v z : Value} {i : Int} {jj : Nat} {p1 p2 p3 : Pos} {its : List Value} {Q : Value → Shared → Prop}
    (hf : s.heap.get? f = some (PySem.W.kla_obj "<lambda>" qual params (.Subscript (.Name x p1) (.Constant (.int i) jj p2) p3) scope cl pm c' ctv)) (hcode : s.heap.CodeRec (.ref c') qual) (hroom : A.depth < recursionLimit) (hnl : s.heap.NoLimit)
    (hbind : bindArgs (PySem.W.kla_fn "<lambda>" qual params (.Subscript (.Name x p1) (.Constant (.int i) jj p2) p3) scope cl pm (.ref c') ctv) ⟨[v], []⟩ = pure [(x, v)])
    (hk : scope.kind = .function) (hco : scope.isCoroutine = false) (hgen : scope.isGenerator = false) (hcell : ∀ y ∈ scope.names, y.2 ≠ .cell) (hx : scope.names.lookup x = some .local) (hd : (x == ("__debug__" : Str)) = false)
    (ev : v = .ref t) (ht : IsTup s.heap t its.toArray) (hz : its.length ≤ 1000) (hi : its[i.toNat]? = some z) (h0 : 0 ≤ i)
    (h : ∀ h' tk, (∀ b o, s.heap.get? b = some o → h'.get? b = some o) → Q z { s with heap := h', toks := tk }) : wpAny (model prog w) A (call (.ref f) [v]) Q E s := by
  refine wpAny_call ?_
  refine PySem.W.kla_callFunE hroom hf rfl hco hgen rfl hcode ?_
  rw [hbind]
  have hl : ∀ y ∈ [(x, v)], scope.names.lookup y.1 = some .local := fun y hy => by
    simp at hy
    subst hy
    exact hx
  refine wpAny_pure (wpAny_newFunctionEnv hcell hl (fun h₁ hns hsb => ⟨hnl.fresh _ hsb, ?_⟩) hk)
  have kp : ∀ b o, s.heap.get? b = some o → h₁.get? b = some o := fun b o e => hsb.extBut b o (Nat.ne_of_lt (Heap.lt_size e)) (Heap.get?_push_of_some _ e)
  refine PySem.W.kla_codeExpr ?_
  refine Subscript_ (wpAny_Name (wpAny_loadName_local (env := newEnv scope s.heap.objs.size mainGlobals cl (qual ++ ".<locals>.") (some f) (.ref c') none builtinsNs) hk hx hns (v := v) (by simp [List.lookup]) ?_) hd)
  refine wpAny_Constant_int ?_
  subst ev
  have hlt : i.toNat < its.length := (List.getElem?_eq_some_iff.mp hi).1
  have ht1 : IsTup h₁ t its.toArray := ht.keeps kp
  have hsi : seqIndex? i its.toArray.size = some i.toNat := by
    unfold seqIndex?
    have : its.toArray.size = its.length := by simp
    rw [this]
    simp [h0, show ¬ i < 0 by omega, show i < (its.length : Int) by omega]
    try omega
  exact subscriptTail_builtinR (x := z) ht1.typeIs slot_tuple_getitem.lookup (getItem_tuple (items := its.toArray) (j := i.toNat) (Q := fun r s' => r = z ∧ wants Q E (.ok (.ret r)) s') ht1 (by omega) (by omega) hsi (by simpa using hi) ⟨rfl, h _ _ kp⟩)
section
variable {X : Cx} {pins : List (Addr × Obj)} {σ : L2.St} {H : Hp} {s : Shared}
theorem lam_make3 {T : List (Addr × Str)} {c P : Addr} {params : Arguments} {body : Expr} {scope : Scope} {pos : Pos} {E : Value → Shared → Prop} {Q : Value → Shared → Prop} (I : Inv X pins σ H s) (TB : TabB X.base X.mg c P) (hcode : X.env.code = .ref c)
    (hm : (P, X.env.qual ++ "<lambda>") ∈ T) (hu : ∀ p ∈ T, p.1 = P → p.2 = X.env.qual ++ "<lambda>") (hT : Tabs T H) (hdef : defaultsOf params X.env = ([], [])) (hfree : ∀ y ∈ scope.names, y.2 = .free → ∃ c, X.env.cells.lookup y.1 = some c)
    (h : ∀ (f c' : Addr) (pm ctv : Value) (H1 : Hp) (s' : Shared), Inv X pins σ H1 s' → ExtN H H1 → (∀ b o, b ≠ P → H b = some o → H1 b = some o) → Tabs T H1 →
      s'.heap.get? f = some (PySem.W.kla_obj "<lambda>" (X.env.qual ++ "<lambda>") params body scope (cloFrom X.env.cells scope.names []) pm c' ctv) → H1 f = none → f ∉ frs X.stack → H1 c' = some (CodeO c' (X.env.qual ++ "<lambda>")) → Q (.ref f) s') :
    wpAny (model X.prog X.w) X.A (eval (.Lambda params body scope pos) X.env) Q E s := by
  obtain ⟨ps, hP, ht, ha⟩ := hT _ hm
  refine PySem.W.kla_eval hdef ?_
  have bP : s.heap.BuiltinsAt X.mg P := TB.bm.keeps I.bk
  have hP' : s.heap.get? P = some { cls := .none, data := .fields ps } := I.hok P _ hP
  have nofr : ∀ f, s.heap.objs.size ≤ f → f ∉ frs X.stack := fun f hf z => by
    rcases List.mem_cons.mp (I.stkSub _ z) with e | e
    · have h1 := I.lt
      rw [← e] at h1
      exact Nat.lt_irrefl _ (Nat.lt_of_lt_of_le h1 hf)
    · exact I.nofs hf e
  cases hc : codeAmong pos ps.toList with
  | none =>
    refine PySem.W.kla_makeFunction (mg := X.mg) (c := c) (P := P) (ps := ps) (closure_ok hfree) I.ok.glob (I.mod.glob.keeps I.bk) hcode (TB.code.keeps I.bk) hP' ht hc TB.gP bP fun c' ctv h' tk hx hge hlt hrec htb => ?_
    obtain ⟨c2, oc, vs, t, e2, hoc, hd, hv⟩ := hrec
    cases e2
    have hsz : s.heap.objs.size ≤ h'.objs.size := Nat.le_trans hge (Nat.le_of_lt hlt)
    have nC : H c' = none := I.hok.fresh hge
    have I1 := inv_table (t' := tk) (more := #[rawInt pos.line, rawInt pos.col, .ref c']) (h' := h'.push (PySem.W.kla_obj "<lambda>" (X.env.qual ++ "<lambda>") params body scope (cloFrom X.env.cells scope.names []) ((X.mg "__name__").getD .none) c' ctv)) I hP
      (fun b o hb e => Heap.get?_push_of_some _ (hx b o hb e)) (Heap.get?_push_of_some _ htb) hge ⟨oc, vs, t, Heap.get?_push_of_some _ hoc, hd, hv⟩
    have hE : ExtN H (upd (upd H P (.tbl (ps ++ #[rawInt pos.line, rawInt pos.col, .ref c']))) c' (CodeO c' (X.env.qual ++ "<lambda>"))) := fun b o e n => by
      rw [upd_ne (ne_of_none e nC), upd_ne (fun z => n ps (Option.some.inj (e.symm.trans (by rw [z]; exact hP))))]
      exact e
    have eL : (ps ++ #[rawInt pos.line, rawInt pos.col, .ref c']).toList = ps.toList ++ [rawInt pos.line, rawInt pos.col, .ref c'] := by simp
    refine h h'.objs.size c' ((X.mg "__name__").getD .none) ctv _ _ I1 hE (fun b o hb e => by rw [upd_ne (ne_of_none e nC), upd_ne hb]; exact e) (fun p hp => ?_) (Heap.get?_push_size _ rfl) ?_ (nofr _ hsz) upd_same
    · by_cases hb : p.1 = P
      · rw [hu p hp hb, hb]
        refine ⟨_, by rw [upd_ne (ne_of_none hP nC), upd_same], by rw [eL]; exact PySem.TriplesOk_snoc _ _ _ _ ht, fun p' cv hcv => ?_⟩
        rw [eL] at hcv
        rcases among_app _ ht hcv with z | z
        · obtain ⟨c0, e1, e2⟩ := ha p' cv z
          exact ⟨c0, e1, hE _ _ e2 codeO_ne⟩
        · exact ⟨c', z, upd_same⟩
      · obtain ⟨ps', a1, a2, a3⟩ := hT p hp
        refine ⟨ps', by rw [upd_ne (ne_of_none a1 nC), upd_ne hb]; exact a1, a2, fun p' cv hcv => ?_⟩
        obtain ⟨c0, e1, e2⟩ := a3 p' cv hcv
        exact ⟨c0, e1, hE _ _ e2 codeO_ne⟩
    · have n1 : h'.objs.size ≠ c' := Nat.ne_of_gt hlt
      have n2 : h'.objs.size ≠ P := Nat.ne_of_gt (Nat.lt_of_lt_of_le (Heap.lt_size hP') hsz)
      rw [upd_ne n1, upd_ne n2]
      exact I.hok.fresh hsz
  | some cv =>
    obtain ⟨c', e, hco⟩ := ha pos cv hc
    subst e
    refine PySem.W.kla_makeFunctionHit (mg := X.mg) (c := c) (P := P) (ps := ps) (closure_ok hfree) I.ok.glob (I.mod.glob.keeps I.bk) hcode (TB.code.keeps I.bk) hP' ht hc bP fun ctv h' tk hx hsz => ?_
    have I1 : Inv X pins σ H { s with heap := h'.push (PySem.W.kla_obj "<lambda>" (X.env.qual ++ "<lambda>") params body scope (cloFrom X.env.cells scope.names []) ((X.mg "__name__").getD .none) c' ctv), toks := tk } := I.kept fun b o e => Heap.get?_push_of_some _ (hx b o e)
    exact h h'.objs.size c' ((X.mg "__name__").getD .none) ctv H _ I1 (ExtN.refl H) (fun b o _ e => e) hT (Heap.get?_push_size _ rfl) (I.hok.fresh hsz) (nofr _ hsz) hco
end

mutual
/-- data without lists and dicts -/
def ndL : PyData → Bool
  | .list _ => false
  | .dict _ => false
  | .tuple xs => ndLs xs
  | .none => true
  | .bool _ => true
  | .int _ => true
  | .str _ => true
def ndLs : List PyData → Bool
  | [] => true
  | d :: ds => ndL d && ndLs ds
end
mutual
theorem reads_ndL {h : Heap} : ∀ (d : PyData) (v : Value) (as : List Addr), Reads h v d as → ndL d = true → as = []
  | .none, _, _, r, _ => by cases r; rfl
  | .bool _, _, _, r, _ => by cases r; rfl
  | .int _, _, _, r, _ => by cases r; rfl
  | .str _, _, _, r, _ => by cases r; rfl
  | .list _, _, _, _, n => by simp [ndL] at n
  | .dict _, _, _, _, n => by simp [ndL] at n
  | .tuple ds, _, _, r, n => by
    cases r with
    | tuple _ _ _ h => exact readsAll_ndL ds _ _ h (by simpa [ndL] using n)
theorem readsAll_ndL {h : Heap} : ∀ (ds : List PyData) (vs : List Value) (as : List Addr), ReadsAll h vs ds as → ndLs ds = true → as = []
  | [], _, _, r, _ => by cases r; rfl
  | d :: ds, _, _, r, n => by
    cases r with
    | cons h1 h2 =>
      simp only [ndLs, Bool.and_eq_true] at n
      rw [reads_ndL d _ _ h1 n.1, readsAll_ndL ds _ _ h2 n.2]
      rfl
end
/-- an item whose i-th part is data d -/
def KeyAt (K : PySem.W.Frag) (H : Hp) (i : Int) (b : V × PyData) : Prop := ∃ t xs z, b.1 = .ref t ∧ SqT K H t xs ∧ xs.length ≤ 1000 ∧ xs[i.toNat]? = some z ∧ Dp K H z b.2
def sortLamR (K : PySem.W.Frag) (P : Addr) (q : Str) (i : Int) (Q : VK) (v : V) (H1 : Hp) : Prop := ∃ (l : Addr) (bs : List (V × PyData)), v = .ref l ∧ SqL K H1 l (bs.map (·.1)) ∧ (∀ b ∈ bs, KeyAt K H1 i b ∧ ndL b.2 = true ∧ b.2.depth ≤ 60) ∧ AllAlike (bs.map (·.2)) ∧ Sortable (bs.map (·.2)) ∧
  Tabs [(P, q)] H1 ∧ ∀ H2, (∀ b o, b ≠ P → H1 b = some o → H2 b = some o) → Tabs [(P, q)] H2 → ∀ p, H2 p = none → Q (.ref p) (upd H2 p (.lst ((bs.mergeSort (dataLe false (·.2))).map (·.1))))
def tSortLam (K : PySem.W.Frag) (P : Addr) (q : Str) (i : Int) (te : TE) : TE := fun σ H Q => te σ H (sortLamR K P q i Q)
/-- values that go with items -/
def KRel (K : PySem.W.Frag) (H : Hp) (i : Int) (u : Value) (b : V × PyData) : Prop := RelV b.1 u ∧ KeyAt K H i b
theorem each_of {K : PySem.W.Frag} {H : Hp} {i : Int} : ∀ {bs : List (V × PyData)} {us : List Value}, Vals (bs.map (·.1)) us → (∀ b ∈ bs, KeyAt K H i b) → EachIs (KRel K H i) us bs
  | [], _, r, _ => by cases r; exact .nil
  | b :: bs, _, r, h => by
    cases r with
    | cons h1 h2 => exact .cons ⟨h1, h b List.mem_cons_self⟩ (each_of h2 fun b hb => h b (List.mem_cons_of_mem _ hb))
theorem of_each {K : PySem.W.Frag} {H : Hp} {i : Int} : ∀ {us : List Value} {bs : List (V × PyData)}, EachIs (KRel K H i) us bs → Vals (bs.map (·.1)) us
  | _, _, .nil => .nil
  | _, _, .cons h t => .cons h.1 (of_each t)
/-- what stands but for a table -/
theorem rd_tab {P : Addr} {ps : Array Value} {H H2 : Hp} (hP : H P = some (.tbl ps)) (h : ∀ b o, b ≠ P → H b = some o → H2 b = some o) {a : Addr} {u : HO} (nu : ∀ ps, u ≠ .tbl ps) (r : Rd H a u) : Rd H2 a u := by
  rcases r with r | ⟨o, r⟩
  · exact .inl (h a _ (fun e => by rw [e, hP] at r; cases r; exact nu _ rfl) r)
  · exact .inr ⟨o, h a _ (fun e => by rw [e, hP] at r; cases r) r⟩
theorem sql_tab {K : PySem.W.Frag} {P : Addr} {ps : Array Value} {H H2 : Hp} (hP : H P = some (.tbl ps)) (h : ∀ b o, b ≠ P → H b = some o → H2 b = some o) {a : Addr} {xs : List V} (r : SqL K H a xs) : SqL K H2 a xs := r.elim (fun r => .inl (rd_tab hP h (fun _ z => by cases z) r)) .inr
theorem sqt_tab {K : PySem.W.Frag} {P : Addr} {ps : Array Value} {H H2 : Hp} (hP : H P = some (.tbl ps)) (h : ∀ b o, b ≠ P → H b = some o → H2 b = some o) {a : Addr} {xs : List V} (r : SqT K H a xs) : SqT K H2 a xs := r.elim (fun r => .inl (rd_tab hP h (fun _ z => by cases z) r)) .inr
mutual
theorem dp_tab {K : PySem.W.Frag} {P : Addr} {ps : Array Value} {H H2 : Hp} (hP : H P = some (.tbl ps)) (h' : ∀ b o, b ≠ P → H b = some o → H2 b = some o) : ∀ (d : PyData) (v : V), Dp K H v d → Dp K H2 v d
  | .none, _, h => by cases h; exact .non
  | .bool b, _, h => by cases h; exact .bl b
  | .int b, _, h => by cases h; exact .int b
  | .str b, _, h => by cases h; exact .str b
  | .list ds, _, h => by
    cases h with
    | lst hs ha => exact .lst (sql_tab hP h' hs) (dpAll_tab hP h' ds _ ha)
  | .tuple ds, _, h => by
    cases h with
    | tup hs ha => exact .tup (sqt_tab hP h' hs) (dpAll_tab hP h' ds _ ha)
  | .dict _, _, h => by cases h
theorem dpAll_tab {K : PySem.W.Frag} {P : Addr} {ps : Array Value} {H H2 : Hp} (hP : H P = some (.tbl ps)) (h' : ∀ b o, b ≠ P → H b = some o → H2 b = some o) : ∀ (ds : List PyData) (vs : List V), DpAll K H vs ds → DpAll K H2 vs ds
  | [], _, h => by cases h; exact .nil
  | d :: ds, _, h => by
    cases h with
    | cons h1 h2 => exact .cons (dp_tab hP h' d _ h1) (dpAll_tab hP h' ds _ h2)
end
/-- what a lambda x: x[i] must be seen to be -/
structure LamOk (sc scope : Scope) (params : Arguments) (y : Str) : Prop where
  kind : scope.kind = .function
  co : scope.isCoroutine = false
  gen : scope.isGenerator = false
  cell : ∀ z ∈ scope.names, z.2 ≠ .cell
  loc : scope.names.lookup y = some .local
  free : ∀ z ∈ scope.names, z.2 ≠ .free
  dbg : (y == ("__debug__" : Str)) = false
theorem pe_sortLam {X : Cx} {e : Expr} {te : TE} {P cc : Addr} {params : Arguments} {y : Str} {i : Int} {jj : Nat} {scope : Scope} {p pos lpos kpos p1 p2 p3 : Pos} (hc : X.calm = true) (hg : Gl X "sorted") (hm : X.mg "sorted" = none) (he : PE X e te) (TB : TabB X.base X.mg cc P) (hcode : X.env.code = .ref cc)
    (hdef : defaultsOf params X.env = ([], [])) (L : LamOk X.env.scope scope params y) (hr : Room 2 X.A) (hi : 0 ≤ i)
    (hb : ∀ (q : Str) (cl : List (Str × Addr)) (pm cv ctv v : Value), bindArgs (PySem.W.kla_fn "<lambda>" q params (.Subscript (.Name y p1) (.Constant (.int i) jj p2) p3) scope cl pm cv ctv) ⟨[v], []⟩ = pure [(y, v)])
    (na : starEach [e] X.env = (false, eval e X.env) :: starEach [] X.env := by rfl) (hs : backTo pos (starEach [e] X.env) = (false, eval e X.env) :: backTo pos (starEach [] X.env) := by rfl) (hpl : (backTo pos (starEach [e] X.env)).any (·.1) = false := by rfl)
    (hall : (backToKw pos (keywordEach [⟨some "key", .Lambda params (.Subscript (.Name y p1) (.Constant (.int i) jj p2) p3) scope lpos, kpos⟩] X.env)).all (·.1.isSome) = true := by rfl) (hnone : (backToKw pos (keywordEach [⟨some "key", .Lambda params (.Subscript (.Name y p1) (.Constant (.int i) jj p2) p3) scope lpos, kpos⟩] X.env)).any (·.1.isNone) = false := by rfl) (hks : (backToKw pos (keywordEach [⟨some "key", .Lambda params (.Subscript (.Name y p1) (.Constant (.int i) jj p2) p3) scope lpos, kpos⟩] X.env)).filterMap (·.1) = [Str.ofString "key"] := by rfl) :
    PE X (.Call (.Name "sorted" p) [e] [⟨some "key", .Lambda params (.Subscript (.Name y p1) (.Constant (.int i) jj p2) p3) scope lpos, kpos⟩] pos) (tSortLam X.K P (X.env.qual ++ "<lambda>") i te) := by
  refine ⟨fun pins s σ H Q I h => ?_⟩
  refine wpAny_Call_Name_kw (ld_blt I hg hm (by decide +kernel : bootBuiltins "sorted" = some (.builtin "sorted")) ?_ (by decide) (by decide))
  refine PyProof.Rows.callWith_kw (thn ((pa_cons he pa_nil na).run pos pins s σ H (fun vs H1 => match vs with | [v] => sortLamR X.K P (X.env.qual ++ "<lambda>") i Q v H1 | _ => False) I h) fun us s1 ⟨vs, H1, I1, r1, q1⟩ => ?_) hs hpl hall hnone
  match vs, r1, q1 with
  | [v], .cons rv .nil, q1 =>
    obtain ⟨l, bs, ev, hl, hbs, hal, hso, hT, q⟩ := q1
    subst ev
    cases rv
    rw [hks]
    show wpAny _ _ (evalAll ((do let v ← eval (.Lambda params (.Subscript (.Name y p1) (.Constant (.int i) jj p2) p3) scope lpos) X.env; standAt pos; pure v) :: (backToKw pos (keywordEach [] X.env)).map (·.2))) _ _ s1
    refine wpAny_evalAll_cons (wpAny_bind (lam_make3 (T := [(P, X.env.qual ++ "<lambda>")]) I1 TB hcode (by simp) (fun p hp _ => by simp at hp; rw [hp]) hT hdef (fun z hz e => absurd e (L.free z hz)) fun f c' pm ctv H2 s2 I2 hE hE2 hT2 hf hfn hff hco => wpAny_bind (wpAny_standAt (wpAny_pure ?_))))
    refine wpAny_evalAll_nil ?_
    show wpAny _ _ (call (.builtin "sorted") [.ref l] [(Str.ofString "key", .ref f)]) _ _ _
    obtain ⟨ps, hP, _, _⟩ := hT _ (List.mem_singleton.mpr rfl)
    have hP : H1 P = some (.tbl ps) := hP
    obtain ⟨its, rv, pl, hz⟩ := I2.list (sql_tab hP hE2 hl)
    have hka : ∀ b ∈ bs, KeyAt X.K H2 i b := fun b hb => by
      obtain ⟨⟨t, xs, z, e1, e2, e3, e4, e5⟩, _, _⟩ := hbs b hb
      exact ⟨t, xs, z, e1, sqt_tab hP hE2 e2, e3, e4, dp_tab hP hE2 _ _ e5⟩
    have hlen : bs.length = its.length := by
      have := rv.length
      rwa [List.length_map] at this
    refine sorted_key_data (β := V × PyData) (R := KRel X.K H2 i) (b := false) (vs := its) (bs := bs) (k := fun b => b.2) pl.isList (each_of rv hka) hal hso (by simpa using hz) (fun x hx => by have := (hbs x hx).2.2; have := hr.units; omega) (ksk_s1 _ _) (fun _ => ksk_l1 _ _) (fun _ => ksk_t1 _ _) (fun v x ⟨rvx, t, xs, z, e1, e2, e3, e4, e5⟩ hx h tk kp => ?_) (fun out c h' tk kp fresh hD hlo each => ?_)
    · obtain ⟨b1, b2⟩ := x
      have e1 : b1 = .ref t := e1
      subst e1
      obtain rfl : v = Value.ref t := rvx
      obtain ⟨its2, rv2, pt, _⟩ := I2.tuple e2
      obtain ⟨w', hw', rw'⟩ := rv2.get e4
      obtain ⟨⟨oc, cvs, ct, hoc, hdc, hvc⟩, _, _⟩ := I2.hok c' _ hco
      obtain ⟨as, rd⟩ := Dp.reads I2 _ _ _ e5 rw'
      have has := reads_ndL _ _ _ rd (hbs _ hx).2.1
      subst has
      refine lam_ix (t := t) (its := its2) (z := w') (kp f _ hf) ⟨c', oc, cvs, ct, rfl, kp _ _ hoc, hdc, hvc⟩ hr.depth (I2.mod.nolimit.keeps fun b o e => kp b o (I2.bk b o e)) (hb _ _ _ _ _ _) L.kind L.co L.gen L.cell L.loc L.dbg rfl (pt.keeps kp) (by rw [← rv2.length]; exact e3) hw' hi fun h'' tk'' kp2 => ?_
      exact ⟨h'', tk'', rfl, kp2, Reads.keeps (fun b o e => kp2 b o (kp b o e)) rd⟩
    · have hn : H2 (s2.heap.objs.size + 1) = none := I2.hok.fresh (Nat.le_succ _)
      have vs2 := of_each each
      refine ⟨.ref (s2.heap.objs.size + 1), _, I2.laid (o := .lst ((bs.mergeSort (dataLe false (·.2))).map (·.1))) (t' := tk) kp (Nat.le_succ _) ⟨?_, out, c, vs2, hD⟩, rfl, q H2 hE2 hT2 _ hn⟩
      rw [vs2.length, hlo]
      simpa using hz
end Nz

/-! Nz16: effects one within another; defs with an effect; sorted by a lambda; == of dicts that are equal. -/
namespace Nz
open PySem L2 PySem.Spec PyProof.Rows LamX PySem.W
variable {K : PySem.W.Frag} {E E' : Eff} {sls : List (Sl K)}
structure EffIn (E E' : Eff) : Prop where
  m : ∀ a, E.M a → E'.M a
  i : ∀ {H : Hp}, E'.I H → E.I H
  out : ∀ {H H2 : Hp}, E'.I H → XX E H H2 → E'.I H2
theorem EffIn.refl (E : Eff) : EffIn E E := ⟨fun _ h => h, fun h => h, fun _ x => x.2⟩
theorem EffIn.xx (S : EffIn E E') {H H2 : Hp} (i : E'.I H) (x : XX E H H2) : XX E' H H2 := ⟨by
  have := x.1.hid E'.M
  rwa [hid_hid H S.m, hid_hid H2 S.m] at this, S.out i x⟩
/-- a def with an effect -/
def spX {α β : Type} (E : Eff) (f : RF K α) (r : R K β) (m : α → PT β) : Sp := fun vs H Q _ => ∃ (O : Addr → Prop) (a : α) (k : β → Prop), (∀ x, O x → ∃ u, H x = some u ∧ NT u) ∧ (∀ x, E.M x → O x) ∧ E.I H ∧ f.rp (hid H O) vs a ∧ m a k ∧
  ∀ b v H2, k b → XX E H H2 → r.rp (hid H2 O) v b → Q v H2
def spTX {α β : Type} (EE : Addr → Addr → Eff) (f : RF K α) (r : R K β) (m : α → PT β) : Sp := fun vs H Q X0 => ∃ (pt c : Addr) (ws : List V), vs = .ref pt :: ws ∧ spX (EE pt c) f r m ws H Q X0
section
variable {α β : Type}
theorem spX_len {f : RF K α} {r : R K β} {m : α → PT β} {vs : List V} {H : Hp} {Q : VK} {X0 : XK} (h : spX E f r m vs H Q X0) : vs.length = f.n := let ⟨_, _, _, _, _, _, ha, _⟩ := h; f.len ha
theorem spTX_len {EE : Addr → Addr → Eff} {f : RF K α} {r : R K β} {m : α → PT β} {vs : List V} {H : Hp} {Q : VK} {X0 : XK} (h : spTX EE f r m vs H Q X0) : vs.length = f.n + 1 := by
  obtain ⟨_, _, ws, e, h⟩ := h
  rw [e, List.length_cons, spX_len h]
theorem ev_callX {f : RF K α} {s : R K β} {m : α → PT β} {t : TA} {X0 : XK} {ca : PT α} (S' : EffIn E E') (h : EA E' sls t f ca) : EV E' sls (tCall (spX E f s m) [] X0 t) s (fun k => ca fun a => m a k) := fun O σ H S k hk Q q =>
  h _ σ H S _ hk _ fun a vs H2 ka x hv => ⟨O, a, k, (S.ext x).od, fun y hy => S.mo y (S'.m y hy), S'.i x.2, by rw [List.append_nil]; exact hv, ka, fun b v H3 kb x3 hr => q b v H3 kb (x.trans (S'.xx x.2 x3)) hr⟩
theorem ev_callTX {EE : Addr → Addr → Eff} {pt c : Addr} {f : RF K α} {s : R K β} {m : α → PT β} {t : TA} {X0 : XK} {ca : PT α} {i : Nat} (S' : EffIn (EE pt c) E') (h0 : sls[i]? = some (slAt pt)) (h : EA E' sls t f ca) : EV E' sls (tCall (spTX EE f s m) [] X0 (tCons (tVar i) t)) s (fun k => ca fun a => m a k) := fun O σ H S k hk Q q => by
  obtain ⟨o, e, eo⟩ := S.at h0
  rw [show o = some (V.ref pt) from eo] at e
  exact ⟨_, e, h _ σ H S _ hk _ fun a vs H2 ka x hv => ⟨pt, c, vs, by rw [List.append_nil], O, a, k, (S.ext x).od, fun y hy => S.mo y (S'.m y hy), S'.i x.2, hv, ka, fun b v H3 kb x3 hr => q b v H3 kb (x.trans (S'.xx x.2 x3)) hr⟩⟩
/-- a def as a whole, with an effect -/
theorem fnX {f : RF K α} {r : R K β} {m : α → PT β} {g : α → List (Sl K)} (p : Prm f g) {N : List Str} {n : Nat} (hn : N.length - f.n = n) {t : TS} {mb : α → PT (Ctl β Empty Unit)} (hb : ∀ a, BJ E (g a ++ List.replicate n slAny) [] t (mb a) r (fun _ => (g a ++ List.replicate n slAny).map fun _ => slAny) [] noL [])
    (hm : ∀ a k, m a k → mb a (outF k)) {vs : List V} {H : Hp} {Q : VK} {X0 : XK} (h : spX E f r m vs H Q X0) : t { nx := fun _ H' => Q .non H', rt := Q } (L2.start N vs) H := by
  obtain ⟨O, a, k, hO, mo, hI, ha, hk, q⟩ := h
  exact hb a O H (hid H O) _ H (fn_start p hO mo hI ha hn) _ (hm a k hk) _ (fun _ _ _ z => z.elim) (fun b v H' kb e1 e2 e3 => q b v H' kb ⟨e1, e2⟩ e3) (fun l => nomatch l) (fun l => nomatch l)
theorem fnTX {EE : Addr → Addr → Eff} {f : RF K α} {r : R K β} {m : α → PT β} {g : α → List (Sl K)} (p : Prm f g) {N : List Str} {n : Nat} (hn : N.length - (f.n + 1) = n) {t : TS} {mb : α → PT (Ctl β Empty Unit)} (hb : ∀ pt c a, BJ (EE pt c) (slAt pt :: (g a ++ List.replicate n slAny)) [] t (mb a) r (fun _ => slAny :: (g a ++ List.replicate n slAny).map fun _ => slAny) [] noL [])
    (hm : ∀ a k, m a k → mb a (outF k)) {vs : List V} {H : Hp} {Q : VK} {X0 : XK} (h : spTX EE f r m vs H Q X0) : t { nx := fun _ H' => Q .non H', rt := Q } (L2.start N vs) H := by
  obtain ⟨pt, c, ws, e, O, a, k, hO, mo, hI, ha, hk, q⟩ := h
  subst e
  refine hb pt c a O H (hid H O) _ H ?_ _ (hm a k hk) _ (fun _ _ _ z => z.elim) (fun b v H' kb e1 e2 e3 => q b v H' kb ⟨e1, e2⟩ e3) (fun l => nomatch l) (fun l => nomatch l)
  refine ⟨?_, Ex.refl _, by rw [own_nil]; exact Ef.refl _, fun i h => (by simp at h), fun i h => (by simp at h), mo, fun j sl h hp => ?_⟩
  · rw [own_nil]
    refine ⟨?_, hO, mo, hI⟩
    unfold L2.start
    rw [List.length_cons, f.len ha, hn]
    exact .cons rfl (pair_app (p.sl ha) (paired_rep n))
  · cases j with
    | zero => simp at h; subst h; cases hp
    | succ j =>
      rw [rep_hp _ n (p.hp a) j sl (by simpa using h)] at hp
      cases hp
end
/-! ### a table of code objects -/
theorem tabs_one {P : Addr} {q : Str} {H : Hp} (h : Tabs [(P, q)] H) : ∃ ps : Array Value, H P = some (.tbl ps) := let ⟨ps, h, _⟩ := h _ (List.mem_singleton.mpr rfl); ⟨ps, h⟩
theorem tabs_mono {P : Addr} {q : Str} {H H2 : Hp} (h1 : H2 P = H P) (h2 : ∀ a φ, H a = some (.ext φ) → H2 a = some (.ext φ)) (h : Tabs [(P, q)] H) : Tabs [(P, q)] H2 := fun p hp => by
  obtain ⟨ps, a, b, c⟩ := h p hp
  have e : p = (P, q) := List.mem_singleton.mp hp
  subst e
  exact ⟨ps, h1.trans a, b, fun pos cv hc => let ⟨c0, e1, e2⟩ := c pos cv hc; ⟨c0, e1, h2 _ _ e2⟩⟩
def effL (P : Addr) (q : Str) : Eff := ⟨fun a => a = P, Tabs [(P, q)], fun h1 h2 h => tabs_mono (h1 P rfl) h2 h, fun h a e => by
  obtain ⟨ps, hp⟩ := tabs_one h
  subst e
  exact ⟨_, hp, fun _ z => nomatch z⟩⟩
/-- a tape and a table -/
def effQ (P : Addr) (q : Str) (pt c : Addr) : Eff := ⟨fun a => (a = pt ∨ a = c) ∨ a = P, fun H => TapeI pt c H ∧ Tabs [(P, q)] H, fun h1 h2 h => ⟨(effT pt c).mono (fun a ha => h1 a (.inl ha)) h2 h.1, tabs_mono (h1 P (.inr rfl)) h2 h.2⟩, fun h a e => e.elim (fun e => (effT pt c).there h.1 a e) fun e => (effL P q).there h.2 a e⟩
theorem tape_ne {P pt c : Addr} {q : Str} {H : Hp} (h : TapeI pt c H) (h2 : Tabs [(P, q)] H) : P ≠ pt ∧ P ≠ c := by
  obtain ⟨_, _, _, _, _, a, b, _⟩ := h
  obtain ⟨ps, hp⟩ := tabs_one h2
  constructor
  · intro e
    rw [e, a] at hp
    cases hp
  · intro e
    rw [e, b] at hp
    cases hp
theorem in_tape (P : Addr) (q : Str) (pt c : Addr) : EffIn (effT pt c) (effQ P q pt c) := ⟨fun a h => .inl h, fun h => h.1, fun {H H2} h x => ⟨x.2, by
  obtain ⟨n1, n2⟩ := tape_ne h.1 h.2
  obtain ⟨cells, _, _, _, _, a, b, _⟩ := h.1
  have nM : ¬ (effT pt c).M P := fun z => z.elim n1 n2
  obtain ⟨ps, hp⟩ := tabs_one h.2
  refine tabs_mono ?_ (fun d φ e => ?_) h.2
  · rw [hp, x.keep hp nM]
  · exact x.keep e fun z => by
      rcases z with z | z
      · rw [z, a] at e; cases e
      · rw [z, b] at e; cases e⟩⟩
theorem in_table (P : Addr) (q : Str) (pt c : Addr) : EffIn (effL P q) (effQ P q pt c) := ⟨fun a h => .inr h, fun h => h.2, fun {H H2} h x => ⟨by
  obtain ⟨n1, n2⟩ := tape_ne h.1 h.2
  obtain ⟨cells, at_, left, seed, salt, a, b, r⟩ := h.1
  exact ⟨cells, at_, left, seed, salt, x.keep a (fun z => n1 z.symm), x.keep b (fun z => n2 z.symm), r⟩, x.2⟩⟩
/-- an effect that knows the table -/
structure Knows (P : Addr) (q : Str) (E : Eff) : Prop where
  tab : ∀ {H : Hp}, E.I H → Tabs [(P, q)] H
  xx : ∀ {H H2 : Hp}, E.I H → (∀ b o, b ≠ P → H b = some o → H2 b = some o) → Tabs [(P, q)] H2 → XX E H H2
theorem knows_L (P : Addr) (q : Str) : Knows P q (effL P q) := ⟨fun h => h, fun {H H2} h k t => ⟨fun a o e => by
  obtain ⟨na, e⟩ := of_hid e
  rw [hid_out na]
  exact k a o na e, t⟩⟩
section
variable {α β : Type} {te ta tb : TE}
theorem zip_paired {F : V → α → Prop} : ∀ {vs : List V} {xs : List α}, Paired F vs xs → (∀ z ∈ vs.zip xs, F z.1 z.2) ∧ (vs.zip xs).map (·.1) = vs ∧ (vs.zip xs).map (·.2) = xs
  | _, _, .nil => ⟨fun z h => by simp at h, rfl, rfl⟩
  | _, _, .cons h t => by
    obtain ⟨a, b, c⟩ := zip_paired t
    refine ⟨fun z hz => ?_, by simp [b], by simp [c]⟩
    rw [List.zip_cons_cons] at hz
    rcases List.mem_cons.mp hz with e | hz
    · rw [e]; exact h
    · exact a z hz
theorem paired_zip {F : V → α → Prop} : ∀ (zs : List (V × α)), (∀ z ∈ zs, F z.1 z.2) → Paired F (zs.map (·.1)) (zs.map (·.2))
  | [], _ => .nil
  | z :: zs, h => .cons (h z List.mem_cons_self) (paired_zip zs fun y hy => h y (List.mem_cons_of_mem _ hy))
def keyLe (enc : β → PyData) (a b : α × β) : Bool := dataLe false enc a.2 b.2
theorem el_sortLam {P : Addr} {q : Str} (Kn : Knows P q E) {r1 : R K α} {r2 : R K β} (D : Da r2) {c : PT (List (α × β))} (h : ERl E sls te (rPr (fc r1 (f1 r2))) c) :
    EL E sls (tSortLam K P q 1 te) (rPr (fc r1 (f1 r2))) (fun k => c fun xs => (AllAlike (xs.map fun x => D.enc x.2) ∧ Sortable (xs.map fun x => D.enc x.2) ∧ ∀ x ∈ xs, ndL (D.enc x.2) = true ∧ (D.enc x.2).depth ≤ 60) ∧ k (xs.mergeSort (keyLe D.enc))) := fun O σ H S k hk Q qq =>
  h _ σ H S _ hk _ fun xs p vs H1 ka x hs hp hl => by
    obtain ⟨⟨ha, hso, hd⟩, kx⟩ := ka
    obtain ⟨z1, z2, z3⟩ := zip_paired hp
    have S1 := S.ext x
    refine ⟨p, (vs.zip xs).map fun z => (z.1, D.enc z.2.2), rfl, ?_, fun b hb => ?_, ?_, ?_, Kn.tab x.2, fun H2 k2 t2 l nl => ?_⟩
    · rw [List.map_map]
      show SqL K H1 p ((vs.zip xs).map (·.1))
      rw [z2]
      exact lun hs
    · obtain ⟨z, hz, e⟩ := List.mem_map.mp hb
      subst e
      obtain ⟨t, ws, ez, ht, v1, ws', ews, h1, v2, ews', h2⟩ := z1 z hz
      subst ews ews'
      have hx : z.2 ∈ xs := (List.of_mem_zip hz).2
      exact ⟨⟨t, [v1, v2], v2, ez, ht.of_hid.sq, by simp, rfl, dp_unhid _ _ (D.dp h2)⟩, (hd _ hx).1, (hd _ hx).2⟩
    · rw [List.map_map]
      have : ((vs.zip xs).map ((fun b : V × PyData => b.2) ∘ fun z => (z.1, D.enc z.2.2))) = xs.map fun x => D.enc x.2 := by
        rw [← z3, List.map_map, z3]; rfl
      rw [this]; exact ha
    · rw [List.map_map]
      have : ((vs.zip xs).map ((fun b : V × PyData => b.2) ∘ fun z => (z.1, D.enc z.2.2))) = xs.map fun x => D.enc x.2 := by
        rw [← z3, List.map_map, z3]; rfl
      rw [this]; exact hso
    · have x12 : XX E H1 H2 := Kn.xx x.2 k2 t2
      have S2 := S1.ext x12
      have e1 : (((vs.zip xs).map fun z => (z.1, D.enc z.2.2)).mergeSort (dataLe false (·.2))).map (·.1) = ((vs.zip xs).mergeSort (fun a b => keyLe D.enc a.2 b.2)).map (·.1) := by
        rw [← List.map_mergeSort (f := fun z : V × (α × β) => (z.1, D.enc z.2.2)) (r := fun a b => keyLe D.enc a.2 b.2) (fun a _ b _ => rfl), List.map_map]
        rfl
      have e2 : xs.mergeSort (keyLe D.enc) = ((vs.zip xs).mergeSort (fun a b => keyLe D.enc a.2 b.2)).map (·.2) := by
        rw [List.map_mergeSort (f := fun z : V × (α × β) => z.2) (r := fun a b => keyLe D.enc a.2 b.2) (s := keyLe D.enc) (fun a _ b _ => rfl), z3]
      rw [e1]
      rw [e2] at kx
      have n := S2.new (u := .lst (((vs.zip xs).mergeSort (fun a b => keyLe D.enc a.2 b.2)).map (·.1))) nl
      refine qq _ l _ _ kx ((x.trans x12).trans n.1) ((x.trans x12).back nl) upd_same ?_ ?_
      · rw [hid_new nl]
        exact paired_zip _ fun z hz => S1.rep x12 (z1 z ((List.mergeSort_perm _ _).mem_iff.mp hz))
      · rw [List.length_map, List.length_mergeSort, List.length_zip]
        exact Nat.le_trans (Nat.min_le_left _ _) hl
end
/-! ### dicts that are equal -/
def DatEq (K : PySem.W.Frag) (H : Hp) (x y : V) : Prop := ∃ d e, Dp K H x d ∧ Dp K H y e ∧ d.canLay0 = true ∧ e.canLay0 = true ∧ d.depth ≤ 60 ∧ PyData.eqv d e = true
def rEqDD (K : PySem.W.Frag) (ans : Bool) : R2 := fun x y H Q => ∃ (a b : Addr) (ks ls : List (Key × V)), x = .ref a ∧ y = .ref b ∧ Rd H a (.dK ks) ∧ Rd H b (.dK ls) ∧ ks.length = ls.length ∧ (∀ p ∈ ks, ∃ u, valV ls p.1 = some u ∧ DatEq K H p.2 u) ∧ Q (.bl ans) H
theorem dd_hits {X : Cx} {pins : List (Addr × Obj)} {σ : L2.St} {H : Hp} {s : Shared} (I : L2.Inv X pins σ H s) {A : Around} (hu : A.units + 62 < cLine) {ls : List (Key × V)} {vb : List (Key × Value)} (rb : KV ls vb) {ks : List (Key × V)} {va : List (Key × Value)} (ra : KV ks va) :
    (∀ p ∈ ks, ∃ u, valV ls p.1 = some u ∧ DatEq X.K H p.2 u) → PySem.W.KeqHits A s vb va true := by
  unfold KV at ra
  induction ra with
  | nil => intro _; exact .nil
  | @cons p q ps qs h t ih =>
    intro hp
    obtain ⟨h1, h2⟩ := h
    obtain ⟨u, e1, d, e, hd, he, ld, le, hdep, eq⟩ := hp p List.mem_cons_self
    have rr : RelO (some u) (valueAt vb p.1) := by rw [← e1]; exact rb.val p.1
    obtain ⟨y, hy, ry⟩ := rr.some_of
    obtain ⟨k, v⟩ := q
    have h1' : p.1 = k := h1
    rw [h1'] at hy
    obtain ⟨as, r1⟩ := Dp.reads I d _ _ hd h2
    obtain ⟨bs, r2⟩ := Dp.reads I e _ _ he ry
    have := SeqAt.eqAt_reads d e A s v y as bs r1 r2 ld le (by have := Nat.min_le_left d.depth e.depth; omega)
    rw [eq] at this
    show PySem.W.KeqHits A s vb ((k, v) :: qs) (true && true)
    exact .hit hy this (ih fun p' hm => hp p' (List.mem_cons_of_mem _ hm))
theorem op_eqDD {X : Cx} (hu : X.A.units + 64 < cLine) (K : PySem.W.Frag) (hK : X.K = K := by rfl) : OpR X (compareOp .Eq) (rEqDD K true) := by
  subst hK
  intro pins s σ H x y v u Q I rx ry h
  obtain ⟨a, b, ks, ls, rfl, rfl, ea, eb, hlen, hp, q⟩ := h
  obtain rfl : v = Value.ref a := rx
  obtain rfl : u = Value.ref b := ry
  obtain ⟨_, ya, va, ra, da⟩ := ea.ok I.hok
  obtain ⟨_, yb, vb, rb, db⟩ := eb.ok I.hok
  have hl : va.length = vb.length := by rw [← ra.length, ← rb.length]; exact hlen
  exact PySem.W.keq_eq (knd := mixKind X.prog X.w) (r := true) ya yb da db (by omega) (fun _ => dd_hits I (by show X.A.units + 1 + 62 < cLine; omega) rb ra hp) (fin_bl I q (by simp [hl]))
theorem op_neDD {X : Cx} (hu : X.A.units + 64 < cLine) (K : PySem.W.Frag) (hK : X.K = K := by rfl) : OpR X (compareOp .NotEq) (rEqDD K false) := by
  subst hK
  intro pins s σ H x y v u Q I rx ry h
  obtain ⟨a, b, ks, ls, rfl, rfl, ea, eb, hlen, hp, q⟩ := h
  obtain rfl : v = Value.ref a := rx
  obtain rfl : u = Value.ref b := ry
  obtain ⟨_, ya, va, ra, da⟩ := ea.ok I.hok
  obtain ⟨_, yb, vb, rb, db⟩ := eb.ok I.hok
  have hl : va.length = vb.length := by rw [← ra.length, ← rb.length]; exact hlen
  exact PySem.W.keq_ne (knd := mixKind X.prog X.w) (r := true) ya yb da db (by omega) (fun _ => dd_hits I (by show X.A.units + 1 + 62 < cLine; omega) rb ra hp) (fin_bl I q (by simp [hl]))
/-- the same pairs, in whatever order -/
def dEq {κ α : Type} [DecidableEq κ] (a b : List (κ × α)) : Prop := a.length = b.length ∧ ∀ p ∈ a, dget b p.1 = some p.2
section
variable {α κ : Type} {ta tb : TE} {r : R K α}
theorem paired_mem {A B : Type} {F : A → B → Prop} : ∀ {l₁ : List A} {l₂ : List B}, Paired F l₁ l₂ → ∀ a ∈ l₁, ∃ b ∈ l₂, F a b
  | _, _, .nil, a, h => by simp at h
  | _, _, .cons h t, a, ha => by
    rcases List.mem_cons.mp ha with e | ha
    · exact ⟨_, List.mem_cons_self, by rw [e]; exact h⟩
    · obtain ⟨b, hb, hf⟩ := paired_mem t a ha
      exact ⟨b, List.mem_cons_of_mem _ hb, hf⟩
theorem ev_DD [DecidableEq κ] {e : Ky κ} (D : Da r) {ans : Bool} {c d : PT (List (κ × α))} (h1 : ERd E sls ta e r c) (h2 : ERd E sls tb e r d) (hd : D.dep ≤ 60 := by exact of_decide_eq_true rfl) : EV E sls (tOp (rEqDD K ans) ta tb) rBl (fun k => c fun a => d fun b => dEq a b ∧ k ans) := fun O σ H S k hk Q q =>
  h1 _ σ H S _ hk _ fun a p vs H1 ka x1 hs1 hp1 hl1 => h2 _ σ H1 (S.ext x1) _ ka _ fun b p2 ws H2 kb x2 hs2 hp2 hl2 => by
    obtain ⟨⟨hlen, hall⟩, kb⟩ := kb
    have hp1' : Paired (DkRel e.enc r (hid H2 O)) vs a := pmap hp1 fun _ _ z => ⟨z.1, (S.ext x1).rep x2 z.2⟩
    refine ⟨p, p2, vs, ws, rfl, rfl, (rd_hid.mp (rdK x2.1.ew hs1)).2, (rd_hid.mp hs2).2, by rw [hp1.length, hp2.length]; exact hlen, fun kv hkv => ?_, q ans _ H2 kb (x1.trans x2) rfl⟩
    obtain ⟨ab, hab, e1, e2⟩ := paired_mem hp1' kv hkv
    have g := paired_dgetK (a := ab.1) hp2
    rw [hall ab hab] at g
    obtain ⟨u, hu, hr⟩ := g
    exact ⟨u, by rw [e1]; exact hu, D.enc ab.2, D.enc ab.2, dp_unhid _ _ (D.dp e2), dp_unhid _ _ (D.dp hr), D.lay _, D.lay _, Nat.le_trans (D.dle _) hd, (D.inj _ _).mpr rfl⟩
end
end Nz

/-! Nz17: a def with a lambda; an item taken out of a list and put behind another. -/
namespace Nz
open PySem L2 PySem.Spec PyProof.Rows LamX
/-- a def of the module whose code object is known -/
structure LDef (K : PySem.W.Frag) (mg : Str → Option Value) (x : Str) (st : Stmt) (ps : List Str) (cc : Addr) : Prop where
  ex : ∃ (f : Addr) (oc : Value) (od an : Option Addr) (kV doc pm ct : Value) (osl : Array (Option Value)), K.lookup f = some ⟨oc, od, .func (PySem.W.fnOf x x (defArgs st) (defBody st) (defScope st) .none kV doc pm an (.ref cc) ct), osl⟩ ∧ PySem.W.codeIn K (.ref cc) x = true ∧ mg x = some (.ref f) ∧ PySem.W.keepIn K (.ref f) = true ∧ Binds K (PySem.W.fnOf x x (defArgs st) (defBody st) (defScope st) .none kV doc pm an (.ref cc) ct) ps []
theorem LDef.cal {P : Program} {w : World} {K : PySem.W.Frag} {mg : Str → Option Value} {base : Heap} {x : Str} {st : Stmt} {N ps : List Str} {cc : Addr} {k : Nat} {sp : Sp} (D : LDef K mg x st ps cc) (S : FnScope N ps (defScope st)) (len : ∀ vs H Q E, sp vs H Q E → vs.length = ps.length)
    (hbody : ∀ (f : Addr) (A : Around) (outer : List Env) (s : Shared) (H : Hp) (vs : List V) (Q : VK) (E : XK), Room k (A.deeper (envOfC x (defScope st) s.heap.objs.size f (.ref cc))) → sp vs H Q E →
      ∃ t, PSs (cxOf CX0 P w K mg base N x (defScope st) f (.ref cc) A outer s H E).nox (defBody st) t ∧ t { nx := fun _ H' => Q .non H', rt := Q } (start N vs) H) : Cal P w K mg base (k + 1) x sp [] := by
  obtain ⟨f, oc, od, an, kV, doc, pm, ct, osl, lk, hcd, hm, kp, hb⟩ := D.ex
  refine ⟨f, _, ps, fn_of lk hcd S len fun A outer s H vs Q E hr hsp => ?_, hm, kp, hb, rfl⟩
  obtain ⟨t, h, q⟩ := hbody f A outer s H vs Q E hr hsp
  exact ⟨t, h.nox, q⟩
theorem pe_sortLamK {X : Cx} {e : Expr} {te : TE} {P cc : Addr} {params : Arguments} {y : Str} {i : Int} {jj : Nat} {scope : Scope} {p pos lpos kpos p1 p2 p3 : Pos} (K : PySem.W.Frag) (q : Str) (hc : X.calm = true) (hg : Gl X "sorted") (hm : X.mg "sorted" = none) (he : PE X e te) (TB : TabB X.base X.mg cc P) (hcode : X.env.code = .ref cc)
    (hdef : defaultsOf params X.env = ([], [])) (L : LamOk X.env.scope scope params y) (hr : Room 2 X.A) (hi : 0 ≤ i)
    (hb : ∀ (q : Str) (cl : List (Str × Addr)) (pm cv ctv v : Value), bindArgs (PySem.W.kla_fn "<lambda>" q params (.Subscript (.Name y p1) (.Constant (.int i) jj p2) p3) scope cl pm cv ctv) ⟨[v], []⟩ = pure [(y, v)])
    (hq : X.env.qual ++ "<lambda>" = q) (hK : X.K = K := by rfl)
    (na : starEach [e] X.env = (false, eval e X.env) :: starEach [] X.env := by rfl) (hs : backTo pos (starEach [e] X.env) = (false, eval e X.env) :: backTo pos (starEach [] X.env) := by rfl) (hpl : (backTo pos (starEach [e] X.env)).any (·.1) = false := by rfl)
    (hall : (backToKw pos (keywordEach [⟨some "key", .Lambda params (.Subscript (.Name y p1) (.Constant (.int i) jj p2) p3) scope lpos, kpos⟩] X.env)).all (·.1.isSome) = true := by rfl) (hnone : (backToKw pos (keywordEach [⟨some "key", .Lambda params (.Subscript (.Name y p1) (.Constant (.int i) jj p2) p3) scope lpos, kpos⟩] X.env)).any (·.1.isNone) = false := by rfl) (hks : (backToKw pos (keywordEach [⟨some "key", .Lambda params (.Subscript (.Name y p1) (.Constant (.int i) jj p2) p3) scope lpos, kpos⟩] X.env)).filterMap (·.1) = [Str.ofString "key"] := by rfl) :
    PE X (.Call (.Name "sorted" p) [e] [⟨some "key", .Lambda params (.Subscript (.Name y p1) (.Constant (.int i) jj p2) p3) scope lpos, kpos⟩] pos) (tSortLam K P q i te) := hK ▸ hq ▸ pe_sortLam hc hg hm he TB hcode hdef L hr hi hb na hs hpl hall hnone hks
section
variable {K : PySem.W.Frag} {E : Eff} {α β L N : Type} {te : TE} {rx : R K α} {sls : List (Sl K)} {own : List Nat} {r : R K β} {fN : N → List (Sl K)} {oN : List Nat} {fL : L → List (Sl K)} {oL : List Nat} {u : TS}
theorem paired_erase {F : V → α → Prop} : ∀ {vs : List V} {xs : List α} (i : Nat), Paired F vs xs → Paired F (vs.eraseIdx i) (xs.eraseIdx i)
  | _, _, _, .nil => .nil
  | _, _, 0, .cons _ t => t
  | _, _, i + 1, .cons h t => .cons h (paired_erase i t)
/-- names.append(left.pop(e)) -/
theorem bj_appPop {i j : Nat} {xs ys : List α} {c : PT Int} {m : List α → List α → PT (Ctl β L N)} (hi : i ∈ own) (hj : j ∈ own) (hij : i ≠ j) (h0 : sls[i]? = some (slL rx xs)) (h1 : sls[j]? = some (slL rx ys)) (h : EV E sls te rInt c) (n : ∀ xs ys, BJ E ((sls.set j (slL rx ys)).set i (slL rx xs)) own u (m xs ys) r fN oN fL oL) :
    BJ E sls own (tSeq (tDrop (tBM K "list" rAppend (tVar i) (tCons (tBM K "list" rPopAt (tVar j) (tCons te tNil)) tNil))) u) (fun k => c fun e => (0 ≤ e ∧ e ≤ 100000 ∧ xs.length < big) ∧ ∃ a, ys[e.toNat]? = some a ∧ m (xs ++ [a]) (ys.eraseIdx e.toNat) k) r fN oN fL oL := fun O0 H0 G σ H I k hk D q1 q2 q3 q4 => by
  obtain ⟨p, vs, e1, nM, hp, hv, hl⟩ := I.atL hi h0
  obtain ⟨p2, ws, e2, nM2, hp2, hw, hl2⟩ := I.atL hj h1
  have ne : p ≠ p2 := fun z => hij (I.ap i hi j hj (by rw [e1, e2, z]))
  refine ⟨_, e1, .inl ⟨rfl, vs, .inl (.inl hp)⟩, _, e2, .inl ⟨rfl, ws, .inl (.inl hp2)⟩, h _ σ H I.sl _ hk _ fun e v H2 ka x hv2 => ?_⟩
  obtain ⟨⟨b0, b1, b2⟩, a, ea, kb⟩ := ka
  have I2 := I.ext x
  have hpx := x.keep hp nM
  have hp2x := x.keep hp2 nM2
  have hv' := pmap hv fun _ _ z => I.sl.rep x z
  have hw' := pmap hw fun _ _ z => I.sl.rep x z
  obtain ⟨y, ey, hy⟩ := paired_get' hw' ea
  have lt := (List.getElem?_eq_some_iff.mp ey).1
  have hsi : seqIndex? e ws.length = some e.toNat := by
    unfold seqIndex?
    simp [b0, show ¬ e < 0 by omega, show e < (ws.length : Int) by omega]
  have I3 := I2.putL hj e2 nM2 (paired_erase e.toNat hw') (by
    have := hw'.length
    have h5 := (paired_erase e.toNat hw').length
    have h6 := List.length_eraseIdx_le ws e.toNat
    omega)
  have hp3 : upd H2 p2 (.lst (ws.eraseIdx e.toNat)) p = some (.lst vs) := by rw [upd_ne ne]; exact hpx
  have hh := own_hid (w := .lst (ws.eraseIdx e.toNat)) I2 hj e2
  refine ⟨p2, ws, e, e.toNat, y, rfl, by rw [show v = V.int e from hv2], hp2x, by omega, by omega, hsi, ?_⟩
  refine ⟨ey, p, vs, y, rfl, rfl, hp3, lt_line (by rw [hv.length]; exact b2), n _ _ O0 H0 G σ _ (I3.putL hi e1 nM ?_ (by rw [List.length_append]; exact b2)) k kb D q1 q2 q3 q4⟩
  rw [hh]
  exact paired_app hv' (.cons hy .nil)
end
end Nz

/-! Nz18: loops over items of two kinds. -/
namespace Nz
open PySem L2
variable {K : PySem.W.Frag} {E : Eff} {sls : List (Sl K)}
section
variable {α β γ L N : Type} {te : TE} {rx : R K α} {ry : R K β}
def rSum (rx : R K α) (ry : R K β) : R K (α ⊕ β) := ⟨fun H v z => match z with | .inl a => rx.rp H v a | .inr b => ry.rp H v b, fun {H H' v z} e h => by
  cases z with
  | inl a => exact rx.mono e h
  | inr b => exact ry.mono e h⟩
theorem ev_inl {c : PT α} (h : EV E sls te rx c) : EV E sls te (rSum rx ry) (fun k => c fun a => k (.inl a)) := fun O σ H S k hk Q q => h _ σ H S _ hk Q fun a v H2 ka x hv => q (.inl a) v H2 ka x hv
theorem ev_inr {c : PT β} (h : EV E sls te ry c) : EV E sls te (rSum rx ry) (fun k => c fun a => k (.inr a)) := fun O σ H S k hk Q q => h _ σ H S _ hk Q fun a v H2 ka x hv => q (.inr a) v H2 ka x hv
theorem gt_sum {g : TG} {js : List Nat} {h1 : α → List (Sl K)} {h2 : β → List (Sl K)} (a : GT E sls g rx js h1) (b : GT E sls g ry js h2) : GT E sls g (rSum rx ry) js (Sum.elim h1 h2) := fun O σ H z v S hv Q q => by
  cases z with
  | inl x => exact a _ σ H x v S hv Q q
  | inr x => exact b _ σ H x v S hv Q q
def elimT {T : Type} (m1 : α → PT T) (m2 : β → PT T) (z : α ⊕ β) : PT T := fun k => match z with | .inl a => m1 a k | .inr b => m2 b k
def Pg.elimG {T : Type} (m1 : α → Pg T) (m2 : β → Pg T) (z : α ⊕ β) : Pg T := ⟨elimT (fun a => (m1 a).wp) (fun b => (m2 b).wp) z, fun h q => by
  cases z with
  | inl a => exact (m1 a).mono h q
  | inr b => exact (m2 b).mono h q⟩
variable {own : List Nat} {r : R K γ} {fN : N → List (Sl K)} {oN : List Nat} {fL : L → List (Sl K)} {oL : List Nat} {t : TS}
theorem bj_sum {h1 : α → List (Sl K)} {h2 : β → List (Sl K)} {m1 : α → PT (Ctl γ L N)} {m2 : β → PT (Ctl γ L N)} (a : ∀ x, BJ E (h1 x) own t (m1 x) r fN oN fL oL) (b : ∀ x, BJ E (h2 x) own t (m2 x) r fN oN fL oL) (z : α ⊕ β) : BJ E (Sum.elim h1 h2 z) own t (elimT m1 m2 z) r fN oN fL oL := by
  cases z with
  | inl x => exact a x
  | inr x => exact b x
end
end Nz

/-! Nz19: a number drawn from the tape. -/
namespace Nz
open PySem L2
variable {K : PySem.W.Frag}
structure Tp (pt c : Addr) (cells : List Int) (a l s t : Int) (H : Hp) : Prop where
  d : H pt = some (.dK (tapeKvs c a l s t))
  cs : H c = some (.lst (cells.map V.int))
def effE (pt c : Addr) (cells : List Int) (a l s t : Int) : Eff := ⟨fun x => x = pt ∨ x = c, Tp pt c cells a l s t, fun h _ ⟨h1, h2⟩ => ⟨by rw [h pt (.inl rfl)]; exact h1, by rw [h c (.inr rfl)]; exact h2⟩, fun ⟨h1, h2⟩ x hx => by
  rcases hx with rfl | rfl
  · exact ⟨_, h1, fun _ z => nomatch z⟩
  · exact ⟨_, h2, fun _ z => nomatch z⟩⟩
section
variable {pt c : Addr} {cells : List Int} {a l s t : Int} {sls : List (Sl K)} {O : Addr → Prop} {σ : L2.St} {H : Hp}
theorem ev_tp {key : Str} {x : Int} (h0 : sls[0]? = some (slAt pt)) (h : ∀ c, valV (tapeKvs c a l s t) (.inr key) = some (.int x)) : EV (effE pt c cells a l s t) sls (tDGet (tVar 0) (tC (.str key))) rInt (fun k => k x) := fun O σ H S k hk Q q => by
  obtain ⟨o, e, eo⟩ := S.at h0
  rw [show o = some (V.ref pt) from eo] at e
  exact ⟨_, e, pt, _, rfl, .inl ⟨_, .inr key, .inl S.inv.d, rfl, (h c).symm⟩, q x _ H hk (XX.refl S) rfl⟩
theorem val_cells : valV (tapeKvs c a l s t) (.inr "cells") = some (.ref c) := rfl
theorem ev_tpLen (h0 : sls[0]? = some (slAt pt)) : EV (effE pt c cells a l s t) sls (tCB (rLenS K) (tCons (tDGet (tVar 0) (tC (.str "cells"))) tNil)) rInt (fun k => k (cells.length : Int)) := fun O σ H S k hk Q q => by
  obtain ⟨o, e, eo⟩ := S.at h0
  rw [show o = some (V.ref pt) from eo] at e
  refine ⟨_, e, pt, _, rfl, .inl ⟨_, .inr "cells", .inl S.inv.d, rfl, val_cells.symm⟩, c, cells.map V.int, rfl, .inl (.inl (.inl S.inv.cs)), q _ _ H hk (XX.refl S) ?_⟩
  show V.int _ = V.int _
  rw [List.length_map]
theorem ev_tpIx {te : TE} {d : PT Int} (h0 : sls[0]? = some (slAt pt)) (h : EV (effE pt c cells a l s t) sls te rInt d) : EV (effE pt c cells a l s t) sls (tOp (rIxL K) (tDGet (tVar 0) (tC (.str "cells"))) te) rInt (fun k => d fun i => ∃ x, atI cells i = some x ∧ k x) := fun O σ H S k hk Q q => by
  obtain ⟨o, e, eo⟩ := S.at h0
  rw [show o = some (V.ref pt) from eo] at e
  refine ⟨_, e, pt, _, rfl, .inl ⟨_, .inr "cells", .inl S.inv.d, rfl, val_cells.symm⟩, h _ σ H S _ hk _ fun i y H1 ⟨x, ex, kx⟩ x1 hy => ?_⟩
  obtain ⟨v, ev, hv⟩ := paired_atI (F := (rInt (K := K)).rp H1) (of_ints cells) ex
  exact ⟨c, cells.map V.int, i, v, rfl, hy, .inl (.inl x1.2.cs), ev, q x v H1 kx x1 hv⟩
theorem tp_put {a' l' s' t' : Int} (S : SL O (effE pt c cells a l s t) sls σ H) (ne : pt ≠ c) : SL O (effE pt c cells a' l' s' t') sls σ (upd H pt (.dK (tapeKvs c a' l' s' t'))) := by
  have op : O pt := S.mo pt (.inl rfl)
  have e1 : hid (upd H pt (.dK (tapeKvs c a' l' s' t'))) O = hid H O := funext fun x => by
    by_cases q : O x
    · rw [hid_in q, hid_in q]
    · rw [hid_out q, hid_out q, upd_ne fun z => q (by rw [z]; exact op)]
  have e2 : hid (upd H pt (.dK (tapeKvs c a' l' s' t'))) (effE pt c cells a' l' s' t').M = hid H (effE pt c cells a l s t).M := funext fun x => by
    by_cases q : (effE pt c cells a l s t).M x
    · rw [hid_in q, hid_in (show (effE pt c cells a' l' s' t').M x from q)]
    · rw [hid_out q, hid_out (show ¬ (effE pt c cells a' l' s' t').M x from q), upd_ne fun z => q (.inl z)]
  refine ⟨by rw [e1, e2]; exact S.sl, fun x hx => ?_, S.mo, ⟨upd_same, by rw [upd_ne (Ne.symm ne)]; exact S.inv.cs⟩⟩
  by_cases q : x = pt
  · subst q
    exact ⟨_, upd_same, fun _ z => nomatch z⟩
  · obtain ⟨u, hu, nt⟩ := S.od x hx
    exact ⟨u, by rw [upd_ne q]; exact hu, nt⟩
theorem tp_ex {u : HO} : Ex (hid H (effT pt c).M) (hid (upd H pt u) (effT pt c).M) := fun x w e => by
  obtain ⟨n, e⟩ := of_hid e
  rw [hid_out n, upd_ne fun z => n (.inl z)]
  exact e
/-- a field of the tape is written -/
theorem tp_store {te : TE} {key : Str} {d : PT Int} {k : Int → Prop} {D : Ends} {a' l' s' t' : Int → Int} (h0 : sls[0]? = some (slAt pt)) (S : SL O (effE pt c cells a l s t) sls σ H) (ne : pt ≠ c) (h : EV (effE pt c cells a l s t) sls te rInt d) (hk : d k)
    (hp : ∀ x, putK (tapeKvs c a l s t) (.inr key) (.int x) = tapeKvs c (a' x) (l' x) (s' x) (t' x))
    (n : ∀ x H1, k x → XX (effE pt c cells a l s t) H H1 → SL O (effE pt c cells (a' x) (l' x) (s' x) (t' x)) sls σ (upd H1 pt (.dK (tapeKvs c (a' x) (l' x) (s' x) (t' x)))) → D.nx σ (upd H1 pt (.dK (tapeKvs c (a' x) (l' x) (s' x) (t' x))))) : sDPut (tVar 0) (tC (.str key)) te D σ H :=
  h _ σ H S k hk _ fun x v H1 kx x1 hv => by
    obtain ⟨o, e, eo⟩ := S.at h0
    rw [show o = some (V.ref pt) from eo] at e
    refine ⟨_, e, pt, _, rfl, .inl ⟨_, .inr key, x1.2.d, rfl, by show 5 < sizeLine; decide, rfl⟩, ?_⟩
    rw [show v = V.int x from hv, hp x]
    exact n x H1 kx x1 (tp_put (S.ext x1) ne)
end
def tF (key : Str) : TE := tDGet (tVar 0) (tC (.str key))
def rIntC : List V → Hp → VK → Prop := fun xs H Q => (∃ i, xs = [.int i] ∧ Q (.int i) H) ∨ ∃ k, xs = [.bl k] ∧ Q (.int (if k then 1 else 0)) H
def tInt (te : TE) : TE := tCB rIntC (tCons te tNil)
abbrev oAdd (x y : TE) : TE := tOp (rI0 fun i j => .int (i + j)) x y
abbrev oMul (x y : TE) : TE := tOp (rI CMul fun i j => .int (i * j)) x y
abbrev oMod (x y : TE) : TE := tOp (rI (fun _ j => 0 < j) fun i j => .int (i % j)) x y
abbrev oDiv (x y : TE) : TE := tOp (rI CDiv fun i j => .int (i / j)) x y
/-- the def's text as it reads -/
def tTake2 : TS := tSeq (tIfS (tTest (tOp (rI0 fun i j => .bl (decide (j < i))) (tF "left") (tC (.int 0))))
    (tSeq (tAsg (oMod (tInt (tF "left")) (tVar 1)) (gName 2)) (tSeq (sDPut (tVar 0) (tC (.str "left")) (oDiv (tF "left") (tVar 1))) (tSeq (tRet (tVar 2)) tNext))) tNext)
  (tSeq (sDPut (tVar 0) (tC (.str "salt")) (oAdd (tF "salt") (tC (.int 1))))
  (tSeq (tAsg (oMod (tInt (oAdd (oMul (tF "seed") (tC (.int 48271))) (oMul (tF "salt") (tC (.int 69621))))) (tC (.int 2147483647))) (gName 3))
  (tSeq (tAsg (oMod (tInt (oAdd (oAdd (oMul (tVar 3) (tVar 3)) (oMul (tF "salt") (tC (.int 40692)))) (tC (.int 12345)))) (tC (.int 2147483399))) (gName 3))
  (tSeq (tRet (oMod (tInt (tVar 3)) (tVar 1))) tNext))))
def tTake (K : PySem.W.Frag) : TS := tSeq (tIfS (tAnd (tTest (tOp rEq (tF "left") (tC (.int 0)))) (tTest (tOp (rI0 fun i j => .bl (decide (i < j))) (tF "at") (tCB (rLenS K) (tCons (tF "cells") tNil)))))
    (tSeq (sDPut (tVar 0) (tC (.str "left")) (tOp (rIxL K) (tF "cells") (tF "at"))) (tSeq (sDPut (tVar 0) (tC (.str "at")) (oAdd (tF "at") (tC (.int 1)))) tNext)) tNext) tTake2
theorem ev_int' {E : Eff} {sls : List (Sl K)} {te : TE} {c : PT Int} (h : EV E sls te rInt c) : EV E sls (tInt te) rInt c := ev_intI h
section
variable {pt c : Addr} {cells : List Int} {O : Addr → Prop} {H H0 : Hp} {many : Int}
theorem cmul_r {i j : Int} (h : -1000000 ≤ j ∧ j ≤ 1000000) : CMul i j := .inr (by omega)
theorem ofS (S : SL O (effE pt c cells a l s t) (sls : List (Sl K)) σ H) (hc : ∀ x ∈ cells, 0 ≤ x) (h63 : cells.length ≤ 63) (ha : 0 ≤ a ∧ a ≤ cells.length) (hl : 0 ≤ l) (ht : 0 ≤ t) : TapeI pt c H := ⟨cells, a, l, s, t, S.inv.d, S.inv.cs, hc, h63, ha.1, ha.2, hl, ht⟩
theorem take2_walk {a l s t : Int} {σ : L2.St} (ne : pt ≠ c) (hc : ∀ x ∈ cells, 0 ≤ x) (h63 : cells.length ≤ 63) (ha : 0 ≤ a ∧ a ≤ cells.length) (hl : 0 ≤ l) (ht : 0 ≤ t) (n0 : 0 < many) (n1 : many < 1073741824) (S : SL (K := K) O (effE pt c cells a l s t) [slAt pt, slV rInt many, slAny, slAny] σ H) (x0 : Ex (hid H0 (effT pt c).M) (hid H (effT pt c).M)) {D : Ends}
    (q : ∀ d H', 0 ≤ d → d < many → XX (effT pt c) H0 H' → D.rt (.int d) H') : tTake2 D σ H := by
  unfold tTake2
  refine et_T (ev_B0 (g := fun i j => decide (j < i)) (ev_tp (key := "left") (x := l) rfl fun _ => rfl) (ev_int (i := 0))) _ σ H S (fun b => b = decide (0 < l)) rfl _ fun b H1 eb x1 => ?_
  have S1 := S.ext x1
  have xx1 : Ex (hid H0 (effT pt c).M) (hid H1 (effT pt c).M) := x0.trans x1.1
  cases b with
  | true =>
    rw [if_pos rfl]
    have hl1 : 0 < l := of_decide_eq_true eb.symm
    refine ev_I (C := fun _ j => 0 < j) (g := fun i j => i % j) (ev_int' (ev_tp (key := "left") (x := l) rfl fun _ => rfl)) (ev_var (i := 1) (a := many) rfl) _ σ H1 S1 (fun d => d = l % many) ⟨n0, rfl⟩ _ fun d v H2 ed x2 hv => ?_
    have S2 : SL O (effE pt c cells a l s t) [slAt pt, slV rInt many, slV rInt d, slAny] (σ.set 2 (some v)) H2 := (S1.ext x2).set (i := 2) (sl := slV rInt d) ⟨v, rfl, hv⟩
    refine tp_store (a' := fun _ => a) (l' := fun x => x) (s' := fun _ => s) (t' := fun _ => t) rfl S2 ne (ev_I (C := CDiv) (g := fun i j => i / j) (ev_tp (key := "left") (x := l) rfl fun _ => rfl) (ev_var (i := 1) (a := many) rfl)) (k := fun x => x = l / many) ⟨⟨n0, n1⟩, rfl⟩ (fun x => rfl) fun x H3 ex x3 S3 => ?_
    have xx3 := (xx1.trans x2.1).trans x3.1
    refine ev_var (i := 2) (a := d) (r := rInt) rfl _ _ _ S3 (fun z => z = d) rfl _ fun z w H4 ez x4 hw => ?_
    subst ez
    have S4 := S3.ext x4
    rw [show w = V.int z from hw]
    have hx : 0 ≤ x := by rw [ex]; exact Int.ediv_nonneg hl (by omega)
    refine q z H4 (by rw [ed]; exact Int.emod_nonneg _ (by omega)) (by rw [ed]; exact Int.emod_lt_of_pos _ n0) ⟨(xx3.trans tp_ex).trans x4.1, ofS S4 hc h63 ha hx ht⟩
  | false =>
    rw [if_neg Bool.false_ne_true]
    show sDPut (tVar 0) (tC (.str "salt")) (oAdd (tF "salt") (tC (.int 1))) ⟨_, D.rt, D.bk, D.ct⟩ σ H1
    refine tp_store (a' := fun _ => a) (l' := fun _ => l) (s' := fun _ => s) (t' := fun x => x) rfl S1 ne (ev_I0 (g := fun i j => i + j) (ev_tp (key := "salt") (x := t) rfl fun _ => rfl) (ev_int (i := 1))) (k := fun x => x = t + 1) rfl (fun x => rfl) fun x H2 ex x2 S2 => ?_
    have ht2 : 0 ≤ x := by omega
    have xx2 := (xx1.trans x2.1).trans (tp_ex (u := .dK (tapeKvs c a l s x)))
    refine ev_I (C := fun _ j => 0 < j) (g := fun i j => i % j) (ev_int' (ev_I0 (g := fun i j => i + j) (ev_I (C := CMul) (g := fun i j => i * j) (ev_tp (key := "seed") (x := s) rfl fun _ => rfl) (ev_int (i := 48271))) (ev_I (C := CMul) (g := fun i j => i * j) (ev_tp (key := "salt") (x := x) rfl fun _ => rfl) (ev_int (i := 69621))))) (ev_int (i := 2147483647)) _ _ _ S2 (fun d => 0 ≤ d ∧ d < 2147483647) ⟨cmul_r (by omega), cmul_r (by omega), by omega, Int.emod_nonneg _ (by omega), Int.emod_lt_of_pos _ (by omega)⟩ _ fun d v H3 ed x3 hv => ?_
    have S3 : SL O (effE pt c cells a l s x) [slAt pt, slV rInt many, slAny, slV rInt d] (σ.set 3 (some v)) H3 := (S2.ext x3).set (i := 3) (sl := slV rInt d) ⟨v, rfl, hv⟩
    refine ev_I (C := fun _ j => 0 < j) (g := fun i j => i % j) (ev_int' (ev_I0 (g := fun i j => i + j) (ev_I0 (g := fun i j => i + j) (ev_I (C := CMul) (g := fun i j => i * j) (ev_var (i := 3) (a := d) rfl) (ev_var (i := 3) (a := d) rfl)) (ev_I (C := CMul) (g := fun i j => i * j) (ev_tp (key := "salt") (x := x) rfl fun _ => rfl) (ev_int (i := 40692)))) (ev_int (i := 12345)))) (ev_int (i := 2147483399)) _ _ _ S3 (fun e => 0 ≤ e) ⟨.inl (by omega), cmul_r (by omega), by omega, Int.emod_nonneg _ (by omega)⟩ _ fun e w H4 ee x4 hw => ?_
    have S4 : SL O (effE pt c cells a l s x) [slAt pt, slV rInt many, slAny, slV rInt e] ((σ.set 3 (some v)).set 3 (some w)) H4 := (S3.ext x4).set (i := 3) (sl := slV rInt e) ⟨w, rfl, hw⟩
    refine ev_I (C := fun _ j => 0 < j) (g := fun i j => i % j) (ev_int' (ev_var (i := 3) (a := e) rfl)) (ev_var (i := 1) (a := many) rfl) _ _ _ S4 (fun z => 0 ≤ z ∧ z < many) ⟨n0, Int.emod_nonneg _ (by omega), Int.emod_lt_of_pos _ n0⟩ _ fun z y H5 ez x5 hy => ?_
    rw [show y = V.int z from hy]
    exact q z H5 ez.1 ez.2 ⟨((xx2.trans x3.1).trans x4.1).trans x5.1, ofS (S4.ext x5) hc h63 ha hl ht2⟩
theorem take_walk {vs : List V} {Q : VK} {X0 : XK} {H : Hp} (h : spTX (K := K) effT (f1 rInt) rInt (fun a => (Pg.take a).wp) vs H Q X0) : tTake K { nx := fun _ H' => Q .non H', rt := Q } (L2.start ["tape", "many", "drawn", "mixed"] vs) H := by
  obtain ⟨pt, c, ws, e, O, many, k, hO, mo, hI, ⟨v, ew, hv⟩, ⟨⟨n0, n1⟩, hk⟩, q⟩ := h
  subst e ew
  obtain ⟨cells, a, l, s, t, hd, hcs, hc, h63, ha0, ha1, hl, ht⟩ := hI
  have ne : pt ≠ c := fun e => by rw [e, hcs] at hd; cases hd
  have S : SL (K := K) O (effE pt c cells a l s t) [slAt pt, slV rInt many, slAny, slAny] [some (.ref pt), some v, none, none] H := ⟨.cons rfl (.cons ⟨v, rfl, hv⟩ (.cons True.intro (.cons True.intro .nil))), hO, mo, ⟨hd, hcs⟩⟩
  have fin : ∀ {H2 : Hp}, ∀ d H', 0 ≤ d → d < many → XX (effT pt c) H H' → Q (.int d) H' := fun d H' d0 d1 x => q d (.int d) H' (hk d d0 d1) x rfl
  show (tTake K) _ [some (.ref pt), some v, none, none] H
  unfold tTake
  refine et_and (et_T (ev_eqI (ev_tp (key := "left") (x := l) rfl fun _ => rfl) (ev_int (i := 0)))) (et_T (ev_B0 (g := fun i j => decide (i < j)) (ev_tp (key := "at") (x := a) rfl fun _ => rfl) (ev_tpLen rfl))) _ _ H S (fun b => b = true → l = 0 ∧ a < cells.length) (by
    by_cases e : l = 0
    · simp [e]
    · simp [e]) _ fun b H1 eb x1 => ?_
  have S1 := S.ext x1
  cases b with
  | true =>
    obtain ⟨el, ea⟩ := eb rfl
    rw [if_pos rfl]
    have hat : ∃ x, atI cells a = some x := by
      have h1 : a = ((a.toNat : Nat) : Int) := by omega
      have h2 : a.toNat < cells.length := by omega
      obtain ⟨x, hx⟩ : ∃ x, cells[a.toNat]? = some x := ⟨_, List.getElem?_eq_getElem h2⟩
      exact ⟨x, by rw [h1]; exact atI_nat hx⟩
    obtain ⟨x0, hx0⟩ := hat
    have hx00 : 0 ≤ x0 := by
      unfold atI at hx0
      cases q : ixN cells.length a with
      | none => rw [q] at hx0; cases hx0
      | some j => rw [q] at hx0; exact hc _ (List.mem_of_getElem? hx0)
    show sDPut (tVar 0) (tC (.str "left")) (tOp (rIxL K) (tF "cells") (tF "at")) ⟨_, Q, _, _⟩ _ H1
    refine tp_store (a' := fun _ => a) (l' := fun x => x) (s' := fun _ => s) (t' := fun _ => t) rfl S1 ne (ev_tpIx rfl (ev_tp (key := "at") (x := a) rfl fun _ => rfl)) (k := fun x => x = x0) ⟨x0, hx0, rfl⟩ (fun x => rfl) fun x H2 ex x2 S2 => ?_
    show sDPut (tVar 0) (tC (.str "at")) (oAdd (tF "at") (tC (.int 1))) ⟨_, Q, _, _⟩ _ _
    refine tp_store (a' := fun x => x) (l' := fun _ => x) (s' := fun _ => s) (t' := fun _ => t) rfl S2 ne (ev_I0 (g := fun i j => i + j) (ev_tp (key := "at") (x := a) rfl fun _ => rfl) (ev_int (i := 1))) (k := fun y => y = a + 1) rfl (fun x => rfl) fun y H3 ey x3 S3 => ?_
    show tTake2 _ _ _
    exact take2_walk ne hc h63 (by omega) (by omega) ht n0 n1 S3 ((((x1.1.trans x2.1).trans tp_ex).trans x3.1).trans tp_ex) (fin (H2 := H))
  | false =>
    rw [if_neg Bool.false_ne_true]
    show tTake2 _ _ _
    exact take2_walk ne hc h63 ⟨ha0, ha1⟩ hl ht n0 n1 S1 x1.1 (fin (H2 := H))
end
end Nz

/-! Nz20: the tape is made. -/
namespace Nz
open PySem L2
variable {K : PySem.W.Frag}
/-- ints that are read, in the heap or known -/
def rSq : R K (List Int) := ⟨fun H v ns => ∃ p, v = .ref p ∧ SqL K H p (ns.map V.int) ∧ ns.length ≤ 63, fun e ⟨p, h, q, z⟩ => ⟨p, h, Nz.SqL.mono' e q, z⟩⟩
theorem iw_sq {F B : Hp} {p : Addr} {ns : List Int} (hs : SqL K B p (ns.map V.int)) (hl : ns.length ≤ 63) : IW (K := K) F B rInt ns (Itl K p) := by
  refine ⟨by show ns.length ≤ 100000; omega, fun i H3 hi w => ⟨ns.map V.int, .int ns[i], Nz.SqL.mono' w.ew hs, by simp [hi]⟩, fun H3 w => ⟨ns.map V.int, Nz.SqL.mono' w.ew hs, by simp⟩, fun O' i H3 x H4 hi w od wf y => ?_⟩
  obtain ⟨e4, y⟩ := y
  subst e4
  refine ⟨Ex.refl _, ns[i], by simp [hi], ?_⟩
  have := y _ (Nz.SqL.mono' w.ew hs)
  rw [List.getElem?_map, List.getElem?_eq_getElem hi] at this
  cases this
  rfl
theorem iv_sq {E : Eff} {sls : List (Sl K)} {te : TE} {c : PT (List Int)} (h : EV E sls te rSq c) : IV E sls (iList K te) rInt c := fun O σ H S k hk Rr q =>
  h _ σ H S k hk _ fun xs v H2 ka x ⟨p, e, hs, hl⟩ => ⟨p, e, ⟨_, lunS hs⟩, q xs _ H2 ka x (iw_sq hs hl)⟩
def rAbs : List V → Hp → VK → Prop := fun xs H Q => ∃ i, xs = [.int i] ∧ Q (.int (if i < 0 then -i else i)) H
def tTapeMk (K : PySem.W.Frag) : TS := tSeq (tAsg (tLc (iList K (tVar 0)) (gName 2) tYes (tCB rAbs (tCons (tInt (tVar 2)) tNil)) [2]) (gName 1))
  (tSeq (tAsg (tC (.int 7)) (gName 3))
  (tSeq (tFor (iList K (tVar 1)) (gName 2) (tSeq (tAsg (oMod (tInt (oAdd (oMul (tVar 3) (tC (.int 31))) (tVar 2))) (tC (.int 2147483647))) (gName 3)) tNext))
  (tSeq (tRet (tDisp [(tC (.str "cells"), tVar 1), (tC (.str "at"), tC (.int 0)), (tC (.str "left"), tC (.int 0)), (tC (.str "seed"), tVar 3), (tC (.str "salt"), tC (.int 0))])) tNext)))
def spMk (K : PySem.W.Frag) : Sp := fun vs H Q _ => ∃ (a : Addr) (ns : List Int), vs = [.ref a] ∧ SqL K H a (ns.map V.int) ∧ ns.length ≤ 63 ∧ ∀ pt c H2, Ex H H2 → H pt = none → H c = none → TapeI pt c H2 → Q (.ref pt) H2
theorem abs_nn (i : Int) : 0 ≤ (if i < 0 then -i else i) := by split <;> omega
theorem compT_all {α β : Type} {P : β → Prop} {f : α → β} (hf : ∀ x, P (f x)) : ∀ (xs : List α) (k : List β → Prop), (∀ ys, ys.length = xs.length → (∀ y ∈ ys, P y) → k ys) → compT xs (fun _ k => k true) (fun x k => k (f x)) k
  | [], k, h => h [] rfl (by simp)
  | x :: xs, k, h => by
    rw [compT_cons]
    dsimp only
    rw [if_pos rfl]
    exact compT_all hf xs _ fun ys hl hy => h (f x :: ys) (by simp [hl]) fun y hm => by
      rcases List.mem_cons.mp hm with e | hm
      · rw [e]; exact hf x
      · exact hy y hm
theorem mk_walk {vs : List V} {Q : VK} {X0 : XK} {H : Hp} (h : spMk K vs H Q X0) : tTapeMk K { nx := fun _ H' => Q .non H', rt := Q } (L2.start ["script", "cells", "cell", "seed"] vs) H := by
  obtain ⟨a, ns, e, hS, hl, q⟩ := h
  subst e
  have S : SL (K := K) (fun _ => False) eff0 [slV rSq ns, slAny, slAny, slAny] [some (.ref a), none, none, none] H := ⟨.cons ⟨_, rfl, a, rfl, by rw [hid_no]; exact hS, hl⟩ (.cons True.intro (.cons True.intro (.cons True.intro .nil))), fun _ z => z.elim, fun _ z => z.elim, True.intro⟩
  show (tTapeMk K) _ [some (.ref a), none, none, none] H
  unfold tTapeMk
  show tLc (iList K (tVar 0)) (gName 2) tYes (tCB rAbs (tCons (tInt (tVar 2)) tNil)) [2] [some (.ref a), none, none, none] H fun x H1 => gName 1 x [some (.ref a), none, none, none] H1 _
  refine el_lc (vs := [2]) (js := [2]) (rx := rInt) (r := rInt) (t := fun _ k => k true) (fe := fun x k => k (if x < 0 then -x else x)) (h := fun x => [slV rSq ns, slAny, slV rInt x, slAny]) (ir_iv (iv_sq (ev_var (i := 0) rfl))) (gt_name (j := 2)) (by decide) (fun _ => et_yes) (fun x => ev_abs (ev_int' (ev_var (i := 2) (a := x) rfl))) _ _ H S (fun ys => ys.length = ns.length ∧ ∀ y ∈ ys, 0 ≤ y) (compT_all (P := fun y => 0 ≤ y) (fun x => abs_nn x) ns _ fun ys a b => ⟨a, b⟩) _ fun cells c cvs H1 ⟨hcl, hnn⟩ x1 nc hc hp hlc => ?_
  have ec : cvs = cells.map V.int := ints_of hp
  subst ec
  have ex1 : Ex H H1 := by
    have := x1.1
    rwa [show eff0.M = fun _ => False from rfl, hid_no, hid_no] at this
  -- seed = 7, the loop
  refine ⟨.ref c, rfl, c, rfl, ⟨_, .inl (.inl hc)⟩, fun i m σ H3 => (∃ (y2 : Option V) (sd : Int), σ = [some (.ref a), some (.ref c), y2, some (.int sd)]) ∧ i + m = cells.length ∧ H3 = H1, ⟨cells.length, ⟨none, 7, rfl⟩, by omega, rfl⟩, fun i m σ H3 hW => ?_⟩
  obtain ⟨⟨y2, sd, rfl⟩, em, rfl⟩ := hW
  by_cases hi : i < cells.length
  · refine .inr ⟨⟨cells.map V.int, .int cells[i], .inl (.inl hc), by simp [hi]⟩, fun σ' H' => (∃ (y2 : Option V) (sd : Int), σ' = [some (.ref a), some (.ref c), y2, some (.int sd)]) ∧ H' = H3, fun σ' H' ⟨h1, h2⟩ => ⟨m - 1, by omega, h1, by omega, h2⟩, fun v H' ⟨e1, hy⟩ => ?_⟩
    subst e1
    have hv := hy _ (.inl (.inl hc))
    rw [List.getElem?_map, List.getElem?_eq_getElem hi] at hv
    cases hv
    exact ⟨_, rfl, _, 31, rfl, rfl, cmul_r (by omega), _, rfl, _, _, rfl, rfl, .inl ⟨_, rfl, _, _, rfl, rfl, by omega, ⟨_, _, rfl⟩, rfl⟩⟩
  · refine .inl ⟨⟨cells.map V.int, .inl (.inl hc), by simp; omega⟩, fun p np => ?_⟩
    have npc : c ≠ p := ne_of_none hc np
    refine ⟨_, rfl, _, rfl, by rw [upd_same], [(.inr "cells", .ref c), (.inr "at", .int 0), (.inr "left", .int 0), (.inr "seed", .int sd), (.inr "salt", .int 0)], rfl, by simp, ?_⟩
    have ex2 : Ex H (upd (upd H3 p (.dK [])) p (.dK (mergeK [] [(.inr "cells", .ref c), (.inr "at", .int 0), (.inr "left", .int 0), (.inr "seed", .int sd), (.inr "salt", .int 0)]))) := fun x u e => by
      have e2 := ex1 x u e
      have : x ≠ p := ne_of_none e2 np
      rw [upd_ne this, upd_ne this]
      exact e2
    have np0 : H p = none := by
      cases z : H p with
      | none => rfl
      | some u => rw [ex1 p u z] at np; cases np
    exact q p c _ ex2 np0 nc ⟨cells, 0, 0, sd, 0, upd_same, by rw [upd_ne npc, upd_ne npc]; exact hc, hnn, by omega, Int.le_refl _, by omega, Int.le_refl _, Int.le_refl _⟩
end Nz

/-! Nz21: the law itself. -/
namespace Nz
open PySem L2 PySem.Spec PyProof.Rows LamX
variable {K : PySem.W.Frag}
def spLaw (K : PySem.W.Frag) (P : Addr) : Sp := fun vs H Q _ => ∃ (a : Addr) (ns : List Int), vs = [.ref a] ∧ SqL K H a (ns.map V.int) ∧ ns.length ≤ 63 ∧ H P = some (.tbl #[]) ∧ ∀ H', Q (.bl true) H'
theorem law_run {P : Addr} {q : Str} {N : List Str} {n : Nat} (hN : N.length = n + 2) {X0 X1 : XK} {t : TS} {mb : PT (Ctl Bool Empty Unit)} (hb : ∀ pt c, BJ (K := K) (effQ P q pt c) (slAny :: slAt pt :: List.replicate n slAny) [] t mb rBl (fun _ => slAny :: slAny :: List.replicate n slAny) [] noL [])
    (hm : mb (outF fun b => b = true)) {vs : List V} {H : Hp} {Q : VK} (h : spLaw K P vs H Q X1) : tSeq (tAsg (tCall (spMk K) [] X0 (tCons (tVar 0) tNil)) (gName 1)) t { nx := fun _ H' => Q .non H', rt := Q } (L2.start N vs) H := by
  obtain ⟨a, ns, e, hS, hl, hP, q'⟩ := h
  subst e
  have eN : L2.start N [.ref a] = some (.ref a) :: List.replicate (n + 1) none := by
    unfold L2.start
    rw [hN]
    rfl
  rw [eN]
  refine ⟨.ref a, rfl, a, ns, rfl, hS, hl, fun pt c H2 ex np nc hT => ?_⟩
  have hP2 := ex P _ hP
  have hTab : Tabs [(P, q)] H2 := fun p hp => by
    have e : p = (P, q) := List.mem_singleton.mp hp
    subst e
    exact TabS.nil hP2
  have mo : ∀ x, (effQ P q pt c).M x → (effQ P q pt c).M x := fun _ h => h
  have hI : (effQ P q pt c).I H2 := ⟨hT, hTab⟩
  have S : SL (K := K) (effQ P q pt c).M (effQ P q pt c) (slAny :: slAt pt :: List.replicate n slAny) (some (.ref a) :: some (.ref pt) :: List.replicate n none) H2 := ⟨.cons True.intro (.cons rfl (paired_rep n)), fun x hx => (effQ P q pt c).there hI x hx, mo, hI⟩
  refine hb pt c (effQ P q pt c).M H2 (hid H2 (effQ P q pt c).M) _ H2 ⟨by rw [own_nil]; exact S, Ex.refl _, by rw [own_nil]; exact Ef.refl _, fun i h => (by simp at h), fun i h => (by simp at h), mo, fun j sl h hp => ?_⟩ _ hm _ (fun _ _ _ z => z.elim) (fun b v H' kb _ _ e3 => ?_) (fun l => nomatch l) (fun l => nomatch l)
  · cases j with
    | zero => simp at h; subst h; cases hp
    | succ j =>
      cases j with
      | zero => simp at h; subst h; cases hp
      | succ j =>
        have h' : (List.replicate n slAny)[j]? = some sl := by simpa using h
        have := List.mem_of_getElem? h'
        rw [List.eq_of_mem_replicate this] at hp
        cases hp
  · rw [show v = V.bl b from e3, show b = true from kb]
    exact q' H'
theorem spLaw_len {P : Addr} {vs : List V} {H : Hp} {Q : VK} {X0 : XK} (h : spLaw K P vs H Q X0) : vs.length = 1 := by
  obtain ⟨_, _, e, _⟩ := h
  rw [e]
  rfl
end Nz

namespace K42
open PySem PySem.Spec PyProof.Rows L2 Nz
def topS (i : Nat) : Stmt := PySem.Challenge.pw_noshorterplan_k42_whole_picks_made_in_tw.main.body.getD i (.Pass ⟨0, 0, 0, 0⟩)
def m_law_take (a : Int) : Pg Int := Pg.take a
def qL : Str := Str.ofString "weak_plan.<locals>.<lambda>"
structure Md (mg : Str → Option Value) : Prop where
  abs : mg "abs" = none
  all : mg "all" = none
  any : mg "any" = none
  enumerate : mg "enumerate" = none
  int : mg "int" = none
  len : mg "len" = none
  list : mg "list" = none
  max : mg "max" = none
  range : mg "range" = none
  set : mg "set" = none
  sorted : mg "sorted" = none
  tuple : mg "tuple" = none
  zip : mg "zip" = none
  c_MOST_PLACES : ∃ u, mg "MOST_PLACES" = some u ∧ RelV (.int 30) u
section
variable {P : Program} {w : World} {K : PySem.W.Frag} {mg : Str → Option Value} {base : Heap} {Pt cc : Addr}
abbrev s_check_game : Stmt := topS 5
theorem sc_check_game : FnScope ["moves", "deeds", "ends", "rises", "a", "b", "place"] ["moves"] (defScope s_check_game) := ⟨rfl, rfl, rfl, by decide +kernel, rfl, by decide +kernel, by decide +kernel⟩
def m_check_game (a : (List (List (List Int)))) : Pg Unit := Pg.outGU (Pg.andG (pure (decide ((1 : Int) ≤ ((a).length : Int)))) (pure (decide (((a).length : Int) ≤ (30 : Int)))) >>= fun b1 => (Pg.ifG (pure ((!b1))) Pg.fail ((Pg.forc a () (fun y3 s2 => ((Pg.forc y3 () (fun y5 s4 => (Pg.comp (List.zip (cut y5 none (some (-(1 : Int)))) (cut y5 (some (1 : Int)) none)) (fun y6 => pure true) (fun y6 => (pure ((decide (y6.1 < y6.2))))) >>= fun l7 => ((pure l7 : Pg (List Bool)) >>= fun rises_8 => (Pg.orG (pure ((!(!(y5).isEmpty)))) (Pg.orG (Pg.comp y5 (fun y9 => pure true) (fun y9 => (Pg.andG (pure (decide ((0 : Int) ≤ y9))) (pure (decide (y9 < ((a).length : Int)))) >>= fun b10 => (pure (b10)))) >>= fun l11 => (pure ((!((l11).all id))))) (pure ((!((rises_8).all id))))) >>= fun b12 => (Pg.ifG (pure (b12)) Pg.fail (pure (Ctl.nx ())) : Pg (Ctl Unit Unit Unit)))))) : Pg (Ctl Unit Unit Unit)) >>= Pg.seqG (fun s4 => (pure (Ctl.nx ()))))) : Pg (Ctl Unit Empty Unit)) >>= Pg.seqG (fun s2 => (pure (Ctl.nx ())))) : Pg (Ctl Unit Empty Unit)))
set_option maxHeartbeats 4000000 in
theorem cal_check_game (D : Nz.DefK K mg "check_game" s_check_game ["moves"]) (md : Md mg) : Nz.Cal P w K mg base 1 "check_game" (Nz.spP (K := K) (f1 (rTup (rTup (rTup rInt)))) rNon (fun a => (m_check_game a).wp)) [] := by
  refine D.cal fun f fd F => F.ok sc_check_game (fun vs H Q E h => Nz.spP_len h) (fun cdv A outer s H vs Q E hr h => ?_)
  refine ⟨_, (pss_cons (ps_if (pt_not (pt_chain op_le op_le pe_int (pe_callB (cr_lenK K) (by rfl) md.len (by decide +kernel) (pa_cons (pv 0) pa_nil)) (Nz.pe_gc (by rfl) md.c_MOST_PLACES))) (pss_cons ps_never pss_nil) pss_nil) (pss_cons (ps_for PassesOwn.never rfl (pi_tK K (pv 0)) (pg_name (i := 1) sc_check_game.nd rfl (Or.inl rfl) (Or.inr rfl)) (pss_cons (ps_for PassesOwn.never rfl (pi_tK K (pv 1)) (pg_name (i := 2) sc_check_game.nd rfl (Or.inl rfl) (Or.inr rfl)) (pss_cons (ps_setLc (i := 3) rfl sc_check_game.nd rfl rfl (sw_true rfl rfl rfl rfl) (own := [("a", 4), ("b", 5)]) (pi_zK K (by rfl) md.zip (pa_cons (pe_slice (sl_tK K) (pv 2) po_none (po_some (pe_un un_neg pe_int))) (pa_cons (pe_slice (sl_tK K) (pv 2) (po_some pe_int) po_none) pa_nil))) (blkOk_by (N := ["moves", "deeds", "ends", "rises", "a", "b", "place"]) (sc := (defScope s_check_game)) (by decide +kernel)) (fun _ _ _ _ _ => (Nz.pg_tupK K 2 rfl (pgs_cons (pg_name (i := 4) sc_check_game.nd rfl (Or.inl rfl) (Or.inr rfl)) (pgs_cons (pg_name (i := 5) sc_check_game.nd rfl (Or.inl rfl) (Or.inr rfl)) pgs_nil)))) (fun _ _ _ _ _ => pts_nil) (fun _ _ _ _ _ => (pe_cmpR op_lt (pv 4) (pv 5) (by rfl)))) (pss_cons (ps_if (PW.pt (pw_or (pt_not (Nz.pt_truK K (pv 2))) (pw_or (pt_not (pt_val (pe_callB (cr_allK K) (by rfl) md.all (by decide +kernel) (pa_cons (pe_lc (own := [("place", 6)]) rfl sc_check_game.nd (pi_tK K (pv 2)) (blkOk_by (N := ["moves", "deeds", "ends", "rises", "a", "b", "place"]) (sc := (defScope s_check_game)) (by decide +kernel)) (fun _ _ _ _ _ => (pg_name (i := 6) sc_check_game.nd rfl (Or.inl rfl) (Or.inr rfl))) (fun _ _ _ _ _ => pts_nil) (fun _ _ _ _ _ => (pe_chain op_le op_lt pe_int (pv 6) (pe_callB (cr_lenK K) (by rfl) md.len (by decide +kernel) (pa_cons (pv 0) pa_nil))))) pa_nil)))) (pw_or1 (pt_not (pt_val (pe_callB (cr_allK K) (by rfl) md.all (by decide +kernel) (pa_cons (pv 3) pa_nil)))))))) (pss_cons ps_never pss_nil) pss_nil) pss_nil))) pss_nil)) pss_nil)), ?_⟩
  exact Nz.fnU (n := 6) Nz.prm_1 rfl (fun a => (Nz.bj_ifD (Nz.et_not (Nz.et_T (Nz.ev_chain (g := fun i j => decide (i ≤ j)) (g' := fun i j => decide (i ≤ j)) (Nz.ev_int (i := 1)) (Nz.ev_lenS (Nz.rs_t (Nz.rt_ev (Nz.ev_var rfl)))) Nz.ev_int))) (Nz.bj_seq Nz.bj_never) (Nz.bj_seq0 (Nz.bj_for (fS := (fun (s2 : Unit) => [(slV (rTup (rTup (rTup rInt))) a), slAny, slAny, slAny, slAny, slAny, slAny])) (oS := []) (s0 := ()) (Nz.iv_tup (Nz.ev_var rfl)) (Nz.wk_k rfl (Nz.wk_a (Nz.wk_a (Nz.wk_a (Nz.wk_a (Nz.wk_a (Nz.wk_a Nz.Wks.nil))))))) (by decide) (fun s2 => Nz.gt_name) (by decide) (fun s2 y3 => (Nz.bj_for (fS := (fun (s4 : Unit) => [(slV (rTup (rTup (rTup rInt))) a), (slV (rTup (rTup rInt)) y3), slAny, slAny, slAny, slAny, slAny])) (oS := []) (s0 := ()) (Nz.iv_tup (Nz.ev_var rfl)) (Nz.wk_k rfl (Nz.wk_k rfl (Nz.wk_a (Nz.wk_a (Nz.wk_a (Nz.wk_a (Nz.wk_a Nz.Wks.nil))))))) (by decide) (fun s4 => Nz.gt_name) (by decide) (fun s4 y5 => (Nz.bj_asg (Nz.ev_l (Nz.el_lc (Nz.ir_iv (Nz.iv_zipT (Nz.ev_slT (Nz.ev_var rfl) Nz.po_no (Nz.po_yes (Nz.ev_neg (Nz.ev_int (i := 1))))) (Nz.ev_slT (Nz.ev_var rfl) (Nz.po_yes (Nz.ev_int (i := 1))) Nz.po_no))) (Nz.gt_tup rfl (Nz.gts_cons Nz.gt_name (fun _ => (Nz.gts_nil Nz.gt_name)))) (by decide) (fun y6 => Nz.et_yes) (fun y6 => (Nz.ev_B0 (g := fun i j => decide (i < j)) (Nz.ev_var rfl) (Nz.ev_var rfl))))) (fun rises_8 => (Nz.bj_ifD (Nz.et_or (Nz.et_not (Nz.et_truS (Nz.rs_t (Nz.rt_ev (Nz.ev_var rfl))))) (Nz.et_or (Nz.et_not (Nz.et_B (Nz.ev_all (Nz.rl_l (Nz.el_lc (Nz.ir_iv (Nz.iv_tup (Nz.ev_var rfl))) Nz.gt_name (by decide) (fun y9 => Nz.et_yes) (fun y9 => (Nz.ev_chain (g := fun i j => decide (i ≤ j)) (g' := fun i j => decide (i < j)) (Nz.ev_int (i := 0)) (Nz.ev_var rfl) (Nz.ev_lenS (Nz.rs_t (Nz.rt_ev (Nz.ev_var rfl))))))))))) (Nz.et_not (Nz.et_B (Nz.ev_all (Nz.rl_ev (Nz.ev_var rfl))))))) (Nz.bj_seq Nz.bj_never) (Nz.bj_seq0 (Nz.bj_nx (s := ()) (Nz.wk_k rfl (Nz.wk_k rfl (Nz.wk_a (Nz.wk_a (Nz.wk_a (Nz.wk_a (Nz.wk_a Nz.Wks.nil))))))) (by decide))))))) (fun s4 => (Nz.bj_nx (s := ()) (Nz.wk_k rfl (Nz.wk_a (Nz.wk_a (Nz.wk_a (Nz.wk_a (Nz.wk_a (Nz.wk_a Nz.Wks.nil))))))) (by decide))))) (fun s2 => (Nz.bj_nx (s := ()) (Nz.wk_a (Nz.wk_a (Nz.wk_a (Nz.wk_a (Nz.wk_a (Nz.wk_a (Nz.wk_a Nz.Wks.nil))))))) (by decide))))))) (fun a k => Eq.mp (by kernel_rfl)) h
abbrev s_strong_plan : Stmt := topS 6
theorem sc_strong_plan : FnScope ["moves", "goal", "found", "steps", "place", "fresh", "deeds", "good", "k", "ends", "other"] ["moves", "goal"] (defScope s_strong_plan) := ⟨rfl, rfl, rfl, by decide +kernel, rfl, by decide +kernel, by decide +kernel⟩
def m_strong_plan (a : ((List (List (List Int))) × (List Int))) : Pg (List (Int × (Int × (Option Int)))) := Pg.outG (m_check_game a.1 >>= fun r1 => (Pg.dict a.2 (fun y2 => pure true) (fun y2 => (pure (y2))) (fun y2 => (pure (((0 : Int), (none : (Option Int)))))) >>= fun d3 => ((pure d3 : Pg (List (Int × (Int × (Option Int))))) >>= fun found_4 => ((pure (0 : Int) : Pg Int) >>= fun steps_5 => ((Pg.while' (found_4, steps_5) (fun s6 => (pure (true))) (fun s6 => ((pure (s6.2 + (1 : Int)) : Pg Int) >>= fun steps_8 => ((pure ([] : (List (Int × (Int × (Option Int))))) : Pg (List (Int × (Int × (Option Int))))) >>= fun fresh_9 => ((Pg.forc (enumZ a.1) fresh_9 (fun y11 s10 => (Pg.iteG (pure ((!(dget s6.1 y11.1).isSome))) ((Pg.comp (enumZ y11.2) (fun y13 => (Pg.comp y13.2 (fun y14 => pure true) (fun y14 => (pure ((dget s6.1 y14).isSome))) >>= fun l15 => pure (((l15).all id)))) (fun y13 => (pure (y13.1))) >>= fun l16 => ((pure l16 : Pg (List Int)) >>= fun good_17 => (Pg.iteG (pure ((!(good_17).isEmpty))) ((Pg.opt (atI good_17 (0 : Int)) >>= fun e20 => (Pg.ask ((s10).length < big) >>= fun _ => ((pure (dput s10 y11.1 (steps_8, (some e20))) : Pg (List (Int × (Int × (Option Int))))) >>= fun fresh_19 => (pure (Ctl.nx fresh_19))))) : Pg (Ctl (List (Int × (Int × (Option Int)))) (List (Int × (Int × (Option Int)))) (List (Int × (Int × (Option Int)))))) (pure (Ctl.nx s10)) (fun s18 => (pure (Ctl.nx s18)))))) : Pg (Ctl (List (Int × (Int × (Option Int)))) (List (Int × (Int × (Option Int)))) (List (Int × (Int × (Option Int)))))) (pure (Ctl.nx s10)) (fun s12 => (pure (Ctl.nx s12))))) : Pg (Ctl (List (Int × (Int × (Option Int)))) ((List (Int × (Int × (Option Int)))) × Int) (List (Int × (Int × (Option Int)))))) >>= Pg.seqG (fun s10 => (Pg.ifG (pure ((!(!(s10).isEmpty)))) (Pg.ask ((s6.1).length < 64) >>= fun _ => (Pg.dict (sortI ((s6.1).map (·.1))) (fun y21 => pure true) (fun y21 => (pure (y21))) (fun y21 => (Pg.opt (dget s6.1 y21) >>= fun e22 => (pure (e22)))) >>= fun d23 => (pure (Ctl.rt d23)))) (Pg.ask ((s6.1).length + (s10).length ≤ big) >>= fun _ => ((pure (dputs s6.1 s10) : Pg (List (Int × (Int × (Option Int))))) >>= fun found_24 => (pure (Ctl.nx (found_24, steps_8))))) : Pg (Ctl (List (Int × (Int × (Option Int)))) ((List (Int × (Int × (Option Int)))) × Int) ((List (Int × (Int × (Option Int)))) × Int)))))))) : Pg (Ctl (List (Int × (Int × (Option Int)))) Empty ((List (Int × (Int × (Option Int)))) × Int))) >>= Pg.seqG (fun s6 => Pg.fail))))))
set_option maxHeartbeats 4000000 in
theorem cal_strong_plan (D : Nz.DefK K mg "strong_plan" s_strong_plan ["moves", "goal"]) (md : Md mg) (c_check_game : Nz.Cal P w K mg base 1 "check_game" (Nz.spP (K := K) (f1 (rTup (rTup (rTup rInt)))) rNon (fun a => (m_check_game a).wp)) []) : Nz.Cal P w K mg base 2 "strong_plan" (Nz.spP (K := K) (fc (rTup (rTup (rTup rInt))) (f1 (rTup rInt))) (rDk kyI (rPr (fc rInt (f1 (rOpt rInt))))) (fun a => (m_strong_plan a).wp)) [] := by
  refine D.cal fun f fd F => F.ok sc_strong_plan (fun vs H Q E h => Nz.spP_len h) (fun cdv A outer s H vs Q E hr h => ?_)
  refine ⟨_, (pss_cons (ps_expr (Nz.pe_c c_check_game hr (by decide) (by rfl) (pa_cons (pv 0) pa_nil))) (pss_cons (ps_asg (pe_tup (pa_cons (pe_dc (own := [("place", 4)]) rfl sc_strong_plan.nd (pi_tK K (pv 1)) (blkOk_by (N := ["moves", "goal", "found", "steps", "place", "fresh", "deeds", "good", "k", "ends", "other"]) (sc := (defScope s_strong_plan)) (by decide +kernel)) (fun _ _ _ _ _ => (pg_name (i := 4) sc_strong_plan.nd rfl (Or.inl rfl) (Or.inr rfl))) (fun _ _ _ _ _ => pts_nil) (fun _ _ _ _ _ => (pv 4)) (fun _ _ _ _ _ => (pe_tup (pa_cons pe_int (pa_cons pe_non pa_nil))))) (pa_cons pe_int pa_nil))) (Nz.pg_tupK K 2 rfl (pgs_cons (pg_name (i := 2) sc_strong_plan.nd rfl (Or.inr rfl) (Or.inl rfl)) (pgs_cons (pg_name (i := 3) sc_strong_plan.nd rfl (Or.inl rfl) (Or.inr rfl)) pgs_nil)))) (pss_cons (ps_while PassesOwn.never (pt_val pe_bl) (pss_cons (ps_aug (i := 3) sc_strong_plan.nd rfl (Or.inl rfl) pe_int ip_add) (pss_cons (ps_set (i := 5) sc_strong_plan.nd rfl (Or.inl rfl) pe_dnewK) (pss_cons (ps_for PassesOwn.never rfl (pi_eTK K (by rfl) md.enumerate (pa_cons (pv 0) pa_nil)) (Nz.pg_tupK K 2 rfl (pgs_cons (pg_name (i := 4) sc_strong_plan.nd rfl (Or.inl rfl) (Or.inr rfl)) (pgs_cons (pg_name (i := 6) sc_strong_plan.nd rfl (Or.inl rfl) (Or.inr rfl)) pgs_nil))) (pss_cons (ps_if (pt_cmp (pc_dnotin (hu_of hr) (pv 4) (pv 2))) (pss_cons (ps_setLc (i := 7) rfl sc_strong_plan.nd rfl rfl (sw_true rfl rfl rfl rfl) (own := [("k", 8), ("ends", 9)]) (pi_eTK K (by rfl) md.enumerate (pa_cons (pv 6) pa_nil)) (blkOk_by (N := ["moves", "goal", "found", "steps", "place", "fresh", "deeds", "good", "k", "ends", "other"]) (sc := (defScope s_strong_plan)) (by decide +kernel)) (fun _ _ _ _ _ => (Nz.pg_tupK K 2 rfl (pgs_cons (pg_name (i := 8) sc_strong_plan.nd rfl (Or.inl rfl) (Or.inr rfl)) (pgs_cons (pg_name (i := 9) sc_strong_plan.nd rfl (Or.inl rfl) (Or.inr rfl)) pgs_nil)))) (fun _ _ _ _ _ => (pts_one (pt_val (pe_callB (cr_allK K) (by rfl) md.all (by decide +kernel) (pa_cons (pe_lc (own := [("other", 10)]) rfl sc_strong_plan.nd (pi_tK K (pv 9)) (blkOk_by (N := ["moves", "goal", "found", "steps", "place", "fresh", "deeds", "good", "k", "ends", "other"]) (sc := ⟨.function, [(Str.ofString ".0", NameKind.local), (Str.ofString "k", NameKind.local), (Str.ofString "ends", NameKind.local), (Str.ofString "all", NameKind.globalImplicit), (Str.ofString "found", NameKind.cell)], false, false, []⟩) (by decide +kernel)) (fun _ _ _ _ _ => (pg_name (i := 10) sc_strong_plan.nd rfl (Or.inl rfl) (Or.inr rfl))) (fun _ _ _ _ _ => pts_nil) (fun _ _ _ _ _ => (pe_cmp (pc_din (hu_of hr) (pv 10) (pv 2))))) pa_nil))))) (fun _ _ _ _ _ => (pv 8))) (pss_cons (ps_if (Nz.pt_truK K (pv 7)) (pss_cons (ps_dput (hu_of hr) (pv 5) (pv 4) (pe_tup (pa_cons (pv 3) (pa_cons (pe_ix (ix_lK K) (pv 7) pe_int (fun _ _ => rfl)) pa_nil))) (by rfl)) pss_nil) pss_nil) pss_nil)) pss_nil) pss_nil)) (pss_cons (ps_if (pt_not (pt_truD (pv 5) (fun _ => rfl))) (pss_cons (ps_ret (pe_dc (own := [("place", 4)]) rfl sc_strong_plan.nd (pi_lK K (pe_callB Nz.cr_sortedDI (by rfl) md.sorted (by decide +kernel) (pa_cons (pv 2) pa_nil))) (blkOk_by (N := ["moves", "goal", "found", "steps", "place", "fresh", "deeds", "good", "k", "ends", "other"]) (sc := (defScope s_strong_plan)) (by decide +kernel)) (fun _ _ _ _ _ => (pg_name (i := 4) sc_strong_plan.nd rfl (Or.inl rfl) (Or.inr rfl))) (fun _ _ _ _ _ => pts_nil) (fun _ _ _ _ _ => (pv 4)) (fun _ _ _ _ _ => (pe_dget (hu_of hr) (pv 2) (pv 4) (fun _ _ => rfl))))) pss_nil) pss_nil) (pss_cons (ps_expr (pe_dupd (pv 2) (pv 5) ⟨rfl, rfl, rfl, rfl⟩)) pss_nil)))))) pss_nil))), ?_⟩
  exact Nz.fnP (n := 9) (Nz.prm_c Nz.prm_1) rfl (fun a => (Nz.bj_drop (Nz.ev_call (Nz.ea_1 (Nz.ev_var rfl))) (fun _ => (Nz.bj_tup2 (Nz.us_d (Nz.ed_dc Nz.kyr_int (Nz.ir_iv (Nz.iv_tup (Nz.ev_var rfl))) Nz.gt_name (by decide) (fun y2 => Nz.et_yes) (fun y2 => (Nz.ev_var rfl)) (fun y2 => (Nz.ev_pr (Nz.ea_c (Nz.ev_int (i := 0)) (Nz.ea_1 (Nz.ev_none (r := rInt)))))))) (Nz.us_v (Nz.ev_int (i := 0))) (of_decide_eq_true rfl) (of_decide_eq_true rfl) (fun found_4 steps_5 => (Nz.bj_while (fS := (fun (s6 : ((List (Int × (Int × (Option Int)))) × Int)) => [(slV (rTup (rTup (rTup rInt))) a.1), (slV (rTup rInt) a.2), (slDk kyI (rPr (fc rInt (f1 (rOpt rInt)))) s6.1), (slV rInt s6.2), slAny, slAny, slAny, slAny, slAny, slAny, slAny])) (oS := [2]) (s0 := (found_4, steps_5)) (Nz.wk_k rfl (Nz.wk_k rfl (Nz.wk_o (by decide) (Nz.wk_k rfl (Nz.wk_a (Nz.wk_a (Nz.wk_a (Nz.wk_a (Nz.wk_a (Nz.wk_a (Nz.wk_a Nz.Wks.nil))))))))))) (by decide) (fun s6 => (Nz.et_B Nz.ev_bl)) (fun s6 => (Nz.bj_aug (g := fun i j => i + j) rfl (Nz.ev_int (i := 1)) (fun steps_8 => (Nz.bj_asgD (Nz.ed_new (e := kyI) (r := (rPr (fc rInt (f1 (rOpt rInt)))))) (of_decide_eq_true rfl) (fun fresh_9 => (Nz.bj_for (fS := (fun (s10 : (List (Int × (Int × (Option Int))))) => [(slV (rTup (rTup (rTup rInt))) a.1), (slV (rTup rInt) a.2), (slDk kyI (rPr (fc rInt (f1 (rOpt rInt)))) s6.1), (slV rInt steps_8), slAny, (slDk kyI (rPr (fc rInt (f1 (rOpt rInt)))) s10), slAny, slAny, slAny, slAny, slAny])) (oS := [2, 5]) (s0 := fresh_9) (Nz.iv_enumT (Nz.ev_var rfl)) (Nz.wk_k rfl (Nz.wk_k rfl (Nz.wk_o (by decide) (Nz.wk_k rfl (Nz.wk_a (Nz.wk_o (by decide) (Nz.wk_a (Nz.wk_a (Nz.wk_a (Nz.wk_a (Nz.wk_a Nz.Wks.nil))))))))))) (by decide) (fun s10 => (Nz.gt_tup rfl (Nz.gts_cons Nz.gt_name (fun _ => (Nz.gts_nil Nz.gt_name))))) (by decide) (fun s10 y11 => (Nz.bj_if (fM := (fun (s12 : (List (Int × (Int × (Option Int))))) => [(slV (rTup (rTup (rTup rInt))) a.1), (slV (rTup rInt) a.2), (slDk kyI (rPr (fc rInt (f1 (rOpt rInt)))) s6.1), (slV rInt steps_8), (slV rInt y11.1), (slDk kyI (rPr (fc rInt (f1 (rOpt rInt)))) s12), (slV (rTup (rTup rInt)) y11.2), slAny, slAny, slAny, slAny])) (oM := [2, 5]) (Nz.et_B (Nz.ev_dni Nz.kyr_int (Nz.ev_var rfl) (Nz.rd_own rfl))) (Nz.bj_asg (Nz.ev_l (Nz.el_lc (Nz.ir_iv (Nz.iv_enumT (Nz.ev_var rfl))) (Nz.gt_tup rfl (Nz.gts_cons Nz.gt_name (fun _ => (Nz.gts_nil Nz.gt_name)))) (by decide) (fun y13 => (Nz.et_B (Nz.ev_all (Nz.rl_l (Nz.el_lc (Nz.ir_iv (Nz.iv_tup (Nz.ev_var rfl))) Nz.gt_name (by decide) (fun y14 => Nz.et_yes) (fun y14 => (Nz.ev_din Nz.kyr_int (Nz.ev_var rfl) (Nz.rd_own rfl)))))))) (fun y13 => (Nz.ev_var rfl)))) (fun good_17 => (Nz.bj_if (fM := (fun (s18 : (List (Int × (Int × (Option Int))))) => [(slV (rTup (rTup (rTup rInt))) a.1), (slV (rTup rInt) a.2), (slDk kyI (rPr (fc rInt (f1 (rOpt rInt)))) s6.1), (slV rInt steps_8), (slV rInt y11.1), (slDk kyI (rPr (fc rInt (f1 (rOpt rInt)))) s18), (slV (rTup (rTup rInt)) y11.2), (slV (rLst rInt) good_17), slAny, slAny, slAny])) (oM := [2, 5]) (Nz.et_truS (Nz.rs_l (Nz.rl_ev (Nz.ev_var rfl)))) (Nz.bj_dput Nz.kyr_int (by decide) rfl (Nz.ev_var rfl) (Nz.ev_pr (Nz.ea_c (Nz.ev_var rfl) (Nz.ea_1 (Nz.ev_some Nz.nn_int (Nz.ev_ixL (Nz.rl_ev (Nz.ev_var rfl)) (Nz.ev_int (i := 0))))))) (fun fresh_19 => (Nz.bj_nx (s := fresh_19) (Nz.wk_k rfl (Nz.wk_k rfl (Nz.wk_o (by decide) (Nz.wk_k rfl (Nz.wk_k rfl (Nz.wk_o (by decide) (Nz.wk_k rfl (Nz.wk_k rfl (Nz.wk_a (Nz.wk_a (Nz.wk_a Nz.Wks.nil))))))))))) (by decide)))) (Nz.bj_nx (s := s10) (Nz.wk_k rfl (Nz.wk_k rfl (Nz.wk_o (by decide) (Nz.wk_k rfl (Nz.wk_k rfl (Nz.wk_o (by decide) (Nz.wk_k rfl (Nz.wk_k rfl (Nz.wk_a (Nz.wk_a (Nz.wk_a Nz.Wks.nil))))))))))) (by decide)) (fun s18 => (Nz.bj_nx (s := s18) (Nz.wk_k rfl (Nz.wk_k rfl (Nz.wk_o (by decide) (Nz.wk_k rfl (Nz.wk_k rfl (Nz.wk_o (by decide) (Nz.wk_k rfl (Nz.wk_a (Nz.wk_a (Nz.wk_a (Nz.wk_a Nz.Wks.nil))))))))))) (by decide)))))) (Nz.bj_nx (s := s10) (Nz.wk_k rfl (Nz.wk_k rfl (Nz.wk_o (by decide) (Nz.wk_k rfl (Nz.wk_k rfl (Nz.wk_o (by decide) (Nz.wk_k rfl (Nz.wk_a (Nz.wk_a (Nz.wk_a (Nz.wk_a Nz.Wks.nil))))))))))) (by decide)) (fun s12 => (Nz.bj_nx (s := s12) (Nz.wk_k rfl (Nz.wk_k rfl (Nz.wk_o (by decide) (Nz.wk_k rfl (Nz.wk_a (Nz.wk_o (by decide) (Nz.wk_a (Nz.wk_a (Nz.wk_a (Nz.wk_a (Nz.wk_a Nz.Wks.nil))))))))))) (by decide))))) (fun s10 => (Nz.bj_frzD (i := 5) (by decide) rfl (Nz.bj_ifD (Nz.et_not (Nz.et_truD (Nz.rd_ev (Nz.ev_var rfl)))) (Nz.bj_frzD (i := 2) (by decide) rfl (Nz.bj_seq (Nz.bj_ret (Nz.ev_d (Nz.ed_dc Nz.kyr_int (Nz.ir_iv (Nz.iv_list (Nz.ev_l (Nz.el_sortedD (Nz.rd_ev (Nz.ev_var rfl)))))) Nz.gt_name (by decide) (fun y21 => Nz.et_yes) (fun y21 => (Nz.ev_var rfl)) (fun y21 => (Nz.ev_dget Nz.kyr_int (Nz.rd_ev (Nz.ev_var rfl)) (Nz.ev_var rfl)))))))) (Nz.bj_seq0 (Nz.bj_upd (by decide) rfl (Nz.ev_var rfl) (fun found_24 => (Nz.bj_nx (s := (found_24, steps_8)) (Nz.wk_k rfl (Nz.wk_k rfl (Nz.wk_o (by decide) (Nz.wk_k rfl (Nz.wk_a (Nz.wk_a (Nz.wk_a (Nz.wk_a (Nz.wk_a (Nz.wk_a (Nz.wk_a Nz.Wks.nil))))))))))) (by decide)))))))))))))) (fun s6 => Nz.bj_dead))))))) (fun a k => Eq.mp (by kernel_rfl)) h
abbrev s_good_deed : Stmt := topS 8
theorem sc_good_deed : FnScope ["ends", "kept", "near", "other"] ["ends", "kept", "near"] (defScope s_good_deed) := ⟨rfl, rfl, rfl, by decide +kernel, rfl, by decide +kernel, by decide +kernel⟩
def m_good_deed {γ : Type} (a : ((List Int) × (List Int) × (List (Int × γ)))) : Pg Bool := Pg.outG (Pg.andG (Pg.comp a.1 (fun y1 => pure true) (fun y1 => (pure ((decide (y1 ∈ a.2.1))))) >>= fun l2 => (pure (((l2).all id)))) (Pg.comp a.1 (fun y3 => pure true) (fun y3 => (pure ((dget a.2.2 y3).isSome))) >>= fun l4 => (pure (((l4).any id)))) >>= fun b5 => (pure (Ctl.rt b5)))
set_option maxHeartbeats 4000000 in
theorem cal_good_deed {γ : Type} (rg : R K γ) (D : Nz.DefK K mg "good_deed" s_good_deed ["ends", "kept", "near"]) (md : Md mg) : Nz.Cal P w K mg base 1 "good_deed" (Nz.spP (K := K) (fc (rTup rInt) (fc (rLst rInt) (f1 (rDk kyI rg)))) rBl (fun a => (m_good_deed a).wp)) [] := by
  refine D.cal fun f fd F => F.ok sc_good_deed (fun vs H Q E h => Nz.spP_len h) (fun cdv A outer s H vs Q E hr h => ?_)
  refine ⟨_, (pss_cons (ps_ret (pe_and (pe_callB (cr_allK K) (by rfl) md.all (by decide +kernel) (pa_cons (pe_lc (own := [("other", 3)]) rfl sc_good_deed.nd (pi_tK K (pv 0)) (blkOk_by (N := ["ends", "kept", "near", "other"]) (sc := (defScope s_good_deed)) (by decide +kernel)) (fun _ _ _ _ _ => (pg_name (i := 3) sc_good_deed.nd rfl (Or.inl rfl) (Or.inr rfl))) (fun _ _ _ _ _ => pts_nil) (fun _ _ _ _ _ => (pe_cmpR (op_inK K) (pv 3) (pv 1) (by rfl)))) pa_nil)) (pe_one (pe_callB (cr_anyK K) (by rfl) md.any (by decide +kernel) (pa_cons (pe_lc (own := [("other", 3)]) rfl sc_good_deed.nd (pi_tK K (pv 0)) (blkOk_by (N := ["ends", "kept", "near", "other"]) (sc := (defScope s_good_deed)) (by decide +kernel)) (fun _ _ _ _ _ => (pg_name (i := 3) sc_good_deed.nd rfl (Or.inl rfl) (Or.inr rfl))) (fun _ _ _ _ _ => pts_nil) (fun _ _ _ _ _ => (pe_cmp (pc_din (hu_of hr) (pv 3) (pv 2))))) pa_nil))))) pss_nil), ?_⟩
  exact Nz.fnP (n := 1) (Nz.prm_c (Nz.prm_c Nz.prm_1)) rfl (fun a => (Nz.bj_ret (Nz.ev_and (Nz.ev_all (Nz.rl_l (Nz.el_lc (Nz.ir_iv (Nz.iv_tup (Nz.ev_var rfl))) Nz.gt_name (by decide) (fun y1 => Nz.et_yes) (fun y1 => (Nz.ev_inS Nz.fe_int (Nz.ev_var rfl) (Nz.rs_l (Nz.rl_ev (Nz.ev_var rfl)))))))) (Nz.ev_any (Nz.rl_l (Nz.el_lc (Nz.ir_iv (Nz.iv_tup (Nz.ev_var rfl))) Nz.gt_name (by decide) (fun y3 => Nz.et_yes) (fun y3 => (Nz.ev_din Nz.kyr_int (Nz.ev_var rfl) (Nz.rd_ev (Nz.ev_var rfl)))))))))) (fun a k => Eq.mp (by kernel_rfl)) h
abbrev s_cyclic_plan : Stmt := topS 7
theorem sc_cyclic_plan : FnScope ["moves", "goal", "kept", "near", "place", "steps", "is_new", "fresh", "ends", "found", "ahead", "other", "good", "k"] ["moves", "goal"] (defScope s_cyclic_plan) := ⟨rfl, rfl, rfl, by decide +kernel, rfl, by decide +kernel, by decide +kernel⟩
def m_cyclic_plan (a : ((List (List (List Int))) × (List Int))) : Pg (List (Int × (Option Int))) := Pg.outG (m_check_game a.1 >>= fun r1 => (Pg.ask (-100000 ≤ ((a.1).length : Int) ∧ ((a.1).length : Int) ≤ 100000) >>= fun _ => ((pure (rg ((a.1).length : Int)) : Pg (List Int)) >>= fun kept_2 => ((Pg.whileb kept_2 (fun s3 => (Pg.dict a.2 (fun y5 => pure ((decide (y5 ∈ s3)))) (fun y5 => (pure (y5))) (fun y5 => (pure ((0 : Int)))) >>= fun d6 => ((pure d6 : Pg (List (Int × Int))) >>= fun near_7 => ((pure (0 : Int) : Pg Int) >>= fun steps_8 => ((pure true : Pg Bool) >>= fun is_new_9 => ((Pg.while' (near_7, steps_8, is_new_9) (fun s10 => (pure (s10.2.2))) (fun s10 => ((pure (s10.2.1 + (1 : Int)) : Pg Int) >>= fun steps_12 => ((pure ([] : (List (Int × Int))) : Pg (List (Int × Int))) >>= fun fresh_13 => ((Pg.forc s3 fresh_13 (fun y15 s14 => (Pg.andG (pure ((!(dget s10.1 y15).isSome))) (Pg.opt (atI a.1 y15) >>= fun e16 => (Pg.comp e16 (fun y17 => pure true) (fun y17 => (m_good_deed (y17, s3, s10.1) >>= fun r18 => (pure (r18)))) >>= fun l19 => (pure (((l19).any id))))) >>= fun b20 => (Pg.iteG (pure (b20)) ((Pg.ask ((s14).length < big) >>= fun _ => ((pure (dput s14 y15 steps_12) : Pg (List (Int × Int))) >>= fun fresh_22 => (pure (Ctl.nx fresh_22)))) : Pg (Ctl (List (Int × (Option Int))) (List (Int × Int)) (List (Int × Int)))) (pure (Ctl.nx s14)) (fun s21 => (pure (Ctl.nx s21)))))) : Pg (Ctl (List (Int × (Option Int))) ((List (Int × Int)) × Int × Bool) (List (Int × Int)))) >>= Pg.seqG (fun s14 => (Pg.ask ((s10.1).length + (s14).length ≤ big) >>= fun _ => ((pure (dputs s10.1 s14) : Pg (List (Int × Int))) >>= fun near_23 => ((pure (decide ((0 : Int) < ((s14).length : Int))) : Pg Bool) >>= fun is_new_24 => (pure (Ctl.nx (near_23, steps_12, is_new_24))))))))))) : Pg (Ctl (List (Int × (Option Int))) ((List Int) × (List (Int × Int))) ((List (Int × Int)) × Int × Bool))) >>= Pg.seqG (fun s10 => (Pg.ifG (pure ((decide (((s10.1).length : Int) = ((s3).length : Int))))) (pure (Ctl.bk (s3, s10.1))) (Pg.ask ((s10.1).length < 64) >>= fun _ => ((pure (sortI ((s10.1).map (·.1))) : Pg (List Int)) >>= fun kept_25 => (pure (Ctl.nx kept_25)))) : Pg (Ctl (List (Int × (Option Int))) ((List Int) × (List (Int × Int))) (List Int)))))))))) : Pg (Ctl (List (Int × (Option Int))) Empty ((List Int) × (List (Int × Int))))) >>= Pg.seqG (fun s4 => ((pure ([] : (List (Int × (Option Int)))) : Pg (List (Int × (Option Int)))) >>= fun found_26 => ((Pg.forc s4.1 found_26 (fun y28 s27 => (Pg.dict ((s4.2).map (·.1)) (fun y29 => (Pg.opt (dget s4.2 y29) >>= fun e30 => (Pg.opt (dget s4.2 y28) >>= fun e31 => pure ((decide (e30 < e31)))))) (fun y29 => (pure (y29))) (fun y29 => (pure (true))) >>= fun d32 => ((pure d32 : Pg (List (Int × Bool))) >>= fun ahead_33 => (Pg.opt (atI a.1 y28) >>= fun e34 => (Pg.comp (enumZ e34) (fun y35 => (m_good_deed (y35.2, s4.1, ahead_33) >>= fun r36 => pure (r36))) (fun y35 => (pure (y35.1))) >>= fun l37 => ((pure l37 : Pg (List Int)) >>= fun good_38 => ((Pg.ifG (Pg.opt (dget s4.2 y28) >>= fun e40 => (pure ((decide (e40 = (0 : Int)))))) (pure ((none : (Option Int)))) (Pg.opt (atI good_38 (0 : Int)) >>= fun e41 => (pure ((some e41)))) : Pg (Option Int)) >>= fun c42 => (Pg.ask ((s27).length < big) >>= fun _ => ((pure (dput s27 y28 c42) : Pg (List (Int × (Option Int)))) >>= fun found_39 => (pure (Ctl.nx found_39))))))))))) : Pg (Ctl (List (Int × (Option Int))) Empty (List (Int × (Option Int))))) >>= Pg.seqG (fun s27 => (pure (Ctl.rt s27))))))))))
set_option maxHeartbeats 4000000 in
theorem cal_cyclic_plan (D : Nz.DefK K mg "cyclic_plan" s_cyclic_plan ["moves", "goal"]) (md : Md mg) (c_check_game : Nz.Cal P w K mg base 1 "check_game" (Nz.spP (K := K) (f1 (rTup (rTup (rTup rInt)))) rNon (fun a => (m_check_game a).wp)) []) (c_good_deed : ∀ {γ : Type} (rg : R K γ), Nz.Cal P w K mg base 1 "good_deed" (Nz.spP (K := K) (fc (rTup rInt) (fc (rLst rInt) (f1 (rDk kyI rg)))) rBl (fun a => (m_good_deed a).wp)) []) : Nz.Cal P w K mg base 2 "cyclic_plan" (Nz.spP (K := K) (fc (rTup (rTup (rTup rInt))) (f1 (rTup rInt))) (rDk kyI (rOpt rInt)) (fun a => (m_cyclic_plan a).wp)) [] := by
  refine D.cal fun f fd F => F.ok sc_cyclic_plan (fun vs H Q E h => Nz.spP_len h) (fun cdv A outer s H vs Q E hr h => ?_)
  refine ⟨_, (pss_cons (ps_expr (Nz.pe_c c_check_game hr (by decide) (by rfl) (pa_cons (pv 0) pa_nil))) (pss_cons (ps_set (i := 2) sc_cyclic_plan.nd rfl (Or.inr rfl) (pe_listRg rfl (by rfl) md.list (prg_1 (by rfl) md.range (pe_callB (cr_lenK K) (by rfl) md.len (by decide +kernel) (pa_cons (pv 0) pa_nil))))) (pss_cons (ps_while PassesOwn.never (pt_val pe_bl) (pss_cons (ps_set (i := 3) sc_cyclic_plan.nd rfl (Or.inr rfl) (pe_dc (own := [("place", 4)]) rfl sc_cyclic_plan.nd (pi_tK K (pv 1)) (blkOk_by (N := ["moves", "goal", "kept", "near", "place", "steps", "is_new", "fresh", "ends", "found", "ahead", "other", "good", "k"]) (sc := (defScope s_cyclic_plan)) (by decide +kernel)) (fun _ _ _ _ _ => (pg_name (i := 4) sc_cyclic_plan.nd rfl (Or.inl rfl) (Or.inr rfl))) (fun _ _ _ _ _ => (pts_one (pt_cmpR (op_inK K) (pv 4) (pv 2) (by rfl)))) (fun _ _ _ _ _ => (pv 4)) (fun _ _ _ _ _ => pe_int))) (pss_cons (ps_asg (pe_tup (pa_cons pe_int (pa_cons pe_bl pa_nil))) (Nz.pg_tupK K 2 rfl (pgs_cons (pg_name (i := 5) sc_cyclic_plan.nd rfl (Or.inl rfl) (Or.inr rfl)) (pgs_cons (pg_name (i := 6) sc_cyclic_plan.nd rfl (Or.inl rfl) (Or.inr rfl)) pgs_nil)))) (pss_cons (ps_while PassesOwn.never (pt_val (pv 6)) (pss_cons (ps_aug (i := 5) sc_cyclic_plan.nd rfl (Or.inl rfl) pe_int ip_add) (pss_cons (ps_set (i := 7) sc_cyclic_plan.nd rfl (Or.inl rfl) pe_dnewK) (pss_cons (ps_for PassesOwn.never rfl (pi_lK K (pv 2)) (pg_name (i := 4) sc_cyclic_plan.nd rfl (Or.inr rfl) (Or.inl rfl)) (pss_cons (ps_if (PW.pt (pw_and (pt_cmp (pc_dnotin (hu_of hr) (pv 4) (pv 3))) (pw_and1 (pt_val (pe_callB (cr_anyK K) (by rfl) md.any (by decide +kernel) (pa_cons (pe_lc (own := [("ends", 8)]) rfl sc_cyclic_plan.nd (pi_tK K (pe_ix (ix_tK K) (pv 0) (pv 4) (fun _ _ => rfl))) (blkOk_by (N := ["moves", "goal", "kept", "near", "place", "steps", "is_new", "fresh", "ends", "found", "ahead", "other", "good", "k"]) (sc := (defScope s_cyclic_plan)) (by decide +kernel)) (fun _ _ _ _ _ => (pg_name (i := 8) sc_cyclic_plan.nd rfl (Or.inl rfl) (Or.inr rfl))) (fun _ _ _ _ _ => pts_nil) (fun _ _ _ _ _ => (Nz.pe_c (c_good_deed rInt) hr (by decide) (by rfl) (pa_cons (pv 8) (pa_cons (pv 2) (pa_cons (pv 3) pa_nil)))))) pa_nil)))))) (pss_cons (ps_dput (hu_of hr) (pv 7) (pv 4) (pv 5) (by rfl)) pss_nil) pss_nil) pss_nil)) (pss_cons (ps_expr (pe_dupd (pv 3) (pv 7) ⟨rfl, rfl, rfl, rfl⟩)) (pss_cons (ps_set (i := 6) sc_cyclic_plan.nd rfl (Or.inl rfl) (pe_cmpR op_gt (pe_callB call_lenDR (by rfl) md.len (by decide +kernel) (pa_cons (pv 7) pa_nil)) pe_int (by rfl))) pss_nil)))))) (pss_cons (ps_if (pt_cmpR op_eq (pe_callB call_lenDR (by rfl) md.len (by decide +kernel) (pa_cons (pv 3) pa_nil)) (pe_callB (cr_lenK K) (by rfl) md.len (by decide +kernel) (pa_cons (pv 2) pa_nil)) (by rfl)) (pss_cons ps_break pss_nil) pss_nil) (pss_cons (ps_set (i := 2) sc_cyclic_plan.nd rfl (Or.inr rfl) (pe_callB Nz.cr_sortedDI (by rfl) md.sorted (by decide +kernel) (pa_cons (pv 3) pa_nil))) pss_nil)))))) (pss_cons (ps_set (i := 9) sc_cyclic_plan.nd rfl (Or.inl rfl) pe_dnewK) (pss_cons (ps_for PassesOwn.never rfl (pi_lK K (pv 2)) (pg_name (i := 4) sc_cyclic_plan.nd rfl (Or.inr rfl) (Or.inl rfl)) (pss_cons (ps_set (i := 10) sc_cyclic_plan.nd rfl (Or.inr rfl) (pe_lk (pe_dc (own := [("other", 11)]) rfl sc_cyclic_plan.nd (pi_keys (pv 3)) (blkOk_by (N := ["moves", "goal", "kept", "near", "place", "steps", "is_new", "fresh", "ends", "found", "ahead", "other", "good", "k"]) (sc := (defScope s_cyclic_plan)) (by decide +kernel)) (fun _ _ _ _ _ => (pg_name (i := 11) sc_cyclic_plan.nd rfl (Or.inl rfl) (Or.inr rfl))) (fun _ _ _ _ _ => (pts_one (pt_cmpR op_lt (pe_dget (hu_of hr) (pv 3) (pv 11) (fun _ _ => rfl)) (pe_dget (hu_of hr) (pv 3) (pv 4) (fun _ _ => rfl)) (by rfl)))) (fun _ _ _ _ _ => (pv 11)) (fun _ _ _ _ _ => pe_bl)))) (pss_cons (ps_setLc (i := 12) rfl sc_cyclic_plan.nd rfl rfl (sw_true rfl rfl rfl rfl) (own := [("k", 13), ("ends", 8)]) (pi_eTK K (by rfl) md.enumerate (pa_cons (pe_ix (ix_tK K) (pv 0) (pv 4) (fun _ _ => rfl)) pa_nil)) (blkOk_by (N := ["moves", "goal", "kept", "near", "place", "steps", "is_new", "fresh", "ends", "found", "ahead", "other", "good", "k"]) (sc := (defScope s_cyclic_plan)) (by decide +kernel)) (fun _ _ _ _ _ => (Nz.pg_tupK K 2 rfl (pgs_cons (pg_name (i := 13) sc_cyclic_plan.nd rfl (Or.inl rfl) (Or.inr rfl)) (pgs_cons (pg_name (i := 8) sc_cyclic_plan.nd rfl (Or.inl rfl) (Or.inr rfl)) pgs_nil)))) (fun _ _ _ _ _ => (pts_one (pt_val (Nz.pe_c (c_good_deed rBl) hr (by decide) (by rfl) (pa_cons (pv 8) (pa_cons (pv 2) (pa_cons (pv 10) pa_nil))))))) (fun _ _ _ _ _ => (pv 13))) (pss_cons (ps_dput (hu_of hr) (pv 9) (pv 4) (pe_ifExp (pt_cmpR op_eq (pe_dget (hu_of hr) (pv 3) (pv 4) (fun _ _ => rfl)) pe_int (by rfl)) pe_non (pe_ix (ix_lK K) (pv 12) pe_int (fun _ _ => rfl))) (by rfl)) pss_nil)))) (pss_cons (ps_ret (pv 9)) pss_nil)))))), ?_⟩
  exact Nz.fnP (n := 12) (Nz.prm_c Nz.prm_1) rfl (fun a => (Nz.bj_drop (Nz.ev_call (Nz.ea_1 (Nz.ev_var rfl))) (fun _ => (Nz.bj_asg (Nz.ev_l (Nz.el_listRg1 (Nz.ev_lenS (Nz.rs_t (Nz.rt_ev (Nz.ev_var rfl)))))) (fun kept_2 => (Nz.bj_whileB (fS := (fun (s3 : (List Int)) => [(slV (rTup (rTup (rTup rInt))) a.1), (slV (rTup rInt) a.2), (slV (rLst rInt) s3), slAny, slAny, slAny, slAny, slAny, slAny, slAny, slAny, slAny, slAny, slAny])) (oS := []) (fT := (fun (s4 : ((List Int) × (List (Int × Int)))) => [(slV (rTup (rTup (rTup rInt))) a.1), (slV (rTup rInt) a.2), (slV (rLst rInt) s4.1), (slV (rDk kyI rInt) s4.2), slAny, slAny, slAny, slAny, slAny, slAny, slAny, slAny, slAny, slAny])) (oT := []) (s0 := kept_2) (Nz.wk_k rfl (Nz.wk_k rfl (Nz.wk_k rfl (Nz.wk_a (Nz.wk_a (Nz.wk_a (Nz.wk_a (Nz.wk_a (Nz.wk_a (Nz.wk_a (Nz.wk_a (Nz.wk_a (Nz.wk_a (Nz.wk_a Nz.Wks.nil)))))))))))))) (by decide) (fun s3 => Nz.et_B Nz.ev_bl) (fun s3 => (Nz.bj_asgD (Nz.ed_dc Nz.kyr_int (Nz.ir_iv (Nz.iv_tup (Nz.ev_var rfl))) Nz.gt_name (by decide) (fun y5 => (Nz.et_T (Nz.ev_inS Nz.fe_int (Nz.ev_var rfl) (Nz.rs_l (Nz.rl_ev (Nz.ev_var rfl)))))) (fun y5 => (Nz.ev_var rfl)) (fun y5 => (Nz.ev_int (i := 0)))) (of_decide_eq_true rfl) (fun near_7 => (Nz.bj_tup2 (Nz.us_v (Nz.ev_int (i := 0))) (Nz.us_v Nz.ev_bl) (of_decide_eq_true rfl) (of_decide_eq_true rfl) (fun steps_8 is_new_9 => (Nz.bj_while (fS := (fun (s10 : ((List (Int × Int)) × Int × Bool)) => [(slV (rTup (rTup (rTup rInt))) a.1), (slV (rTup rInt) a.2), (slV (rLst rInt) s3), (slDk kyI rInt s10.1), slAny, (slV rInt s10.2.1), (slV rBl s10.2.2), slAny, slAny, slAny, slAny, slAny, slAny, slAny])) (oS := [3]) (s0 := (near_7, steps_8, is_new_9)) (Nz.wk_k rfl (Nz.wk_k rfl (Nz.wk_k rfl (Nz.wk_o (by decide) (Nz.wk_a (Nz.wk_k rfl (Nz.wk_k rfl (Nz.wk_a (Nz.wk_a (Nz.wk_a (Nz.wk_a (Nz.wk_a (Nz.wk_a (Nz.wk_a Nz.Wks.nil)))))))))))))) (by decide) (fun s10 => (Nz.et_B (Nz.ev_var rfl))) (fun s10 => (Nz.bj_aug (g := fun i j => i + j) rfl (Nz.ev_int (i := 1)) (fun steps_12 => (Nz.bj_asgD (Nz.ed_new (e := kyI) (r := rInt)) (of_decide_eq_true rfl) (fun fresh_13 => (Nz.bj_for (fS := (fun (s14 : (List (Int × Int))) => [(slV (rTup (rTup (rTup rInt))) a.1), (slV (rTup rInt) a.2), (slV (rLst rInt) s3), (slDk kyI rInt s10.1), slAny, (slV rInt steps_12), (slV rBl s10.2.2), (slDk kyI rInt s14), slAny, slAny, slAny, slAny, slAny, slAny])) (oS := [3, 7]) (s0 := fresh_13) (Nz.iv_list (Nz.ev_var rfl)) (Nz.wk_k rfl (Nz.wk_k rfl (Nz.wk_k rfl (Nz.wk_o (by decide) (Nz.wk_a (Nz.wk_k rfl (Nz.wk_k rfl (Nz.wk_o (by decide) (Nz.wk_a (Nz.wk_a (Nz.wk_a (Nz.wk_a (Nz.wk_a (Nz.wk_a Nz.Wks.nil)))))))))))))) (by decide) (fun s14 => Nz.gt_name) (by decide) (fun s14 y15 => (Nz.bj_if (fM := (fun (s21 : (List (Int × Int))) => [(slV (rTup (rTup (rTup rInt))) a.1), (slV (rTup rInt) a.2), (slV (rLst rInt) s3), (slDk kyI rInt s10.1), (slV rInt y15), (slV rInt steps_12), (slV rBl s10.2.2), (slDk kyI rInt s21), slAny, slAny, slAny, slAny, slAny, slAny])) (oM := [3, 7]) (Nz.et_and (Nz.et_B (Nz.ev_dni Nz.kyr_int (Nz.ev_var rfl) (Nz.rd_own rfl))) (Nz.et_B (Nz.ev_any (Nz.rl_l (Nz.el_lc (Nz.ir_iv (Nz.iv_tup (Nz.ev_ixT (Nz.rt_ev (Nz.ev_var rfl)) (Nz.ev_var rfl)))) Nz.gt_name (by decide) (fun y17 => Nz.et_yes) (fun y17 => (Nz.ev_thawD Nz.flat_bl (i := 3) rfl (Nz.ev_call (Nz.ea_c (Nz.ev_var rfl) (Nz.ea_c (Nz.ev_var rfl) (Nz.ea_1 (Nz.ev_var rfl)))))))))))) (Nz.bj_dput Nz.kyr_int (by decide) rfl (Nz.ev_var rfl) (Nz.ev_var rfl) (fun fresh_22 => (Nz.bj_nx (s := fresh_22) (Nz.wk_k rfl (Nz.wk_k rfl (Nz.wk_k rfl (Nz.wk_o (by decide) (Nz.wk_k rfl (Nz.wk_k rfl (Nz.wk_k rfl (Nz.wk_o (by decide) (Nz.wk_a (Nz.wk_a (Nz.wk_a (Nz.wk_a (Nz.wk_a (Nz.wk_a Nz.Wks.nil)))))))))))))) (by decide)))) (Nz.bj_nx (s := s14) (Nz.wk_k rfl (Nz.wk_k rfl (Nz.wk_k rfl (Nz.wk_o (by decide) (Nz.wk_k rfl (Nz.wk_k rfl (Nz.wk_k rfl (Nz.wk_o (by decide) (Nz.wk_a (Nz.wk_a (Nz.wk_a (Nz.wk_a (Nz.wk_a (Nz.wk_a Nz.Wks.nil)))))))))))))) (by decide)) (fun s21 => (Nz.bj_nx (s := s21) (Nz.wk_k rfl (Nz.wk_k rfl (Nz.wk_k rfl (Nz.wk_o (by decide) (Nz.wk_a (Nz.wk_k rfl (Nz.wk_k rfl (Nz.wk_o (by decide) (Nz.wk_a (Nz.wk_a (Nz.wk_a (Nz.wk_a (Nz.wk_a (Nz.wk_a Nz.Wks.nil)))))))))))))) (by decide))))) (fun s14 => (Nz.bj_frzD (i := 7) (by decide) rfl (Nz.bj_upd (by decide) rfl (Nz.ev_var rfl) (fun near_23 => (Nz.bj_asg (Nz.ev_B0 (g := fun i j => decide (j < i)) (Nz.ev_lenD (Nz.rd_ev (Nz.ev_var rfl))) (Nz.ev_int (i := 0))) (fun is_new_24 => (Nz.bj_nx (s := (near_23, steps_12, is_new_24)) (Nz.wk_k rfl (Nz.wk_k rfl (Nz.wk_k rfl (Nz.wk_o (by decide) (Nz.wk_a (Nz.wk_k rfl (Nz.wk_k rfl (Nz.wk_a (Nz.wk_a (Nz.wk_a (Nz.wk_a (Nz.wk_a (Nz.wk_a (Nz.wk_a Nz.Wks.nil)))))))))))))) (by decide)))))))))))))) (fun s10 => (Nz.bj_frzD (i := 3) (by decide) rfl (Nz.bj_ifD (Nz.et_T (Nz.ev_eqI (Nz.ev_lenD (Nz.rd_ev (Nz.ev_var rfl))) (Nz.ev_lenS (Nz.rs_l (Nz.rl_ev (Nz.ev_var rfl)))))) (Nz.bj_seq (Nz.bj_brk (s := (s3, s10.1)) (Nz.wk_k rfl (Nz.wk_k rfl (Nz.wk_k rfl (Nz.wk_k rfl (Nz.wk_a (Nz.wk_a (Nz.wk_a (Nz.wk_a (Nz.wk_a (Nz.wk_a (Nz.wk_a (Nz.wk_a (Nz.wk_a (Nz.wk_a Nz.Wks.nil)))))))))))))) (by decide))) (Nz.bj_seq0 (Nz.bj_asg (Nz.ev_l (Nz.el_sortedD (Nz.rd_ev (Nz.ev_var rfl)))) (fun kept_25 => (Nz.bj_nx (s := kept_25) (Nz.wk_k rfl (Nz.wk_k rfl (Nz.wk_k rfl (Nz.wk_a (Nz.wk_a (Nz.wk_a (Nz.wk_a (Nz.wk_a (Nz.wk_a (Nz.wk_a (Nz.wk_a (Nz.wk_a (Nz.wk_a (Nz.wk_a Nz.Wks.nil)))))))))))))) (by decide)))))))))))))) (fun s4 => (Nz.bj_asgD (Nz.ed_new (e := kyI) (r := (rOpt rInt))) (of_decide_eq_true rfl) (fun found_26 => (Nz.bj_for (fS := (fun (s27 : (List (Int × (Option Int)))) => [(slV (rTup (rTup (rTup rInt))) a.1), (slV (rTup rInt) a.2), (slV (rLst rInt) s4.1), (slV (rDk kyI rInt) s4.2), slAny, slAny, slAny, slAny, slAny, (slDk kyI (rOpt rInt) s27), slAny, slAny, slAny, slAny])) (oS := [9]) (s0 := found_26) (Nz.iv_list (Nz.ev_var rfl)) (Nz.wk_k rfl (Nz.wk_k rfl (Nz.wk_k rfl (Nz.wk_k rfl (Nz.wk_a (Nz.wk_a (Nz.wk_a (Nz.wk_a (Nz.wk_a (Nz.wk_o (by decide) (Nz.wk_a (Nz.wk_a (Nz.wk_a (Nz.wk_a Nz.Wks.nil)))))))))))))) (by decide) (fun s27 => Nz.gt_name) (by decide) (fun s27 y28 => (Nz.bj_asg (Nz.ev_d (Nz.ed_lk Nz.lk_val (i := 3) rfl (Nz.ed_dc Nz.kyr_int (Nz.ir_keysF Nz.kyw_int rfl) Nz.gt_name (by decide) (fun y29 => (Nz.et_T (Nz.ev_B0 (g := fun i j => decide (i < j)) (Nz.ev_dget Nz.kyr_int (Nz.rd_fz rfl) (Nz.ev_var rfl)) (Nz.ev_dget Nz.kyr_int (Nz.rd_fz rfl) (Nz.ev_var rfl))))) (fun y29 => (Nz.ev_var rfl)) (fun y29 => Nz.ev_bl)))) (fun ahead_33 => (Nz.bj_asg (Nz.ev_l (Nz.el_lc (Nz.ir_iv (Nz.iv_enumT (Nz.ev_ixT (Nz.rt_ev (Nz.ev_var rfl)) (Nz.ev_var rfl)))) (Nz.gt_tup rfl (Nz.gts_cons Nz.gt_name (fun _ => (Nz.gts_nil Nz.gt_name)))) (by decide) (fun y35 => (Nz.et_B (Nz.ev_call (Nz.ea_c (Nz.ev_var rfl) (Nz.ea_c (Nz.ev_var rfl) (Nz.ea_1 (Nz.ev_var rfl))))))) (fun y35 => (Nz.ev_var rfl)))) (fun good_38 => (Nz.bj_dput Nz.kyr_int (by decide) rfl (Nz.ev_var rfl) (Nz.ev_if (Nz.et_T (Nz.ev_eqI (Nz.ev_dget Nz.kyr_int (Nz.rd_ev (Nz.ev_var rfl)) (Nz.ev_var rfl)) (Nz.ev_int (i := 0)))) (Nz.ev_none (r := rInt)) (Nz.ev_some Nz.nn_int (Nz.ev_ixL (Nz.rl_ev (Nz.ev_var rfl)) (Nz.ev_int (i := 0))))) (fun found_39 => (Nz.bj_nx (s := found_39) (Nz.wk_k rfl (Nz.wk_k rfl (Nz.wk_k rfl (Nz.wk_k rfl (Nz.wk_a (Nz.wk_a (Nz.wk_a (Nz.wk_a (Nz.wk_a (Nz.wk_o (by decide) (Nz.wk_a (Nz.wk_a (Nz.wk_a (Nz.wk_a Nz.Wks.nil)))))))))))))) (by decide))))))))) (fun s27 => (Nz.bj_frzD (i := 9) (by decide) rfl (Nz.bj_ret (Nz.ev_var rfl)))))))))))))) (fun a k => Eq.mp (by kernel_rfl)) h
abbrev s_takes_strong : Stmt := topS 9
theorem sc_takes_strong : FnScope ["moves", "goal", "plan", "place", "steps", "deed", "other"] ["moves", "goal", "plan"] (defScope s_takes_strong) := ⟨rfl, rfl, rfl, by decide +kernel, rfl, by decide +kernel, by decide +kernel⟩
def m_takes_strong (a : ((List (List (List Int))) × (List Int) × (List (Int × (Int × (Option Int)))))) : Pg Bool := Pg.outG (m_check_game a.1 >>= fun r1 => ((Pg.forc a.2.2 () (fun y3 s2 => (Pg.orG (Pg.andG (pure (decide ((0 : Int) ≤ y3.1))) (pure (decide (y3.1 < ((a.1).length : Int)))) >>= fun b4 => (pure ((!b4)))) (Pg.orG (pure ((decide (y3.2.1 < (0 : Int))))) (Pg.andG (pure ((decide (y3.2.1 = (0 : Int))))) (pure ((!decide (y3.1 ∈ a.2.1)))) >>= fun b5 => (pure (b5)))) >>= fun b6 => (Pg.ifG (pure (b6)) (pure (Ctl.rt false)) (Pg.iteG (pure ((decide ((0 : Int) < y3.2.1)))) ((Pg.orG (pure ((y3.2.2).isNone)) (Pg.opt y3.2.2 >>= fun o8 => (Pg.andG (pure (decide ((0 : Int) ≤ o8))) (Pg.opt (atI a.1 y3.1) >>= fun e9 => (pure (decide (o8 < ((e9).length : Int))))) >>= fun b10 => (pure ((!b10))))) >>= fun b11 => (Pg.ifG (pure (b11)) (pure (Ctl.rt false)) (Pg.opt (atI a.1 y3.1) >>= fun e12 => (Pg.opt y3.2.2 >>= fun o13 => (Pg.opt (atI e12 o13) >>= fun e14 => (Pg.comp e14 (fun y15 => pure true) (fun y15 => (Pg.andG (pure ((dget a.2.2 y15).isSome)) (Pg.opt (dget a.2.2 y15) >>= fun e16 => (pure ((decide (e16.1 < y3.2.1))))) >>= fun b17 => (pure (b17)))) >>= fun l18 => (Pg.ifG (pure ((!((l18).all id)))) (pure (Ctl.rt false)) (pure (Ctl.nx ())) : Pg (Ctl Bool Unit Unit)))))) : Pg (Ctl Bool Unit Unit))) : Pg (Ctl Bool Unit Unit)) (pure (Ctl.nx ())) (fun s7 => (pure (Ctl.nx ())))) : Pg (Ctl Bool Unit Unit)))) : Pg (Ctl Bool Empty Unit)) >>= Pg.seqG (fun s2 => (pure (Ctl.rt true)))))
set_option maxHeartbeats 4000000 in
theorem cal_takes_strong (D : Nz.DefK K mg "takes_strong" s_takes_strong ["moves", "goal", "plan"]) (md : Md mg) (c_check_game : Nz.Cal P w K mg base 1 "check_game" (Nz.spP (K := K) (f1 (rTup (rTup (rTup rInt)))) rNon (fun a => (m_check_game a).wp)) []) : Nz.Cal P w K mg base 2 "takes_strong" (Nz.spP (K := K) (fc (rTup (rTup (rTup rInt))) (fc (rTup rInt) (f1 (rDk kyI (rPr (fc rInt (f1 (rOpt rInt)))))))) rBl (fun a => (m_takes_strong a).wp)) [] := by
  refine D.cal fun f fd F => F.ok sc_takes_strong (fun vs H Q E h => Nz.spP_len h) (fun cdv A outer s H vs Q E hr h => ?_)
  refine ⟨_, (pss_cons (ps_expr (Nz.pe_c c_check_game hr (by decide) (by rfl) (pa_cons (pv 0) pa_nil))) (pss_cons (ps_lk (ps_for PassesOwn.never rfl (pi_items (pv 2)) (Nz.pg_tupK K 2 rfl (pgs_cons (pg_name (i := 3) sc_takes_strong.nd rfl (Or.inl rfl) (Or.inr rfl)) (pgs_cons (Nz.pg_tupK K 2 rfl (pgs_cons (pg_name (i := 4) sc_takes_strong.nd rfl (Or.inr rfl) (Or.inl rfl)) (pgs_cons (pg_name (i := 5) sc_takes_strong.nd rfl (Or.inl rfl) (Or.inr rfl)) pgs_nil))) pgs_nil))) (pss_cons (ps_if (PW.pt (pw_or (pt_not (pt_chain op_le op_lt pe_int (pv 3) (pe_callB (cr_lenK K) (by rfl) md.len (by decide +kernel) (pa_cons (pv 0) pa_nil)))) (pw_or (pt_cmpR op_lt (pv 4) pe_int (by rfl)) (pw_or1 (PW.pt (pw_and (pt_cmpR op_eq (pv 4) pe_int (by rfl)) (pw_and1 (pt_cmpR (op_niK K) (pv 3) (pv 1) (by rfl))))))))) (pss_cons (ps_ret pe_bl) pss_nil) pss_nil) (pss_cons (ps_if (pt_cmpR op_gt (pv 4) pe_int (by rfl)) (pss_cons (ps_if (PW.pt (pw_or (pt_cmp (pc_isN (pv 5))) (pw_or1 (pt_not (pt_chain op_le op_lt pe_int (pv 5) (pe_callB (cr_lenK K) (by rfl) md.len (by decide +kernel) (pa_cons (pe_ix (ix_tK K) (pv 0) (pv 3) (fun _ _ => rfl)) pa_nil))))))) (pss_cons (ps_ret pe_bl) pss_nil) pss_nil) (pss_cons (ps_if (pt_not (pt_val (pe_callB (cr_allK K) (by rfl) md.all (by decide +kernel) (pa_cons (pe_lc (own := [("other", 6)]) rfl sc_takes_strong.nd (pi_tK K (pe_ix (ix_tK K) (pe_ix (ix_tK K) (pv 0) (pv 3) (fun _ _ => rfl)) (pv 5) (fun _ _ => rfl))) (blkOk_by (N := ["moves", "goal", "plan", "place", "steps", "deed", "other"]) (sc := (defScope s_takes_strong)) (by decide +kernel)) (fun _ _ _ _ _ => (pg_name (i := 6) sc_takes_strong.nd rfl (Or.inl rfl) (Or.inr rfl))) (fun _ _ _ _ _ => pts_nil) (fun _ _ _ _ _ => (pe_and (pe_cmp (pc_din (hu_of hr) (pv 6) (pv 2))) (pe_one (pe_cmpR op_lt (pe_ix (ix_tK K) (pe_dget (hu_of hr) (pv 2) (pv 6) (fun _ _ => rfl)) pe_int (fun _ _ => rfl)) (pv 4) (by rfl)))))) pa_nil)))) (pss_cons (ps_ret pe_bl) pss_nil) pss_nil) pss_nil)) pss_nil) pss_nil)))) (pss_cons (ps_ret pe_bl) pss_nil))), ?_⟩
  exact Nz.fnP (n := 4) (Nz.prm_c (Nz.prm_c Nz.prm_1)) rfl (fun a => (Nz.bj_drop (Nz.ev_call (Nz.ea_1 (Nz.ev_var rfl))) (fun _ => (Nz.bj_forK (fS := (fun (s2 : Unit) => [(slV (rTup (rTup (rTup rInt))) a.1), (slV (rTup rInt) a.2.1), (slV (rDk kyI (rPr (fc rInt (f1 (rOpt rInt))))) a.2.2), slAny, slAny, slAny, slAny])) (oS := []) (s0 := ()) rfl (Nz.kw_items Nz.kyw_int) (Nz.wk_k rfl (Nz.wk_k rfl (Nz.wk_k rfl (Nz.wk_a (Nz.wk_a (Nz.wk_a (Nz.wk_a Nz.Wks.nil))))))) (by decide) (fun s2 => (Nz.gt_tup rfl (Nz.gts_cons Nz.gt_name (fun _ => (Nz.gts_nil (Nz.gt_tup rfl (Nz.gts_cons Nz.gt_name (fun _ => (Nz.gts_nil Nz.gt_name))))))))) (by decide) (fun s2 y3 => (Nz.bj_ifD (Nz.et_or (Nz.et_not (Nz.et_T (Nz.ev_chain (g := fun i j => decide (i ≤ j)) (g' := fun i j => decide (i < j)) (Nz.ev_int (i := 0)) (Nz.ev_var rfl) (Nz.ev_lenS (Nz.rs_t (Nz.rt_ev (Nz.ev_var rfl))))))) (Nz.et_or (Nz.et_T (Nz.ev_B0 (g := fun i j => decide (i < j)) (Nz.ev_var rfl) (Nz.ev_int (i := 0)))) (Nz.et_and (Nz.et_T (Nz.ev_eqI (Nz.ev_var rfl) (Nz.ev_int (i := 0)))) (Nz.et_T (Nz.ev_niS Nz.fe_int (Nz.ev_var rfl) (Nz.rs_t (Nz.rt_ev (Nz.ev_var rfl)))))))) (Nz.bj_seq (Nz.bj_ret Nz.ev_bl)) (Nz.bj_seq0 (Nz.bj_if (fM := (fun (s7 : Unit) => [(slV (rTup (rTup (rTup rInt))) a.1), (slV (rTup rInt) a.2.1), (slV (rDk kyI (rPr (fc rInt (f1 (rOpt rInt))))) a.2.2), (slV rInt y3.1), (slV rInt y3.2.1), (slV (rOpt rInt) y3.2.2), slAny])) (oM := []) (Nz.et_T (Nz.ev_B0 (g := fun i j => decide (j < i)) (Nz.ev_var rfl) (Nz.ev_int (i := 0)))) (Nz.bj_ifD (Nz.et_or (Nz.et_B (Nz.ev_isN (Nz.ev_var rfl))) (Nz.et_not (Nz.et_T (Nz.ev_chain (g := fun i j => decide (i ≤ j)) (g' := fun i j => decide (i < j)) (Nz.ev_int (i := 0)) (Nz.ev_get (Nz.ev_var rfl)) (Nz.ev_lenS (Nz.rs_t (Nz.rt_ev (Nz.ev_ixT (Nz.rt_ev (Nz.ev_var rfl)) (Nz.ev_var rfl))))))))) (Nz.bj_seq (Nz.bj_ret Nz.ev_bl)) (Nz.bj_seq0 (Nz.bj_ifD (Nz.et_not (Nz.et_B (Nz.ev_all (Nz.rl_l (Nz.el_lc (Nz.ir_iv (Nz.iv_tup (Nz.ev_ixT (Nz.rt_ev (Nz.ev_ixT (Nz.rt_ev (Nz.ev_var rfl)) (Nz.ev_var rfl))) (Nz.ev_get (Nz.ev_var rfl))))) Nz.gt_name (by decide) (fun y15 => Nz.et_yes) (fun y15 => (Nz.ev_and (Nz.ev_din Nz.kyr_int (Nz.ev_var rfl) (Nz.rd_ev (Nz.ev_var rfl))) (Nz.ev_B0 (g := fun i j => decide (i < j)) (Nz.ev_fld (i := 0) Nz.fld_0 (Nz.ev_dget Nz.kyr_int (Nz.rd_ev (Nz.ev_var rfl)) (Nz.ev_var rfl))) (Nz.ev_var rfl))))))))) (Nz.bj_seq (Nz.bj_ret Nz.ev_bl)) (Nz.bj_seq0 (Nz.bj_nx (s := ()) (Nz.wk_k rfl (Nz.wk_k rfl (Nz.wk_k rfl (Nz.wk_k rfl (Nz.wk_k rfl (Nz.wk_k rfl (Nz.wk_a Nz.Wks.nil))))))) (by decide)))))) (Nz.bj_nx (s := ()) (Nz.wk_k rfl (Nz.wk_k rfl (Nz.wk_k rfl (Nz.wk_k rfl (Nz.wk_k rfl (Nz.wk_k rfl (Nz.wk_a Nz.Wks.nil))))))) (by decide)) (fun s7 => (Nz.bj_nx (s := ()) (Nz.wk_k rfl (Nz.wk_k rfl (Nz.wk_k rfl (Nz.wk_a (Nz.wk_a (Nz.wk_a (Nz.wk_a Nz.Wks.nil))))))) (by decide))))))) (fun s2 => (Nz.bj_ret Nz.ev_bl)))))) (fun a k => Eq.mp (by kernel_rfl)) h
abbrev s_takes_cyclic : Stmt := topS 10
theorem sc_takes_cyclic : FnScope ["moves", "goal", "plan", "place", "deed", "other", "far", "at", "left"] ["moves", "goal", "plan"] (defScope s_takes_cyclic) := ⟨rfl, rfl, rfl, by decide +kernel, rfl, by decide +kernel, by decide +kernel⟩
def m_takes_cyclic (a : ((List (List (List Int))) × (List Int) × (List (Int × (Option Int))))) : Pg Bool := Pg.outG (m_check_game a.1 >>= fun r1 => ((Pg.forc a.2.2 () (fun y3 s2 => (Pg.andG (pure (decide ((0 : Int) ≤ y3.1))) (pure (decide (y3.1 < ((a.1).length : Int)))) >>= fun b4 => (Pg.ifG (pure ((!b4))) (pure (Ctl.rt false)) (Pg.iteG (pure ((y3.2).isNone)) ((Pg.ifG (pure ((!decide (y3.1 ∈ a.2.1)))) (pure (Ctl.rt false)) (pure (Ctl.nx ())) : Pg (Ctl Bool Unit Unit)) : Pg (Ctl Bool Unit Unit)) (Pg.orG (Pg.opt y3.2 >>= fun o6 => (Pg.andG (pure (decide ((0 : Int) ≤ o6))) (Pg.opt (atI a.1 y3.1) >>= fun e7 => (pure (decide (o6 < ((e7).length : Int))))) >>= fun b8 => (pure ((!b8))))) (Pg.opt (atI a.1 y3.1) >>= fun e9 => (Pg.opt y3.2 >>= fun o10 => (Pg.opt (atI e9 o10) >>= fun e11 => (Pg.comp e11 (fun y12 => pure true) (fun y12 => (pure ((dget a.2.2 y12).isSome))) >>= fun l13 => (pure ((!((l13).all id)))))))) >>= fun b14 => (Pg.ifG (pure (b14)) (pure (Ctl.rt false)) (pure (Ctl.nx ())) : Pg (Ctl Bool Unit Unit))) (fun s5 => (pure (Ctl.nx ())))) : Pg (Ctl Bool Unit Unit)))) : Pg (Ctl Bool Empty Unit)) >>= Pg.seqG (fun s2 => (Pg.comp ((a.2.2).map (·.1)) (fun y15 => (Pg.opt (dget a.2.2 y15) >>= fun e16 => pure ((e16).isNone))) (fun y15 => (pure (y15))) >>= fun l17 => ((pure l17 : Pg (List Int)) >>= fun far_18 => ((pure (0 : Int) : Pg Int) >>= fun at_19 => ((Pg.while' (far_18, at_19) (fun s20 => (pure ((decide (s20.2 < ((s20.1).length : Int)))))) (fun s20 => (Pg.comp ((a.2.2).map (·.1)) (fun y22 => (Pg.andG (pure ((!decide (y22 ∈ s20.1)))) (Pg.opt (dget a.2.2 y22) >>= fun e23 => (pure ((e23).isSome))) >>= fun b24 => pure (b24))) (fun y22 => (pure (y22))) >>= fun l25 => ((pure l25 : Pg (List Int)) >>= fun left_26 => (Pg.comp left_26 (fun y28 => (Pg.opt (atI s20.1 s20.2) >>= fun e33 => (Pg.opt (atI a.1 y28) >>= fun e29 => (Pg.opt (dget a.2.2 y28) >>= fun e30 => (Pg.opt e30 >>= fun o31 => (Pg.opt (atI e29 o31) >>= fun e32 => pure ((decide (e33 ∈ e32))))))))) (fun y28 => (pure (y28))) >>= fun l34 => (Pg.ask ((s20.1 ++ l34).length ≤ big) >>= fun _ => ((pure (s20.1 ++ l34) : Pg (List Int)) >>= fun far_27 => ((pure (s20.2 + (1 : Int)) : Pg Int) >>= fun at_35 => (pure (Ctl.nx (far_27, at_35)))))))))) : Pg (Ctl Bool Empty ((List Int) × Int))) >>= Pg.seqG (fun s20 => (pure (Ctl.rt (decide (((s20.1).length : Int) = ((a.2.2).length : Int)))))))))))))
set_option maxHeartbeats 4000000 in
theorem cal_takes_cyclic (D : Nz.DefK K mg "takes_cyclic" s_takes_cyclic ["moves", "goal", "plan"]) (md : Md mg) (c_check_game : Nz.Cal P w K mg base 1 "check_game" (Nz.spP (K := K) (f1 (rTup (rTup (rTup rInt)))) rNon (fun a => (m_check_game a).wp)) []) : Nz.Cal P w K mg base 2 "takes_cyclic" (Nz.spP (K := K) (fc (rTup (rTup (rTup rInt))) (fc (rTup rInt) (f1 (rDk kyI (rOpt rInt))))) rBl (fun a => (m_takes_cyclic a).wp)) [] := by
  refine D.cal fun f fd F => F.ok sc_takes_cyclic (fun vs H Q E h => Nz.spP_len h) (fun cdv A outer s H vs Q E hr h => ?_)
  refine ⟨_, (pss_cons (ps_expr (Nz.pe_c c_check_game hr (by decide) (by rfl) (pa_cons (pv 0) pa_nil))) (pss_cons (ps_lk (ps_for PassesOwn.never rfl (pi_items (pv 2)) (Nz.pg_tupK K 2 rfl (pgs_cons (pg_name (i := 3) sc_takes_cyclic.nd rfl (Or.inl rfl) (Or.inr rfl)) (pgs_cons (pg_name (i := 4) sc_takes_cyclic.nd rfl (Or.inl rfl) (Or.inr rfl)) pgs_nil))) (pss_cons (ps_if (pt_not (pt_chain op_le op_lt pe_int (pv 3) (pe_callB (cr_lenK K) (by rfl) md.len (by decide +kernel) (pa_cons (pv 0) pa_nil)))) (pss_cons (ps_ret pe_bl) pss_nil) pss_nil) (pss_cons (ps_if (pt_cmp (pc_isN (pv 4))) (pss_cons (ps_if (pt_cmpR (op_niK K) (pv 3) (pv 1) (by rfl)) (pss_cons (ps_ret pe_bl) pss_nil) pss_nil) pss_nil) (pss_cons (ps_if (PW.pt (pw_or (pt_not (pt_chain op_le op_lt pe_int (pv 4) (pe_callB (cr_lenK K) (by rfl) md.len (by decide +kernel) (pa_cons (pe_ix (ix_tK K) (pv 0) (pv 3) (fun _ _ => rfl)) pa_nil)))) (pw_or1 (pt_not (pt_val (pe_callB (cr_allK K) (by rfl) md.all (by decide +kernel) (pa_cons (pe_lc (own := [("other", 5)]) rfl sc_takes_cyclic.nd (pi_tK K (pe_ix (ix_tK K) (pe_ix (ix_tK K) (pv 0) (pv 3) (fun _ _ => rfl)) (pv 4) (fun _ _ => rfl))) (blkOk_by (N := ["moves", "goal", "plan", "place", "deed", "other", "far", "at", "left"]) (sc := (defScope s_takes_cyclic)) (by decide +kernel)) (fun _ _ _ _ _ => (pg_name (i := 5) sc_takes_cyclic.nd rfl (Or.inl rfl) (Or.inr rfl))) (fun _ _ _ _ _ => pts_nil) (fun _ _ _ _ _ => (pe_cmp (pc_din (hu_of hr) (pv 5) (pv 2))))) pa_nil))))))) (pss_cons (ps_ret pe_bl) pss_nil) pss_nil) pss_nil)) pss_nil)))) (pss_cons (ps_set (i := 6) sc_takes_cyclic.nd rfl (Or.inr rfl) (pe_lk (pe_lc (own := [("place", 3)]) rfl sc_takes_cyclic.nd (pi_keys (pv 2)) (blkOk_by (N := ["moves", "goal", "plan", "place", "deed", "other", "far", "at", "left"]) (sc := (defScope s_takes_cyclic)) (by decide +kernel)) (fun _ _ _ _ _ => (pg_name (i := 3) sc_takes_cyclic.nd rfl (Or.inl rfl) (Or.inr rfl))) (fun _ _ _ _ _ => (pts_one (pt_cmp (pc_isN (pe_dget (hu_of hr) (pv 2) (pv 3) (fun _ _ => rfl)))))) (fun _ _ _ _ _ => (pv 3))))) (pss_cons (ps_set (i := 7) sc_takes_cyclic.nd rfl (Or.inr rfl) pe_int) (pss_cons (ps_while PassesOwn.never (pt_cmpR op_lt (pv 7) (pe_callB (cr_lenK K) (by rfl) md.len (by decide +kernel) (pa_cons (pv 6) pa_nil)) (by rfl)) (pss_cons (ps_lkA (ps_setLc (i := 8) rfl sc_takes_cyclic.nd rfl rfl (sw_true rfl rfl rfl rfl) (own := [("place", 3)]) (pi_keys (pv 2)) (blkOk_by (N := ["moves", "goal", "plan", "place", "deed", "other", "far", "at", "left"]) (sc := (defScope s_takes_cyclic)) (by decide +kernel)) (fun _ _ _ _ _ => (pg_name (i := 3) sc_takes_cyclic.nd rfl (Or.inl rfl) (Or.inr rfl))) (fun _ _ _ _ _ => (pts_one (PW.pt (pw_and (pt_cmpR (op_niK K) (pv 3) (pv 6) (by rfl)) (pw_and1 (pt_cmp (pc_notN (pe_dget (hu_of hr) (pv 2) (pv 3) (fun _ _ => rfl))))))))) (fun _ _ _ _ _ => (pv 3)))) (pss_cons (ps_expr (pe_bm PySem.F.plainAttrs_list PySem.F.slot_list_extend PySem.F.type_list_extend mt_extend (pv 6) (pa_cons (pe_lc (own := [("place", 3)]) rfl sc_takes_cyclic.nd (pi_lK K (pv 8)) (blkOk_by (N := ["moves", "goal", "plan", "place", "deed", "other", "far", "at", "left"]) (sc := (defScope s_takes_cyclic)) (by decide +kernel)) (fun _ _ _ _ _ => (pg_name (i := 3) sc_takes_cyclic.nd rfl (Or.inl rfl) (Or.inr rfl))) (fun _ _ _ _ _ => (pts_one (pt_cmpR (op_inK K) (pe_ix (ix_lK K) (pv 6) (pv 7) (fun _ _ => rfl)) (pe_ix (ix_tK K) (pe_ix (ix_tK K) (pv 0) (pv 3) (fun _ _ => rfl)) (pe_dget (hu_of hr) (pv 2) (pv 3) (fun _ _ => rfl)) (fun _ _ => rfl)) (by rfl)))) (fun _ _ _ _ _ => (pv 3))) pa_nil))) (pss_cons (ps_aug (i := 7) sc_takes_cyclic.nd rfl (Or.inr rfl) pe_int ip_add) pss_nil)))) (pss_cons (ps_ret (pe_cmpR op_eq (pe_callB (cr_lenK K) (by rfl) md.len (by decide +kernel) (pa_cons (pv 6) pa_nil)) (pe_callB call_lenDR (by rfl) md.len (by decide +kernel) (pa_cons (pv 2) pa_nil)) (by rfl))) pss_nil)))))), ?_⟩
  exact Nz.fnP (n := 6) (Nz.prm_c (Nz.prm_c Nz.prm_1)) rfl (fun a => (Nz.bj_drop (Nz.ev_call (Nz.ea_1 (Nz.ev_var rfl))) (fun _ => (Nz.bj_forK (fS := (fun (s2 : Unit) => [(slV (rTup (rTup (rTup rInt))) a.1), (slV (rTup rInt) a.2.1), (slV (rDk kyI (rOpt rInt)) a.2.2), slAny, slAny, slAny, slAny, slAny, slAny])) (oS := []) (s0 := ()) rfl (Nz.kw_items Nz.kyw_int) (Nz.wk_k rfl (Nz.wk_k rfl (Nz.wk_k rfl (Nz.wk_a (Nz.wk_a (Nz.wk_a (Nz.wk_a (Nz.wk_a (Nz.wk_a Nz.Wks.nil))))))))) (by decide) (fun s2 => (Nz.gt_tup rfl (Nz.gts_cons Nz.gt_name (fun _ => (Nz.gts_nil Nz.gt_name))))) (by decide) (fun s2 y3 => (Nz.bj_ifD (Nz.et_not (Nz.et_T (Nz.ev_chain (g := fun i j => decide (i ≤ j)) (g' := fun i j => decide (i < j)) (Nz.ev_int (i := 0)) (Nz.ev_var rfl) (Nz.ev_lenS (Nz.rs_t (Nz.rt_ev (Nz.ev_var rfl))))))) (Nz.bj_seq (Nz.bj_ret Nz.ev_bl)) (Nz.bj_seq0 (Nz.bj_if (fM := (fun (s5 : Unit) => [(slV (rTup (rTup (rTup rInt))) a.1), (slV (rTup rInt) a.2.1), (slV (rDk kyI (rOpt rInt)) a.2.2), (slV rInt y3.1), (slV (rOpt rInt) y3.2), slAny, slAny, slAny, slAny])) (oM := []) (Nz.et_B (Nz.ev_isN (Nz.ev_var rfl))) (Nz.bj_ifD (Nz.et_T (Nz.ev_niS Nz.fe_int (Nz.ev_var rfl) (Nz.rs_t (Nz.rt_ev (Nz.ev_var rfl))))) (Nz.bj_seq (Nz.bj_ret Nz.ev_bl)) (Nz.bj_seq0 (Nz.bj_nx (s := ()) (Nz.wk_k rfl (Nz.wk_k rfl (Nz.wk_k rfl (Nz.wk_k rfl (Nz.wk_k rfl (Nz.wk_a (Nz.wk_a (Nz.wk_a (Nz.wk_a Nz.Wks.nil))))))))) (by decide)))) (Nz.bj_ifD (Nz.et_or (Nz.et_not (Nz.et_T (Nz.ev_chain (g := fun i j => decide (i ≤ j)) (g' := fun i j => decide (i < j)) (Nz.ev_int (i := 0)) (Nz.ev_get (Nz.ev_var rfl)) (Nz.ev_lenS (Nz.rs_t (Nz.rt_ev (Nz.ev_ixT (Nz.rt_ev (Nz.ev_var rfl)) (Nz.ev_var rfl)))))))) (Nz.et_not (Nz.et_B (Nz.ev_all (Nz.rl_l (Nz.el_lc (Nz.ir_iv (Nz.iv_tup (Nz.ev_ixT (Nz.rt_ev (Nz.ev_ixT (Nz.rt_ev (Nz.ev_var rfl)) (Nz.ev_var rfl))) (Nz.ev_get (Nz.ev_var rfl))))) Nz.gt_name (by decide) (fun y12 => Nz.et_yes) (fun y12 => (Nz.ev_din Nz.kyr_int (Nz.ev_var rfl) (Nz.rd_ev (Nz.ev_var rfl)))))))))) (Nz.bj_seq (Nz.bj_ret Nz.ev_bl)) (Nz.bj_seq0 (Nz.bj_nx (s := ()) (Nz.wk_k rfl (Nz.wk_k rfl (Nz.wk_k rfl (Nz.wk_k rfl (Nz.wk_k rfl (Nz.wk_a (Nz.wk_a (Nz.wk_a (Nz.wk_a Nz.Wks.nil))))))))) (by decide)))) (fun s5 => (Nz.bj_nx (s := ()) (Nz.wk_k rfl (Nz.wk_k rfl (Nz.wk_k rfl (Nz.wk_a (Nz.wk_a (Nz.wk_a (Nz.wk_a (Nz.wk_a (Nz.wk_a Nz.Wks.nil))))))))) (by decide))))))) (fun s2 => (Nz.bj_asgL (Nz.el_lk Nz.lk_val (i := 2) rfl (Nz.el_lc (Nz.ir_keysF Nz.kyw_int rfl) Nz.gt_name (by decide) (fun y15 => (Nz.et_B (Nz.ev_isN (Nz.ev_dget Nz.kyr_int (Nz.rd_fz rfl) (Nz.ev_var rfl))))) (fun y15 => (Nz.ev_var rfl)))) (of_decide_eq_true rfl) (fun far_18 => (Nz.bj_asg (Nz.ev_int (i := 0)) (fun at_19 => (Nz.bj_while (fS := (fun (s20 : ((List Int) × Int)) => [(slV (rTup (rTup (rTup rInt))) a.1), (slV (rTup rInt) a.2.1), (slV (rDk kyI (rOpt rInt)) a.2.2), slAny, slAny, slAny, (slL rInt s20.1), (slV rInt s20.2), slAny])) (oS := [6]) (s0 := (far_18, at_19)) (Nz.wk_k rfl (Nz.wk_k rfl (Nz.wk_k rfl (Nz.wk_a (Nz.wk_a (Nz.wk_a (Nz.wk_o (by decide) (Nz.wk_k rfl (Nz.wk_a Nz.Wks.nil))))))))) (by decide) (fun s20 => (Nz.et_T (Nz.ev_B0 (g := fun i j => decide (i < j)) (Nz.ev_var rfl) (Nz.ev_lenS (Nz.rs_l (Nz.rl_own rfl)))))) (fun s20 => (Nz.bj_asg (Nz.ev_l (Nz.el_lk Nz.lk_val (i := 2) rfl (Nz.el_lc (Nz.ir_keysF Nz.kyw_int rfl) Nz.gt_name (by decide) (fun y22 => (Nz.et_and (Nz.et_T (Nz.ev_niS Nz.fe_int (Nz.ev_var rfl) (Nz.rs_l (Nz.rl_own rfl)))) (Nz.et_B (Nz.ev_notN (Nz.ev_dget Nz.kyr_int (Nz.rd_fz rfl) (Nz.ev_var rfl)))))) (fun y22 => (Nz.ev_var rfl))))) (fun left_26 => (Nz.bj_ext (by decide) rfl (Nz.el_lc (Nz.ir_iv (Nz.iv_list (Nz.ev_var rfl))) Nz.gt_name (by decide) (fun y28 => (Nz.et_T (Nz.ev_inS Nz.fe_int (Nz.ev_ixL (Nz.rl_own rfl) (Nz.ev_var rfl)) (Nz.rs_t (Nz.rt_ev (Nz.ev_ixT (Nz.rt_ev (Nz.ev_ixT (Nz.rt_ev (Nz.ev_var rfl)) (Nz.ev_var rfl))) (Nz.ev_get (Nz.ev_dget Nz.kyr_int (Nz.rd_ev (Nz.ev_var rfl)) (Nz.ev_var rfl))))))))) (fun y28 => (Nz.ev_var rfl))) (fun far_27 => (Nz.bj_aug (g := fun i j => i + j) rfl (Nz.ev_int (i := 1)) (fun at_35 => (Nz.bj_nx (s := (far_27, at_35)) (Nz.wk_k rfl (Nz.wk_k rfl (Nz.wk_k rfl (Nz.wk_a (Nz.wk_a (Nz.wk_a (Nz.wk_o (by decide) (Nz.wk_k rfl (Nz.wk_a Nz.Wks.nil))))))))) (by decide))))))))) (fun s20 => (Nz.bj_frzL (i := 6) (by decide) rfl (Nz.bj_ret (Nz.ev_eqI (Nz.ev_lenS (Nz.rs_l (Nz.rl_ev (Nz.ev_var rfl)))) (Nz.ev_lenD (Nz.rd_ev (Nz.ev_var rfl))))))))))))))))) (fun a k => Eq.mp (by kernel_rfl)) h
abbrev s_law_draw : Stmt := topS 15
theorem sc_law_draw : FnScope ["tape", "many", "most", "moves", "place", "row", "k", "ends", "j"] ["tape", "many", "most"] (defScope s_law_draw) := ⟨rfl, rfl, rfl, by decide +kernel, rfl, by decide +kernel, by decide +kernel⟩
def m_law_draw (a : (Int × Int)) : Pg (List (List (List Int))) := Pg.outG ((pure ([] : (List (List (List Int)))) : Pg (List (List (List Int)))) >>= fun moves_1 => (Pg.ask (-100000 ≤ a.1 ∧ a.1 ≤ 100000) >>= fun _ => ((Pg.forc (rg a.1) moves_1 (fun y3 s2 => ((pure ([] : (List (List Int))) : Pg (List (List Int))) >>= fun row_4 => (m_law_take (3 : Int) >>= fun r5 => (Pg.ask (-100000 ≤ r5 ∧ r5 ≤ 100000) >>= fun _ => ((Pg.forc (rg r5) row_4 (fun y7 s6 => (m_law_take a.2 >>= fun r8 => (Pg.ask (-100000 ≤ ((1 : Int) + r8) ∧ ((1 : Int) + r8) ≤ 100000) >>= fun _ => (Pg.comp (rg ((1 : Int) + r8)) (fun y9 => pure true) (fun y9 => (m_law_take a.1 >>= fun r10 => (pure (r10)))) >>= fun l11 => ((pure l11 : Pg (List Int)) >>= fun ends_12 => (Pg.ask ((ends_12).length < 64) >>= fun _ => (Pg.ask ((s6).length < big) >>= fun _ => ((pure (s6 ++ [(sortU ends_12)]) : Pg (List (List Int))) >>= fun row_13 => (pure (Ctl.nx row_13)))))))))) : Pg (Ctl (List (List (List Int))) (List (List (List Int))) (List (List Int)))) >>= Pg.seqG (fun s6 => (Pg.ask ((s2).length < big) >>= fun _ => ((pure (s2 ++ [s6]) : Pg (List (List (List Int)))) >>= fun moves_14 => (pure (Ctl.nx moves_14)))))))))) : Pg (Ctl (List (List (List Int))) Empty (List (List (List Int))))) >>= Pg.seqG (fun s2 => (pure (Ctl.rt s2))))))
set_option maxHeartbeats 4000000 in
theorem cal_law_draw (D : Nz.DefK K mg "_law_draw" s_law_draw ["tape", "many", "most"]) (md : Md mg) (c__law_take : Nz.Cal P w K mg base 1 "_law_take" (Nz.spTX (K := K) effT (f1 rInt) rInt (fun a => (m_law_take a).wp)) []) : Nz.Cal P w K mg base 2 "_law_draw" (Nz.spTX (K := K) effT (fc rInt (f1 rInt)) (rTup (rTup (rTup rInt))) (fun a => (m_law_draw a).wp)) [] := by
  refine D.cal fun f fd F => F.ok sc_law_draw (fun vs H Q E h => Nz.spTX_len h) (fun cdv A outer s H vs Q E hr h => ?_)
  refine ⟨_, (pss_cons (ps_set (i := 3) sc_law_draw.nd rfl (Or.inl rfl) (pe_lst pa_nil)) (pss_cons (ps_for PassesOwn.never rfl (pi_range1 (by rfl) md.range (pa_cons (pv 1) pa_nil)) (pg_name (i := 4) sc_law_draw.nd rfl (Or.inl rfl) (Or.inr rfl)) (pss_cons (ps_set (i := 5) sc_law_draw.nd rfl (Or.inl rfl) (pe_lst pa_nil)) (pss_cons (ps_for PassesOwn.never rfl (pi_range1 (by rfl) md.range (pa_cons (Nz.pe_c c__law_take hr (by decide) (by rfl) (pa_cons (pv 0) (pa_cons pe_int pa_nil))) pa_nil)) (pg_name (i := 6) sc_law_draw.nd rfl (Or.inl rfl) (Or.inr rfl)) (pss_cons (ps_setLc (i := 7) rfl sc_law_draw.nd rfl rfl (sw_true rfl rfl rfl rfl) (own := [("j", 8)]) (pi_range1 (by rfl) md.range (pa_cons (pe_op op_add pe_int (Nz.pe_c c__law_take hr (by decide) (by rfl) (pa_cons (pv 0) (pa_cons (pv 2) pa_nil)))) pa_nil)) (blkOk_by (N := ["tape", "many", "most", "moves", "place", "row", "k", "ends", "j"]) (sc := (defScope s_law_draw)) (by decide +kernel)) (fun _ _ _ _ _ => (pg_name (i := 8) sc_law_draw.nd rfl (Or.inl rfl) (Or.inr rfl))) (fun _ _ _ _ _ => pts_nil) (fun _ _ _ _ _ => (Nz.pe_c c__law_take hr (by decide) (by rfl) (pa_cons (pv 0) (pa_cons (pv 1) pa_nil))))) (pss_cons (ps_expr (pe_bm PySem.F.plainAttrs_list PySem.F.slot_list_append PySem.F.type_list_append mt_append (pv 5) (pa_cons (pe_callTy (cr_tupK K) (by rfl) md.tuple (by decide +kernel) (pa_cons (pe_callB (cr_sortSetK w) (by rfl) md.sorted (by decide +kernel) (pa_cons (pe_callTy (cr_setK K w) (by rfl) md.set (by decide +kernel) (pa_cons (pv 7) pa_nil)) pa_nil)) pa_nil)) pa_nil))) pss_nil))) (pss_cons (ps_expr (pe_bm PySem.F.plainAttrs_list PySem.F.slot_list_append PySem.F.type_list_append mt_append (pv 3) (pa_cons (pe_callTy (cr_tupK K) (by rfl) md.tuple (by decide +kernel) (pa_cons (pv 5) pa_nil)) pa_nil))) pss_nil)))) (pss_cons (ps_ret (pe_callTy (cr_tupK K) (by rfl) md.tuple (by decide +kernel) (pa_cons (pv 3) pa_nil))) pss_nil))), ?_⟩
  exact Nz.fnTX (n := 6) (Nz.prm_c Nz.prm_1) rfl (fun pt c a => (Nz.bj_asgL (Nz.el_nil (r := (rTup (rTup rInt)))) (of_decide_eq_true rfl) (fun moves_1 => (Nz.bj_for (fS := (fun (s2 : (List (List (List Int)))) => [(slAt pt), (slV rInt a.1), (slV rInt a.2), (slL (rTup (rTup rInt)) s2), slAny, slAny, slAny, slAny, slAny])) (oS := [3]) (s0 := moves_1) (Nz.iv_rng1 (Nz.ev_var rfl)) (Nz.wk_k rfl (Nz.wk_k rfl (Nz.wk_k rfl (Nz.wk_o (by decide) (Nz.wk_a (Nz.wk_a (Nz.wk_a (Nz.wk_a (Nz.wk_a Nz.Wks.nil))))))))) (by decide) (fun s2 => Nz.gt_name) (by decide) (fun s2 y3 => (Nz.bj_asgL (Nz.el_nil (r := (rTup rInt))) (of_decide_eq_true rfl) (fun row_4 => (Nz.bj_for (fS := (fun (s6 : (List (List Int))) => [(slAt pt), (slV rInt a.1), (slV rInt a.2), (slL (rTup (rTup rInt)) s2), (slV rInt y3), (slL (rTup rInt) s6), slAny, slAny, slAny])) (oS := [3, 5]) (s0 := row_4) (Nz.iv_rng1 (Nz.ev_callTX (Nz.EffIn.refl _) rfl (Nz.ea_1 (Nz.ev_int (i := 3))))) (Nz.wk_k rfl (Nz.wk_k rfl (Nz.wk_k rfl (Nz.wk_o (by decide) (Nz.wk_k rfl (Nz.wk_o (by decide) (Nz.wk_a (Nz.wk_a (Nz.wk_a Nz.Wks.nil))))))))) (by decide) (fun s6 => Nz.gt_name) (by decide) (fun s6 y7 => (Nz.bj_asg (Nz.ev_l (Nz.el_lc (Nz.ir_iv (Nz.iv_rng1 (Nz.ev_I0 (g := fun i j => i + j) (Nz.ev_int (i := 1)) (Nz.ev_callTX (Nz.EffIn.refl _) rfl (Nz.ea_1 (Nz.ev_var rfl)))))) Nz.gt_name (by decide) (fun y9 => Nz.et_yes) (fun y9 => (Nz.ev_callTX (Nz.EffIn.refl _) rfl (Nz.ea_1 (Nz.ev_var rfl)))))) (fun ends_12 => (Nz.bj_app (by decide) rfl (Nz.ev_tupL (Nz.rl_l (Nz.el_sortSet (w := w) (Nz.rl_ev (Nz.ev_var rfl))))) (fun row_13 => (Nz.bj_nx (s := row_13) (Nz.wk_k rfl (Nz.wk_k rfl (Nz.wk_k rfl (Nz.wk_o (by decide) (Nz.wk_k rfl (Nz.wk_o (by decide) (Nz.wk_a (Nz.wk_a (Nz.wk_a Nz.Wks.nil))))))))) (by decide))))))) (fun s6 => (Nz.bj_frzL (i := 5) (by decide) rfl (Nz.bj_app (by decide) rfl (Nz.ev_tupL (Nz.rl_ev (Nz.ev_var rfl))) (fun moves_14 => (Nz.bj_nx (s := moves_14) (Nz.wk_k rfl (Nz.wk_k rfl (Nz.wk_k rfl (Nz.wk_o (by decide) (Nz.wk_a (Nz.wk_a (Nz.wk_a (Nz.wk_a (Nz.wk_a Nz.Wks.nil))))))))) (by decide)))))))))) (fun s2 => (Nz.bj_frzL (i := 3) (by decide) rfl (Nz.bj_ret (Nz.ev_tupL (Nz.rl_ev (Nz.ev_var rfl)))))))))) (fun a k => Eq.mp (by kernel_rfl)) h
abbrev s_law_split : Stmt := topS 16
theorem sc_law_split : FnScope ["moves", "many", "found", "last", "place", "row", "ends"] ["moves"] (defScope s_law_split) := ⟨rfl, rfl, rfl, by decide +kernel, rfl, by decide +kernel, by decide +kernel⟩
def m_law_split (a : (List (List (List Int)))) : Pg (List (List (List Int))) := Pg.outG ((pure ((a).length : Int) : Pg Int) >>= fun many_1 => ((pure ([] : (List (List (List Int)))) : Pg (List (List (List Int)))) >>= fun found_2 => ((pure ([] : (List (List (List Int)))) : Pg (List (List (List Int)))) >>= fun last_3 => (Pg.ask (-100000 ≤ many_1 ∧ many_1 ≤ 100000) >>= fun _ => ((Pg.forc (rg many_1) (found_2, last_3) (fun y5 s4 => ((pure ([] : (List (List Int))) : Pg (List (List Int))) >>= fun row_6 => (Pg.opt (atI a y5) >>= fun e7 => ((Pg.forc e7 (s4.2, row_6) (fun y9 s8 => (Pg.ask (([(many_1 + ((s8.1).length : Int))] : (List Int)).length ≤ big) >>= fun _ => (Pg.ask ((s8.2).length < big) >>= fun _ => ((pure (s8.2 ++ [([(many_1 + ((s8.1).length : Int))] : (List Int))]) : Pg (List (List Int))) >>= fun row_10 => (Pg.ask (([y9] : (List (List Int))).length ≤ big) >>= fun _ => (Pg.ask ((s8.1).length < big) >>= fun _ => ((pure (s8.1 ++ [([y9] : (List (List Int)))]) : Pg (List (List (List Int)))) >>= fun last_11 => (pure (Ctl.nx (last_11, row_10)))))))))) : Pg (Ctl (List (List (List Int))) ((List (List (List Int))) × (List (List (List Int)))) ((List (List (List Int))) × (List (List Int))))) >>= Pg.seqG (fun s8 => (Pg.ask ((s4.1).length < big) >>= fun _ => ((pure (s4.1 ++ [s8.2]) : Pg (List (List (List Int)))) >>= fun found_12 => (pure (Ctl.nx (found_12, s8.1)))))))))) : Pg (Ctl (List (List (List Int))) Empty ((List (List (List Int))) × (List (List (List Int)))))) >>= Pg.seqG (fun s4 => (Pg.ask ((s4.1 ++ s4.2).length ≤ big) >>= fun _ => (pure (Ctl.rt (s4.1 ++ s4.2))))))))))
set_option maxHeartbeats 4000000 in
theorem cal_law_split (D : Nz.DefK K mg "_law_split" s_law_split ["moves"]) (md : Md mg) : Nz.Cal P w K mg base 1 "_law_split" (Nz.spP (K := K) (f1 (rTup (rTup (rTup rInt)))) (rTup (rTup (rTup rInt))) (fun a => (m_law_split a).wp)) [] := by
  refine D.cal fun f fd F => F.ok sc_law_split (fun vs H Q E h => Nz.spP_len h) (fun cdv A outer s H vs Q E hr h => ?_)
  refine ⟨_, (pss_cons (ps_par3 (i := 1) (j := 2) (l := 3) rfl sc_law_split.nd rfl rfl rfl (by decide) (by decide) (by decide) rfl rfl rfl (pa_cons (pe_callB (cr_lenK K) (by rfl) md.len (by decide +kernel) (pa_cons (pv 0) pa_nil)) (pa_cons (pe_lst pa_nil) (pa_cons (pe_lst pa_nil) pa_nil))) (by rfl)) (pss_cons (ps_for PassesOwn.never rfl (pi_range1 (by rfl) md.range (pa_cons (pv 1) pa_nil)) (pg_name (i := 4) sc_law_split.nd rfl (Or.inl rfl) (Or.inr rfl)) (pss_cons (ps_set (i := 5) sc_law_split.nd rfl (Or.inl rfl) (pe_lst pa_nil)) (pss_cons (ps_for PassesOwn.never rfl (pi_tK K (pe_ix (ix_tK K) (pv 0) (pv 4) (fun _ _ => rfl))) (pg_name (i := 6) sc_law_split.nd rfl (Or.inl rfl) (Or.inr rfl)) (pss_cons (ps_expr (pe_bm PySem.F.plainAttrs_list PySem.F.slot_list_append PySem.F.type_list_append mt_append (pv 5) (pa_cons (pe_tup (pa_cons (pe_op op_add (pv 1) (pe_callB (cr_lenK K) (by rfl) md.len (by decide +kernel) (pa_cons (pv 3) pa_nil))) pa_nil)) pa_nil))) (pss_cons (ps_expr (pe_bm PySem.F.plainAttrs_list PySem.F.slot_list_append PySem.F.type_list_append mt_append (pv 3) (pa_cons (pe_tup (pa_cons (pv 6) pa_nil)) pa_nil))) pss_nil))) (pss_cons (ps_expr (pe_bm PySem.F.plainAttrs_list PySem.F.slot_list_append PySem.F.type_list_append mt_append (pv 2) (pa_cons (pe_callTy (cr_tupK K) (by rfl) md.tuple (by decide +kernel) (pa_cons (pv 5) pa_nil)) pa_nil))) pss_nil)))) (pss_cons (ps_ret (pe_callTy (cr_tupK K) (by rfl) md.tuple (by decide +kernel) (pa_cons (pe_op op_catR (pv 2) (pv 3)) pa_nil))) pss_nil))), ?_⟩
  exact Nz.fnP (n := 6) Nz.prm_1 rfl (fun a => (Nz.bj_par3 (Nz.us_v (Nz.ev_lenS (Nz.rs_t (Nz.rt_ev (Nz.ev_var rfl))))) (Nz.us_l (Nz.el_nil (r := (rTup (rTup rInt))))) (Nz.us_l (Nz.el_nil (r := (rTup (rTup rInt))))) (of_decide_eq_true rfl) (of_decide_eq_true rfl) (of_decide_eq_true rfl) (fun many_1 found_2 last_3 => (Nz.bj_for (fS := (fun (s4 : ((List (List (List Int))) × (List (List (List Int))))) => [(slV (rTup (rTup (rTup rInt))) a), (slV rInt many_1), (slL (rTup (rTup rInt)) s4.1), (slL (rTup (rTup rInt)) s4.2), slAny, slAny, slAny])) (oS := [2, 3]) (s0 := (found_2, last_3)) (Nz.iv_rng1 (Nz.ev_var rfl)) (Nz.wk_k rfl (Nz.wk_k rfl (Nz.wk_o (by decide) (Nz.wk_o (by decide) (Nz.wk_a (Nz.wk_a (Nz.wk_a Nz.Wks.nil))))))) (by decide) (fun s4 => Nz.gt_name) (by decide) (fun s4 y5 => (Nz.bj_asgL (Nz.el_nil (r := (rTup rInt))) (of_decide_eq_true rfl) (fun row_6 => (Nz.bj_for (fS := (fun (s8 : ((List (List (List Int))) × (List (List Int)))) => [(slV (rTup (rTup (rTup rInt))) a), (slV rInt many_1), (slL (rTup (rTup rInt)) s4.1), (slL (rTup (rTup rInt)) s8.1), (slV rInt y5), (slL (rTup rInt) s8.2), slAny])) (oS := [2, 3, 5]) (s0 := (s4.2, row_6)) (Nz.iv_tup (Nz.ev_ixT (Nz.rt_ev (Nz.ev_var rfl)) (Nz.ev_var rfl))) (Nz.wk_k rfl (Nz.wk_k rfl (Nz.wk_o (by decide) (Nz.wk_o (by decide) (Nz.wk_k rfl (Nz.wk_o (by decide) (Nz.wk_a Nz.Wks.nil))))))) (by decide) (fun s8 => Nz.gt_name) (by decide) (fun s8 y9 => (Nz.bj_app (by decide) rfl (Nz.ev_tup (r := rInt) (Nz.as_c (Nz.ev_I0 (g := fun i j => i + j) (Nz.ev_var rfl) (Nz.ev_lenS (Nz.rs_l (Nz.rl_own rfl)))) Nz.as_nil)) (fun row_10 => (Nz.bj_app (by decide) rfl (Nz.ev_tup (r := (rTup rInt)) (Nz.as_c (Nz.ev_var rfl) Nz.as_nil)) (fun last_11 => (Nz.bj_nx (s := (last_11, row_10)) (Nz.wk_k rfl (Nz.wk_k rfl (Nz.wk_o (by decide) (Nz.wk_o (by decide) (Nz.wk_k rfl (Nz.wk_o (by decide) (Nz.wk_a Nz.Wks.nil))))))) (by decide))))))) (fun s8 => (Nz.bj_frzL (i := 5) (by decide) rfl (Nz.bj_app (by decide) rfl (Nz.ev_tupL (Nz.rl_ev (Nz.ev_var rfl))) (fun found_12 => (Nz.bj_nx (s := (found_12, s8.1)) (Nz.wk_k rfl (Nz.wk_k rfl (Nz.wk_o (by decide) (Nz.wk_o (by decide) (Nz.wk_a (Nz.wk_a (Nz.wk_a Nz.Wks.nil))))))) (by decide)))))))))) (fun s4 => (Nz.bj_frzL (i := 2) (by decide) rfl (Nz.bj_frzL (i := 3) (by decide) rfl (Nz.bj_ret (Nz.ev_tupL (Nz.rl_l (Nz.el_catL (Nz.rl_ev (Nz.ev_var rfl)) (Nz.rl_ev (Nz.ev_var rfl))))))))))))) (fun a k => Eq.mp (by kernel_rfl)) h
abbrev s_law_between : Stmt := topS 17
theorem sc_law_between : FnScope ["moves", "found", "at", "place", "k"] ["moves"] (defScope s_law_between) := ⟨rfl, rfl, rfl, by decide +kernel, rfl, by decide +kernel, by decide +kernel⟩
def m_law_between (a : (List (List (List Int)))) : Pg (List ((Int × Int) × Int)) := Pg.outG ((pure ([] : (List ((Int × Int) × Int))) : Pg (List ((Int × Int) × Int))) >>= fun found_1 => ((pure ((a).length : Int) : Pg Int) >>= fun at_2 => (Pg.ask (-100000 ≤ ((a).length : Int) ∧ ((a).length : Int) ≤ 100000) >>= fun _ => ((Pg.forc (rg ((a).length : Int)) (found_1, at_2) (fun y4 s3 => (Pg.opt (atI a y4) >>= fun e5 => (Pg.ask (-100000 ≤ ((e5).length : Int) ∧ ((e5).length : Int) ≤ 100000) >>= fun _ => ((Pg.forc (rg ((e5).length : Int)) (s3.1, s3.2) (fun y7 s6 => (Pg.ask ((s6.1).length < big) >>= fun _ => ((pure (dput s6.1 (y4, y7) s6.2) : Pg (List ((Int × Int) × Int))) >>= fun found_8 => ((pure (s6.2 + (1 : Int)) : Pg Int) >>= fun at_9 => (pure (Ctl.nx (found_8, at_9))))))) : Pg (Ctl (List ((Int × Int) × Int)) ((List ((Int × Int) × Int)) × Int) ((List ((Int × Int) × Int)) × Int))) >>= Pg.seqG (fun s6 => (pure (Ctl.nx (s6.1, s6.2)))))))) : Pg (Ctl (List ((Int × Int) × Int)) Empty ((List ((Int × Int) × Int)) × Int))) >>= Pg.seqG (fun s3 => (pure (Ctl.rt s3.1)))))))
set_option maxHeartbeats 4000000 in
theorem cal_law_between (D : Nz.DefK K mg "_law_between" s_law_between ["moves"]) (md : Md mg) : Nz.Cal P w K mg base 1 "_law_between" (Nz.spP (K := K) (f1 (rTup (rTup (rTup rInt)))) (rDt (ktP kyI kyI) rInt) (fun a => (m_law_between a).wp)) [] := by
  refine D.cal fun f fd F => F.ok sc_law_between (fun vs H Q E h => Nz.spP_len h) (fun cdv A outer s H vs Q E hr h => ?_)
  refine ⟨_, (pss_cons (ps_par (i := 1) (j := 2) rfl sc_law_between.nd rfl rfl (by decide) rfl rfl (pa_cons pe_dnewT (pa_cons (pe_callB (cr_lenK K) (by rfl) md.len (by decide +kernel) (pa_cons (pv 0) pa_nil)) pa_nil)) (by rfl)) (pss_cons (ps_for PassesOwn.never rfl (pi_range1 (by rfl) md.range (pa_cons (pe_callB (cr_lenK K) (by rfl) md.len (by decide +kernel) (pa_cons (pv 0) pa_nil)) pa_nil)) (pg_name (i := 3) sc_law_between.nd rfl (Or.inl rfl) (Or.inr rfl)) (pss_cons (ps_for PassesOwn.never rfl (pi_range1 (by rfl) md.range (pa_cons (pe_callB (cr_lenK K) (by rfl) md.len (by decide +kernel) (pa_cons (pe_ix (ix_tK K) (pv 0) (pv 3) (fun _ _ => rfl)) pa_nil)) pa_nil)) (pg_name (i := 4) sc_law_between.nd rfl (Or.inl rfl) (Or.inr rfl)) (pss_cons (ps_dput (hu_of hr) (pv 1) (pe_tup (pa_cons (pv 3) (pa_cons (pv 4) pa_nil))) (pv 2) (by rfl)) (pss_cons (ps_set (i := 2) sc_law_between.nd rfl (Or.inl rfl) (pe_op op_add (pv 2) pe_int)) pss_nil))) pss_nil)) (pss_cons (ps_ret (pv 1)) pss_nil))), ?_⟩
  exact Nz.fnP (n := 4) Nz.prm_1 rfl (fun a => (Nz.bj_par (Nz.us_dt (Nz.edt_new (e := (ktP kyI kyI)) (r := rInt))) (Nz.us_v (Nz.ev_lenS (Nz.rs_t (Nz.rt_ev (Nz.ev_var rfl))))) (of_decide_eq_true rfl) (of_decide_eq_true rfl) (fun found_1 at_2 => (Nz.bj_for (fS := (fun (s3 : ((List ((Int × Int) × Int)) × Int)) => [(slV (rTup (rTup (rTup rInt))) a), (slDt (ktP kyI kyI) rInt s3.1), (slV rInt s3.2), slAny, slAny])) (oS := [1]) (s0 := (found_1, at_2)) (Nz.iv_rng1 (Nz.ev_lenS (Nz.rs_t (Nz.rt_ev (Nz.ev_var rfl))))) (Nz.wk_k rfl (Nz.wk_o (by decide) (Nz.wk_k rfl (Nz.wk_a (Nz.wk_a Nz.Wks.nil))))) (by decide) (fun s3 => Nz.gt_name) (by decide) (fun s3 y4 => (Nz.bj_for (fS := (fun (s6 : ((List ((Int × Int) × Int)) × Int)) => [(slV (rTup (rTup (rTup rInt))) a), (slDt (ktP kyI kyI) rInt s6.1), (slV rInt s6.2), (slV rInt y4), slAny])) (oS := [1]) (s0 := (s3.1, s3.2)) (Nz.iv_rng1 (Nz.ev_lenS (Nz.rs_t (Nz.rt_ev (Nz.ev_ixT (Nz.rt_ev (Nz.ev_var rfl)) (Nz.ev_var rfl)))))) (Nz.wk_k rfl (Nz.wk_o (by decide) (Nz.wk_k rfl (Nz.wk_k rfl (Nz.wk_a Nz.Wks.nil))))) (by decide) (fun s6 => Nz.gt_name) (by decide) (fun s6 y7 => (Nz.bj_dputT (Nz.ktx_ii Nz.kyr_int Nz.kyr_int) (by decide) rfl (Nz.ea_c (Nz.ev_var rfl) (Nz.ea_1 (Nz.ev_var rfl))) (Nz.ev_var rfl) (fun found_8 => (Nz.bj_asg (Nz.ev_I0 (g := fun i j => i + j) (Nz.ev_var rfl) (Nz.ev_int (i := 1))) (fun at_9 => (Nz.bj_nx (s := (found_8, at_9)) (Nz.wk_k rfl (Nz.wk_o (by decide) (Nz.wk_k rfl (Nz.wk_k rfl (Nz.wk_a Nz.Wks.nil))))) (by decide))))))) (fun s6 => (Nz.bj_nx (s := (s6.1, s6.2)) (Nz.wk_k rfl (Nz.wk_o (by decide) (Nz.wk_k rfl (Nz.wk_a (Nz.wk_a Nz.Wks.nil))))) (by decide))))) (fun s3 => (Nz.bj_frzDt (i := 1) (by decide) rfl (Nz.bj_ret (Nz.ev_var rfl)))))))) (fun a k => Eq.mp (by kernel_rfl)) h
abbrev s_weak_plan : Stmt := topS 11
theorem sc_weak_plan : FnScope ["moves", "start", "goal", "level", "seen", "place", "way", "fresh", "k", "ends", "other", "pair"] ["moves", "start", "goal"] (defScope s_weak_plan) := ⟨rfl, rfl, rfl, by decide +kernel, rfl, by decide +kernel, by decide +kernel⟩
def m_weak_plan (a : ((List (List (List Int))) × Int × (List Int))) : Pg (Option (List (Int × Int))) := Pg.outG (m_check_game a.1 >>= fun r1 => (Pg.ask (([] : (List (Int × Int))).length ≤ big) >>= fun _ => (Pg.ask (([(a.2.1, ([] : (List (Int × Int))))] : (List (Int × (List (Int × Int))))).length ≤ big) >>= fun _ => ((pure ([(a.2.1, ([] : (List (Int × Int))))] : (List (Int × (List (Int × Int))))) : Pg (List (Int × (List (Int × Int))))) >>= fun level_2 => ((pure ([(a.2.1, true)] : (List (Int × Bool))) : Pg (List (Int × Bool))) >>= fun seen_3 => ((Pg.while' (level_2, seen_3) (fun s4 => (pure ((!(s4.1).isEmpty)))) (fun s4 => ((Pg.forc s4.1 () (fun y7 s6 => (Pg.ifG (pure ((decide (y7.1 ∈ a.2.2)))) (pure (Ctl.rt (some y7.2))) (pure (Ctl.nx ())) : Pg (Ctl (Option (List (Int × Int))) Unit Unit))) : Pg (Ctl (Option (List (Int × Int))) ((List (Int × (List (Int × Int)))) × (List (Int × Bool))) Unit)) >>= Pg.seqG (fun s6 => ((pure ([] : (List (Int × (List (Int × Int))))) : Pg (List (Int × (List (Int × Int))))) >>= fun fresh_8 => ((Pg.forc s4.1 (s4.2, fresh_8) (fun y10 s9 => (Pg.opt (atI a.1 y10.1) >>= fun e11 => ((Pg.forc (enumZ e11) (s9.1, s9.2) (fun y13 s12 => ((Pg.forc y13.2 (s12.1, s12.2) (fun y15 s14 => (Pg.iteG (pure ((!(dget s14.1 y15).isSome))) ((Pg.ask ((s14.1).length < big) >>= fun _ => ((pure (dput s14.1 y15 true) : Pg (List (Int × Bool))) >>= fun seen_17 => (Pg.ask (([(y10.1, y13.1)] : (List (Int × Int))).length ≤ big) >>= fun _ => (Pg.ask ((y10.2 ++ ([(y10.1, y13.1)] : (List (Int × Int)))).length ≤ big) >>= fun _ => (Pg.ask ((s14.2).length < big) >>= fun _ => ((pure (s14.2 ++ [(y15, (y10.2 ++ ([(y10.1, y13.1)] : (List (Int × Int)))))]) : Pg (List (Int × (List (Int × Int))))) >>= fun fresh_18 => (pure (Ctl.nx (seen_17, fresh_18))))))))) : Pg (Ctl (Option (List (Int × Int))) ((List (Int × Bool)) × (List (Int × (List (Int × Int))))) ((List (Int × Bool)) × (List (Int × (List (Int × Int))))))) (pure (Ctl.nx (s14.1, s14.2))) (fun s16 => (pure (Ctl.nx (s16.1, s16.2)))))) : Pg (Ctl (Option (List (Int × Int))) ((List (Int × Bool)) × (List (Int × (List (Int × Int))))) ((List (Int × Bool)) × (List (Int × (List (Int × Int))))))) >>= Pg.seqG (fun s14 => (pure (Ctl.nx (s14.1, s14.2)))))) : Pg (Ctl (Option (List (Int × Int))) ((List (Int × Bool)) × (List (Int × (List (Int × Int))))) ((List (Int × Bool)) × (List (Int × (List (Int × Int))))))) >>= Pg.seqG (fun s12 => (pure (Ctl.nx (s12.1, s12.2))))))) : Pg (Ctl (Option (List (Int × Int))) ((List (Int × (List (Int × Int)))) × (List (Int × Bool))) ((List (Int × Bool)) × (List (Int × (List (Int × Int))))))) >>= Pg.seqG (fun s9 => (Pg.ask (PySem.W.AllAlike ((s9.2).map fun x => ((fun xs => PyData.tuple (List.map (fun p => PyData.tuple [PyData.int p.1, PyData.int p.2]) xs)) : ((List (Int × Int)) → PyData)) x.2) ∧ PySem.W.Sortable ((s9.2).map fun x => ((fun xs => PyData.tuple (List.map (fun p => PyData.tuple [PyData.int p.1, PyData.int p.2]) xs)) : ((List (Int × Int)) → PyData)) x.2) ∧ ∀ x ∈ s9.2, ndL (((fun xs => PyData.tuple (List.map (fun p => PyData.tuple [PyData.int p.1, PyData.int p.2]) xs)) : ((List (Int × Int)) → PyData)) x.2) = true ∧ (((fun xs => PyData.tuple (List.map (fun p => PyData.tuple [PyData.int p.1, PyData.int p.2]) xs)) : ((List (Int × Int)) → PyData)) x.2).depth ≤ 60) >>= fun _ => ((pure (List.mergeSort s9.2 (keyLe ((fun xs => PyData.tuple (List.map (fun p => PyData.tuple [PyData.int p.1, PyData.int p.2]) xs)) : ((List (Int × Int)) → PyData)))) : Pg (List (Int × (List (Int × Int))))) >>= fun level_19 => (pure (Ctl.nx (level_19, s9.1))))))))))) : Pg (Ctl (Option (List (Int × Int))) Empty ((List (Int × (List (Int × Int)))) × (List (Int × Bool))))) >>= Pg.seqG (fun s4 => (pure (Ctl.rt (none : (Option (List (Int × Int)))))))))))))
set_option maxHeartbeats 4000000 in
theorem cal_weak_plan (D : Nz.LDef K mg "weak_plan" s_weak_plan ["moves", "start", "goal"] cc) (TB : LamX.TabB base mg cc Pt) (md : Md mg) (c_check_game : Nz.Cal P w K mg base 1 "check_game" (Nz.spP (K := K) (f1 (rTup (rTup (rTup rInt)))) rNon (fun a => (m_check_game a).wp)) []) : Nz.Cal P w K mg base 3 "weak_plan" (Nz.spX (K := K) (effL Pt qL) (fc (rTup (rTup (rTup rInt))) (fc rInt (f1 (rTup rInt)))) (rOpt (rTup (rPr (fc rInt (f1 rInt))))) (fun a => (m_weak_plan a).wp)) [] := by
  refine D.cal sc_weak_plan (fun vs H Q E h => Nz.spX_len h) (fun f A outer s H vs Q E hr h => ?_)
  refine ⟨_, (pss_cons (ps_expr (Nz.pe_c c_check_game hr (by decide) (by rfl) (pa_cons (pv 0) pa_nil))) (pss_cons (ps_par (i := 3) (j := 4) rfl sc_weak_plan.nd rfl rfl (by decide) rfl rfl (pa_cons (pe_lst (pa_cons (pe_tup (pa_cons (pv 1) (pa_cons (pe_tup pa_nil) pa_nil))) pa_nil)) (pa_cons (pe_disp (pps_cons (pv 1) pe_bl pps_nil) rfl rfl (by simp) (by decide)) pa_nil)) (by rfl)) (pss_cons (ps_while PassesOwn.never (Nz.pt_truK K (pv 3)) (pss_cons (ps_for PassesOwn.never rfl (pi_lK K (pv 3)) (Nz.pg_tupK K 2 rfl (pgs_cons (pg_name (i := 5) sc_weak_plan.nd rfl (Or.inl rfl) (Or.inr rfl)) (pgs_cons (pg_name (i := 6) sc_weak_plan.nd rfl (Or.inl rfl) (Or.inr rfl)) pgs_nil))) (pss_cons (ps_if (pt_cmpR (op_inK K) (pv 5) (pv 2) (by rfl)) (pss_cons (ps_ret (pv 6)) pss_nil) pss_nil) pss_nil)) (pss_cons (ps_set (i := 7) sc_weak_plan.nd rfl (Or.inl rfl) (pe_lst pa_nil)) (pss_cons (ps_for PassesOwn.never rfl (pi_lK K (pv 3)) (Nz.pg_tupK K 2 rfl (pgs_cons (pg_name (i := 5) sc_weak_plan.nd rfl (Or.inl rfl) (Or.inr rfl)) (pgs_cons (pg_name (i := 6) sc_weak_plan.nd rfl (Or.inl rfl) (Or.inr rfl)) pgs_nil))) (pss_cons (ps_for PassesOwn.never rfl (pi_eTK K (by rfl) md.enumerate (pa_cons (pe_ix (ix_tK K) (pv 0) (pv 5) (fun _ _ => rfl)) pa_nil)) (Nz.pg_tupK K 2 rfl (pgs_cons (pg_name (i := 8) sc_weak_plan.nd rfl (Or.inl rfl) (Or.inr rfl)) (pgs_cons (pg_name (i := 9) sc_weak_plan.nd rfl (Or.inl rfl) (Or.inr rfl)) pgs_nil))) (pss_cons (ps_for PassesOwn.never rfl (pi_tK K (pv 9)) (pg_name (i := 10) sc_weak_plan.nd rfl (Or.inl rfl) (Or.inr rfl)) (pss_cons (ps_if (pt_cmp (pc_dnotin (hu_of hr) (pv 10) (pv 4))) (pss_cons (ps_dput (hu_of hr) (pv 4) (pv 10) pe_bl (by rfl)) (pss_cons (ps_expr (pe_bm PySem.F.plainAttrs_list PySem.F.slot_list_append PySem.F.type_list_append mt_append (pv 7) (pa_cons (pe_tup (pa_cons (pv 10) (pa_cons (pe_op (op_catK K) (pv 6) (pe_tup (pa_cons (pe_tup (pa_cons (pv 5) (pa_cons (pv 8) pa_nil))) pa_nil))) pa_nil))) pa_nil))) pss_nil)) pss_nil) pss_nil)) pss_nil)) pss_nil)) (pss_cons (ps_set (i := 3) sc_weak_plan.nd rfl (Or.inl rfl) (Nz.pe_sortLamK K qL rfl (by rfl) md.sorted (pv 7) TB rfl rfl ⟨rfl, rfl, rfl, by decide +kernel, rfl, by decide +kernel, by decide⟩ (hr.mono (by decide)) (by decide) (fun _ _ _ _ _ _ => rfl) (by rfl))) pss_nil))))) (pss_cons (ps_ret pe_non) pss_nil)))), ?_⟩
  exact Nz.fnX (n := 9) (Nz.prm_c (Nz.prm_c Nz.prm_1)) rfl (fun a => (Nz.bj_drop (Nz.ev_call (Nz.ea_1 (Nz.ev_var rfl))) (fun _ => (Nz.bj_par (Nz.us_v (Nz.ev_l (Nz.el_lst (r := (rPr (fc rInt (f1 (rTup (rPr (fc rInt (f1 rInt)))))))) (Nz.as_c (Nz.ev_pr (Nz.ea_c (Nz.ev_var rfl) (Nz.ea_1 (Nz.ev_tup (r := (rPr (fc rInt (f1 rInt)))) Nz.as_nil)))) Nz.as_nil)))) (Nz.us_d (Nz.ed_disp1 Nz.kyr_int (Nz.ev_var rfl) Nz.ev_bl)) (of_decide_eq_true rfl) (of_decide_eq_true rfl) (fun level_2 seen_3 => (Nz.bj_while (fS := (fun (s4 : ((List (Int × (List (Int × Int)))) × (List (Int × Bool)))) => [(slV (rTup (rTup (rTup rInt))) a.1), (slV rInt a.2.1), (slV (rTup rInt) a.2.2), (slV (rLst (rPr (fc rInt (f1 (rTup (rPr (fc rInt (f1 rInt)))))))) s4.1), (slDk kyI rBl s4.2), slAny, slAny, slAny, slAny, slAny, slAny, slAny])) (oS := [4]) (s0 := (level_2, seen_3)) (Nz.wk_k rfl (Nz.wk_k rfl (Nz.wk_k rfl (Nz.wk_k rfl (Nz.wk_o (by decide) (Nz.wk_a (Nz.wk_a (Nz.wk_a (Nz.wk_a (Nz.wk_a (Nz.wk_a (Nz.wk_a Nz.Wks.nil)))))))))))) (by decide) (fun s4 => (Nz.et_truS (Nz.rs_l (Nz.rl_ev (Nz.ev_var rfl))))) (fun s4 => (Nz.bj_for (fS := (fun (s6 : Unit) => [(slV (rTup (rTup (rTup rInt))) a.1), (slV rInt a.2.1), (slV (rTup rInt) a.2.2), (slV (rLst (rPr (fc rInt (f1 (rTup (rPr (fc rInt (f1 rInt)))))))) s4.1), (slDk kyI rBl s4.2), slAny, slAny, slAny, slAny, slAny, slAny, slAny])) (oS := [4]) (s0 := ()) (Nz.iv_list (Nz.ev_var rfl)) (Nz.wk_k rfl (Nz.wk_k rfl (Nz.wk_k rfl (Nz.wk_k rfl (Nz.wk_o (by decide) (Nz.wk_a (Nz.wk_a (Nz.wk_a (Nz.wk_a (Nz.wk_a (Nz.wk_a (Nz.wk_a Nz.Wks.nil)))))))))))) (by decide) (fun s6 => (Nz.gt_tup rfl (Nz.gts_cons Nz.gt_name (fun _ => (Nz.gts_nil Nz.gt_name))))) (by decide) (fun s6 y7 => (Nz.bj_ifD (Nz.et_T (Nz.ev_inS Nz.fe_int (Nz.ev_var rfl) (Nz.rs_t (Nz.rt_ev (Nz.ev_var rfl))))) (Nz.bj_seq (Nz.bj_ret (Nz.ev_some Nz.nn_tup (Nz.ev_var rfl)))) (Nz.bj_seq0 (Nz.bj_nx (s := ()) (Nz.wk_k rfl (Nz.wk_k rfl (Nz.wk_k rfl (Nz.wk_k rfl (Nz.wk_o (by decide) (Nz.wk_a (Nz.wk_a (Nz.wk_a (Nz.wk_a (Nz.wk_a (Nz.wk_a (Nz.wk_a Nz.Wks.nil)))))))))))) (by decide))))) (fun s6 => (Nz.bj_asgL (Nz.el_nil (r := (rPr (fc rInt (f1 (rTup (rPr (fc rInt (f1 rInt))))))))) (of_decide_eq_true rfl) (fun fresh_8 => (Nz.bj_for (fS := (fun (s9 : ((List (Int × Bool)) × (List (Int × (List (Int × Int)))))) => [(slV (rTup (rTup (rTup rInt))) a.1), (slV rInt a.2.1), (slV (rTup rInt) a.2.2), (slV (rLst (rPr (fc rInt (f1 (rTup (rPr (fc rInt (f1 rInt)))))))) s4.1), (slDk kyI rBl s9.1), slAny, slAny, (slL (rPr (fc rInt (f1 (rTup (rPr (fc rInt (f1 rInt))))))) s9.2), slAny, slAny, slAny, slAny])) (oS := [4, 7]) (s0 := (s4.2, fresh_8)) (Nz.iv_list (Nz.ev_var rfl)) (Nz.wk_k rfl (Nz.wk_k rfl (Nz.wk_k rfl (Nz.wk_k rfl (Nz.wk_o (by decide) (Nz.wk_a (Nz.wk_a (Nz.wk_o (by decide) (Nz.wk_a (Nz.wk_a (Nz.wk_a (Nz.wk_a Nz.Wks.nil)))))))))))) (by decide) (fun s9 => (Nz.gt_tup rfl (Nz.gts_cons Nz.gt_name (fun _ => (Nz.gts_nil Nz.gt_name))))) (by decide) (fun s9 y10 => (Nz.bj_for (fS := (fun (s12 : ((List (Int × Bool)) × (List (Int × (List (Int × Int)))))) => [(slV (rTup (rTup (rTup rInt))) a.1), (slV rInt a.2.1), (slV (rTup rInt) a.2.2), (slV (rLst (rPr (fc rInt (f1 (rTup (rPr (fc rInt (f1 rInt)))))))) s4.1), (slDk kyI rBl s12.1), (slV rInt y10.1), (slV (rTup (rPr (fc rInt (f1 rInt)))) y10.2), (slL (rPr (fc rInt (f1 (rTup (rPr (fc rInt (f1 rInt))))))) s12.2), slAny, slAny, slAny, slAny])) (oS := [4, 7]) (s0 := (s9.1, s9.2)) (Nz.iv_enumT (Nz.ev_ixT (Nz.rt_ev (Nz.ev_var rfl)) (Nz.ev_var rfl))) (Nz.wk_k rfl (Nz.wk_k rfl (Nz.wk_k rfl (Nz.wk_k rfl (Nz.wk_o (by decide) (Nz.wk_k rfl (Nz.wk_k rfl (Nz.wk_o (by decide) (Nz.wk_a (Nz.wk_a (Nz.wk_a (Nz.wk_a Nz.Wks.nil)))))))))))) (by decide) (fun s12 => (Nz.gt_tup rfl (Nz.gts_cons Nz.gt_name (fun _ => (Nz.gts_nil Nz.gt_name))))) (by decide) (fun s12 y13 => (Nz.bj_for (fS := (fun (s14 : ((List (Int × Bool)) × (List (Int × (List (Int × Int)))))) => [(slV (rTup (rTup (rTup rInt))) a.1), (slV rInt a.2.1), (slV (rTup rInt) a.2.2), (slV (rLst (rPr (fc rInt (f1 (rTup (rPr (fc rInt (f1 rInt)))))))) s4.1), (slDk kyI rBl s14.1), (slV rInt y10.1), (slV (rTup (rPr (fc rInt (f1 rInt)))) y10.2), (slL (rPr (fc rInt (f1 (rTup (rPr (fc rInt (f1 rInt))))))) s14.2), (slV rInt y13.1), (slV (rTup rInt) y13.2), slAny, slAny])) (oS := [4, 7]) (s0 := (s12.1, s12.2)) (Nz.iv_tup (Nz.ev_var rfl)) (Nz.wk_k rfl (Nz.wk_k rfl (Nz.wk_k rfl (Nz.wk_k rfl (Nz.wk_o (by decide) (Nz.wk_k rfl (Nz.wk_k rfl (Nz.wk_o (by decide) (Nz.wk_k rfl (Nz.wk_k rfl (Nz.wk_a (Nz.wk_a Nz.Wks.nil)))))))))))) (by decide) (fun s14 => Nz.gt_name) (by decide) (fun s14 y15 => (Nz.bj_if (fM := (fun (s16 : ((List (Int × Bool)) × (List (Int × (List (Int × Int)))))) => [(slV (rTup (rTup (rTup rInt))) a.1), (slV rInt a.2.1), (slV (rTup rInt) a.2.2), (slV (rLst (rPr (fc rInt (f1 (rTup (rPr (fc rInt (f1 rInt)))))))) s4.1), (slDk kyI rBl s16.1), (slV rInt y10.1), (slV (rTup (rPr (fc rInt (f1 rInt)))) y10.2), (slL (rPr (fc rInt (f1 (rTup (rPr (fc rInt (f1 rInt))))))) s16.2), (slV rInt y13.1), (slV (rTup rInt) y13.2), (slV rInt y15), slAny])) (oM := [4, 7]) (Nz.et_B (Nz.ev_dni Nz.kyr_int (Nz.ev_var rfl) (Nz.rd_own rfl))) (Nz.bj_dput Nz.kyr_int (by decide) rfl (Nz.ev_var rfl) Nz.ev_bl (fun seen_17 => (Nz.bj_app (by decide) rfl (Nz.ev_pr (Nz.ea_c (Nz.ev_var rfl) (Nz.ea_1 (Nz.ev_catT (Nz.ev_var rfl) (Nz.ev_tup (r := (rPr (fc rInt (f1 rInt)))) (Nz.as_c (Nz.ev_pr (Nz.ea_c (Nz.ev_var rfl) (Nz.ea_1 (Nz.ev_var rfl)))) Nz.as_nil)))))) (fun fresh_18 => (Nz.bj_nx (s := (seen_17, fresh_18)) (Nz.wk_k rfl (Nz.wk_k rfl (Nz.wk_k rfl (Nz.wk_k rfl (Nz.wk_o (by decide) (Nz.wk_k rfl (Nz.wk_k rfl (Nz.wk_o (by decide) (Nz.wk_k rfl (Nz.wk_k rfl (Nz.wk_k rfl (Nz.wk_a Nz.Wks.nil)))))))))))) (by decide)))))) (Nz.bj_nx (s := (s14.1, s14.2)) (Nz.wk_k rfl (Nz.wk_k rfl (Nz.wk_k rfl (Nz.wk_k rfl (Nz.wk_o (by decide) (Nz.wk_k rfl (Nz.wk_k rfl (Nz.wk_o (by decide) (Nz.wk_k rfl (Nz.wk_k rfl (Nz.wk_k rfl (Nz.wk_a Nz.Wks.nil)))))))))))) (by decide)) (fun s16 => (Nz.bj_nx (s := (s16.1, s16.2)) (Nz.wk_k rfl (Nz.wk_k rfl (Nz.wk_k rfl (Nz.wk_k rfl (Nz.wk_o (by decide) (Nz.wk_k rfl (Nz.wk_k rfl (Nz.wk_o (by decide) (Nz.wk_k rfl (Nz.wk_k rfl (Nz.wk_a (Nz.wk_a Nz.Wks.nil)))))))))))) (by decide))))) (fun s14 => (Nz.bj_nx (s := (s14.1, s14.2)) (Nz.wk_k rfl (Nz.wk_k rfl (Nz.wk_k rfl (Nz.wk_k rfl (Nz.wk_o (by decide) (Nz.wk_k rfl (Nz.wk_k rfl (Nz.wk_o (by decide) (Nz.wk_a (Nz.wk_a (Nz.wk_a (Nz.wk_a Nz.Wks.nil)))))))))))) (by decide))))) (fun s12 => (Nz.bj_nx (s := (s12.1, s12.2)) (Nz.wk_k rfl (Nz.wk_k rfl (Nz.wk_k rfl (Nz.wk_k rfl (Nz.wk_o (by decide) (Nz.wk_a (Nz.wk_a (Nz.wk_o (by decide) (Nz.wk_a (Nz.wk_a (Nz.wk_a (Nz.wk_a Nz.Wks.nil)))))))))))) (by decide))))) (fun s9 => (Nz.bj_frzL (i := 7) (by decide) rfl (Nz.bj_asg (Nz.ev_l (Nz.el_sortLam (Nz.knows_L Pt qL) (Nz.da_tup (Nz.da_pr (Nz.das_c Nz.da_int (Nz.das_1 Nz.da_int)))) (Nz.rl_ev (Nz.ev_var rfl)))) (fun level_19 => (Nz.bj_nx (s := (level_19, s9.1)) (Nz.wk_k rfl (Nz.wk_k rfl (Nz.wk_k rfl (Nz.wk_k rfl (Nz.wk_o (by decide) (Nz.wk_a (Nz.wk_a (Nz.wk_a (Nz.wk_a (Nz.wk_a (Nz.wk_a (Nz.wk_a Nz.Wks.nil)))))))))))) (by decide)))))))))))) (fun s4 => (Nz.bj_ret (Nz.ev_none (r := (rTup (rPr (fc rInt (f1 rInt)))))))))))))) (fun a k => Eq.mp (by kernel_rfl)) h
abbrev s_law_split_right : Stmt := topS 18
theorem sc_law_split_right : FnScope ["moves", "goal", "start", "split", "at", "strong", "told", "due", "place", "k", "ends", "end", "cyclic", "way", "more", "row"] ["moves", "goal", "start"] (defScope s_law_split_right) := ⟨rfl, rfl, rfl, by decide +kernel, rfl, by decide +kernel, by decide +kernel⟩
def m_law_split_right (a : ((List (List (List Int))) × (List Int) × Int)) : Pg Bool := Pg.outG (m_law_split a.1 >>= fun r1 => ((pure r1 : Pg (List (List (List Int)))) >>= fun split_2 => (m_law_between a.1 >>= fun r3 => ((pure r3 : Pg (List ((Int × Int) × Int))) >>= fun at_4 => (m_strong_plan (a.1, a.2.1) >>= fun r5 => ((pure r5 : Pg (List (Int × (Int × (Option Int))))) >>= fun strong_6 => (m_strong_plan (split_2, a.2.1) >>= fun r7 => ((pure r7 : Pg (List (Int × (Int × (Option Int))))) >>= fun told_8 => ((pure ([] : (List (Int × (Int × (Option Int))))) : Pg (List (Int × (Int × (Option Int))))) >>= fun due_9 => ((Pg.forc ((strong_6).map (·.1)) due_9 (fun y11 s10 => (Pg.opt (dget strong_6 y11) >>= fun e13 => (Pg.ask (CMul (2 : Int) e13.1) >>= fun _ => (Pg.opt (dget strong_6 y11) >>= fun e14 => (Pg.ask ((s10).length < big) >>= fun _ => ((pure (dput s10 y11 (((2 : Int) * e13.1), e14.2)) : Pg (List (Int × (Int × (Option Int))))) >>= fun due_12 => (pure (Ctl.nx due_12)))))))) : Pg (Ctl Bool Empty (List (Int × (Int × (Option Int)))))) >>= Pg.seqG (fun s10 => ((Pg.forc ((at_4).map (·.1)) s10 (fun y16 s15 => (Pg.opt (atI a.1 y16.1) >>= fun e17 => (Pg.opt (atI e17 y16.2) >>= fun e18 => ((pure e18 : Pg (List Int)) >>= fun ends_19 => (Pg.comp ends_19 (fun y20 => pure true) (fun y20 => (pure ((dget strong_6 y20).isSome))) >>= fun l21 => (Pg.iteG (pure (((l21).all id))) ((Pg.comp ends_19 (fun y24 => pure true) (fun y24 => (Pg.opt (dget strong_6 y24) >>= fun e25 => (pure (e25.1)))) >>= fun l26 => (Pg.ask (l26 ≠ []) >>= fun _ => (Pg.ask (CMul (2 : Int) (maxL l26)) >>= fun _ => (Pg.opt (dget at_4 (y16.1, y16.2)) >>= fun e27 => (Pg.ask ((s15).length < big) >>= fun _ => ((pure (dput s15 e27 (((1 : Int) + ((2 : Int) * (maxL l26))), (some (0 : Int)))) : Pg (List (Int × (Int × (Option Int))))) >>= fun due_23 => (pure (Ctl.nx due_23)))))))) : Pg (Ctl Bool (List (Int × (Int × (Option Int)))) (List (Int × (Int × (Option Int)))))) (pure (Ctl.nx s15)) (fun s22 => (pure (Ctl.nx s22))))))))) : Pg (Ctl Bool Empty (List (Int × (Int × (Option Int)))))) >>= Pg.seqG (fun s15 => (Pg.orG (Pg.ask (dEq told_8 s15) >>= fun _ => (pure (false))) (Pg.ask ((s15).length < 64) >>= fun _ => (pure ((!decide (((told_8).map (·.1)) = (sortI ((s15).map (·.1)))))))) >>= fun b28 => (Pg.ifG (pure (b28)) (pure (Ctl.rt false)) (m_cyclic_plan (a.1, a.2.1) >>= fun r29 => ((pure r29 : Pg (List (Int × (Option Int)))) >>= fun cyclic_30 => (m_cyclic_plan (split_2, a.2.1) >>= fun r31 => ((pure r31 : Pg (List (Int × (Option Int)))) >>= fun told_32 => ((pure ([] : (List (Int × (Option Int)))) : Pg (List (Int × (Option Int)))) >>= fun due_33 => ((Pg.forc ((cyclic_30).map (·.1)) due_33 (fun y35 s34 => (Pg.opt (dget cyclic_30 y35) >>= fun e37 => (Pg.ask ((s34).length < big) >>= fun _ => ((pure (dput s34 y35 e37) : Pg (List (Int × (Option Int)))) >>= fun due_36 => (pure (Ctl.nx due_36)))))) : Pg (Ctl Bool Empty (List (Int × (Option Int))))) >>= Pg.seqG (fun s34 => ((Pg.forc ((at_4).map (·.1)) s34 (fun y39 s38 => (Pg.opt (atI a.1 y39.1) >>= fun e40 => (Pg.opt (atI e40 y39.2) >>= fun e41 => (Pg.comp e41 (fun y42 => pure true) (fun y42 => (pure ((dget cyclic_30 y42).isSome))) >>= fun l43 => (Pg.iteG (pure (((l43).all id))) ((Pg.opt (dget at_4 (y39.1, y39.2)) >>= fun e46 => (Pg.ask ((s38).length < big) >>= fun _ => ((pure (dput s38 e46 (some (0 : Int))) : Pg (List (Int × (Option Int)))) >>= fun due_45 => (pure (Ctl.nx due_45))))) : Pg (Ctl Bool (List (Int × (Option Int))) (List (Int × (Option Int))))) (pure (Ctl.nx s38)) (fun s44 => (pure (Ctl.nx s44)))))))) : Pg (Ctl Bool Empty (List (Int × (Option Int))))) >>= Pg.seqG (fun s38 => (Pg.orG (Pg.ask (dEq told_32 s38) >>= fun _ => (pure (false))) (Pg.comp ((strong_6).map (·.1)) (fun y47 => pure true) (fun y47 => (pure ((!(dget cyclic_30 y47).isSome)))) >>= fun l48 => (pure (((l48).any id)))) >>= fun b49 => (Pg.ifG (pure (b49)) (pure (Ctl.rt false)) (Pg.orG (m_strong_plan (split_2, a.2.1) >>= fun r51 => (m_takes_strong (split_2, a.2.1, r51) >>= fun r50 => (pure ((!decide (r50 = true)))))) (m_takes_cyclic (split_2, a.2.1, told_32) >>= fun r52 => (pure ((!decide (r52 = true))))) >>= fun b53 => (Pg.ifG (pure (b53)) (pure (Ctl.rt false)) (m_weak_plan (a.1, a.2.2, a.2.1) >>= fun r54 => ((pure r54 : Pg (Option (List (Int × Int)))) >>= fun way_55 => (m_weak_plan (split_2, a.2.2, a.2.1) >>= fun r56 => ((pure r56 : Pg (Option (List (Int × Int)))) >>= fun more_57 => (Pg.orG (pure ((way_55).isNone)) (pure ((more_57).isNone)) >>= fun b58 => (Pg.ifG (pure (b58)) (Pg.andG (pure ((way_55).isNone)) (pure ((more_57).isNone)) >>= fun b59 => (pure (Ctl.rt b59))) (Pg.ask (([] : (List (Int × Int))).length ≤ big) >>= fun _ => ((pure ([] : (List (Int × Int))) : Pg (List (Int × Int))) >>= fun row_60 => (Pg.opt way_55 >>= fun o61 => ((Pg.forc o61 row_60 (fun y63 s62 => (Pg.opt (dget at_4 (y63.1, y63.2)) >>= fun e64 => (Pg.ask (([(y63.1, y63.2), (e64, (0 : Int))] : (List (Int × Int))).length ≤ big) >>= fun _ => (Pg.ask ((s62 ++ ([(y63.1, y63.2), (e64, (0 : Int))] : (List (Int × Int)))).length ≤ big) >>= fun _ => ((pure (s62 ++ ([(y63.1, y63.2), (e64, (0 : Int))] : (List (Int × Int)))) : Pg (List (Int × Int))) >>= fun row_65 => (pure (Ctl.nx row_65))))))) : Pg (Ctl Bool Empty (List (Int × Int)))) >>= Pg.seqG (fun s62 => (pure (Ctl.rt (decide (more_57 = (some s62)))))))))) : Pg (Ctl Bool Empty Unit))))))) : Pg (Ctl Bool Empty Unit))) : Pg (Ctl Bool Empty Unit)))))))))))) : Pg (Ctl Bool Empty Unit))))))))))))))))
set_option maxHeartbeats 4000000 in
theorem cal_law_split_right (D : Nz.DefK K mg "_law_split_right" s_law_split_right ["moves", "goal", "start"]) (md : Md mg) (c__law_between : Nz.Cal P w K mg base 1 "_law_between" (Nz.spP (K := K) (f1 (rTup (rTup (rTup rInt)))) (rDt (ktP kyI kyI) rInt) (fun a => (m_law_between a).wp)) []) (c__law_split : Nz.Cal P w K mg base 1 "_law_split" (Nz.spP (K := K) (f1 (rTup (rTup (rTup rInt)))) (rTup (rTup (rTup rInt))) (fun a => (m_law_split a).wp)) []) (c_cyclic_plan : Nz.Cal P w K mg base 2 "cyclic_plan" (Nz.spP (K := K) (fc (rTup (rTup (rTup rInt))) (f1 (rTup rInt))) (rDk kyI (rOpt rInt)) (fun a => (m_cyclic_plan a).wp)) []) (c_strong_plan : Nz.Cal P w K mg base 2 "strong_plan" (Nz.spP (K := K) (fc (rTup (rTup (rTup rInt))) (f1 (rTup rInt))) (rDk kyI (rPr (fc rInt (f1 (rOpt rInt))))) (fun a => (m_strong_plan a).wp)) []) (c_takes_cyclic : Nz.Cal P w K mg base 2 "takes_cyclic" (Nz.spP (K := K) (fc (rTup (rTup (rTup rInt))) (fc (rTup rInt) (f1 (rDk kyI (rOpt rInt))))) rBl (fun a => (m_takes_cyclic a).wp)) []) (c_takes_strong : Nz.Cal P w K mg base 2 "takes_strong" (Nz.spP (K := K) (fc (rTup (rTup (rTup rInt))) (fc (rTup rInt) (f1 (rDk kyI (rPr (fc rInt (f1 (rOpt rInt)))))))) rBl (fun a => (m_takes_strong a).wp)) []) (c_weak_plan : Nz.Cal P w K mg base 3 "weak_plan" (Nz.spX (K := K) (effL Pt qL) (fc (rTup (rTup (rTup rInt))) (fc rInt (f1 (rTup rInt)))) (rOpt (rTup (rPr (fc rInt (f1 rInt))))) (fun a => (m_weak_plan a).wp)) []) : Nz.Cal P w K mg base 4 "_law_split_right" (Nz.spX (K := K) (effL Pt qL) (fc (rTup (rTup (rTup rInt))) (fc (rTup rInt) (f1 rInt))) rBl (fun a => (m_law_split_right a).wp)) [] := by
  refine D.cal fun f fd F => F.ok sc_law_split_right (fun vs H Q E h => Nz.spX_len h) (fun cdv A outer s H vs Q E hr h => ?_)
  refine ⟨_, (pss_cons (ps_par (i := 3) (j := 4) rfl sc_law_split_right.nd rfl rfl (by decide) rfl rfl (pa_cons (Nz.pe_c c__law_split hr (by decide) (by rfl) (pa_cons (pv 0) pa_nil)) (pa_cons (Nz.pe_c c__law_between hr (by decide) (by rfl) (pa_cons (pv 0) pa_nil)) pa_nil)) (by rfl)) (pss_cons (ps_asg (pe_tup (pa_cons (Nz.pe_c c_strong_plan hr (by decide) (by rfl) (pa_cons (pv 0) (pa_cons (pv 1) pa_nil))) (pa_cons (Nz.pe_c c_strong_plan hr (by decide) (by rfl) (pa_cons (pv 3) (pa_cons (pv 1) pa_nil))) pa_nil))) (Nz.pg_tupK K 2 rfl (pgs_cons (pg_name (i := 5) sc_law_split_right.nd rfl (Or.inr rfl) (Or.inl rfl)) (pgs_cons (pg_name (i := 6) sc_law_split_right.nd rfl (Or.inl rfl) (Or.inr rfl)) pgs_nil)))) (pss_cons (ps_set (i := 7) sc_law_split_right.nd rfl (Or.inl rfl) pe_dnewK) (pss_cons (ps_lk (ps_for PassesOwn.never rfl (pi_keys (pv 5)) (pg_name (i := 8) sc_law_split_right.nd rfl (Or.inl rfl) (Or.inr rfl)) (pss_cons (ps_dput (hu_of hr) (pv 7) (pv 8) (pe_tup (pa_cons (pe_op op_mul pe_int (pe_ix (ix_tK K) (pe_dget (hu_of hr) (pv 5) (pv 8) (fun _ _ => rfl)) pe_int (fun _ _ => rfl))) (pa_cons (pe_ix (ix_tK K) (pe_dget (hu_of hr) (pv 5) (pv 8) (fun _ _ => rfl)) pe_int (fun _ _ => rfl)) pa_nil))) (by rfl)) pss_nil))) (pss_cons (ps_lk (ps_for PassesOwn.never rfl (pi_keys (pv 4)) (Nz.pg_tupK K 2 rfl (pgs_cons (pg_name (i := 8) sc_law_split_right.nd rfl (Or.inl rfl) (Or.inr rfl)) (pgs_cons (pg_name (i := 9) sc_law_split_right.nd rfl (Or.inl rfl) (Or.inr rfl)) pgs_nil))) (pss_cons (ps_set (i := 10) sc_law_split_right.nd rfl (Or.inl rfl) (pe_ix (ix_tK K) (pe_ix (ix_tK K) (pv 0) (pv 8) (fun _ _ => rfl)) (pv 9) (fun _ _ => rfl))) (pss_cons (ps_if (pt_val (pe_callB (cr_allK K) (by rfl) md.all (by decide +kernel) (pa_cons (pe_lc (own := [("end", 11)]) rfl sc_law_split_right.nd (pi_tK K (pv 10)) (blkOk_by (N := ["moves", "goal", "start", "split", "at", "strong", "told", "due", "place", "k", "ends", "end", "cyclic", "way", "more", "row"]) (sc := (defScope s_law_split_right)) (by decide +kernel)) (fun _ _ _ _ _ => (pg_name (i := 11) sc_law_split_right.nd rfl (Or.inl rfl) (Or.inr rfl))) (fun _ _ _ _ _ => pts_nil) (fun _ _ _ _ _ => (pe_cmp (pc_din (hu_of hr) (pv 11) (pv 5))))) pa_nil))) (pss_cons (ps_dput (hu_of hr) (pv 7) (pe_dget (hu_of hr) (pv 4) (pe_tup (pa_cons (pv 8) (pa_cons (pv 9) pa_nil))) (fun _ _ => rfl)) (pe_tup (pa_cons (pe_op op_add pe_int (pe_op op_mul pe_int (pe_callB (cr_maxK K) (by rfl) md.max (by decide +kernel) (pa_cons (pe_lc (own := [("end", 11)]) rfl sc_law_split_right.nd (pi_tK K (pv 10)) (blkOk_by (N := ["moves", "goal", "start", "split", "at", "strong", "told", "due", "place", "k", "ends", "end", "cyclic", "way", "more", "row"]) (sc := (defScope s_law_split_right)) (by decide +kernel)) (fun _ _ _ _ _ => (pg_name (i := 11) sc_law_split_right.nd rfl (Or.inl rfl) (Or.inr rfl))) (fun _ _ _ _ _ => pts_nil) (fun _ _ _ _ _ => (pe_ix (ix_tK K) (pe_dget (hu_of hr) (pv 5) (pv 11) (fun _ _ => rfl)) pe_int (fun _ _ => rfl)))) pa_nil)))) (pa_cons pe_int pa_nil))) (by rfl)) pss_nil) pss_nil) pss_nil)))) (pss_cons (ps_if (PW.pt (pw_or (pt_cmpR (Nz.op_neDD hr.units K) (pv 6) (pv 7) (by rfl)) (pw_or1 (pt_cmpR (op_neK K hr.units) (pe_callTy (cr_listDR rfl) (by rfl) md.list (by decide +kernel) (pa_cons (pv 6) pa_nil)) (pe_callB Nz.cr_sortedDI (by rfl) md.sorted (by decide +kernel) (pa_cons (pv 7) pa_nil)) (by rfl))))) (pss_cons (ps_ret pe_bl) pss_nil) pss_nil) (pss_cons (ps_asg (pe_tup (pa_cons (Nz.pe_c c_cyclic_plan hr (by decide) (by rfl) (pa_cons (pv 0) (pa_cons (pv 1) pa_nil))) (pa_cons (Nz.pe_c c_cyclic_plan hr (by decide) (by rfl) (pa_cons (pv 3) (pa_cons (pv 1) pa_nil))) pa_nil))) (Nz.pg_tupK K 2 rfl (pgs_cons (pg_name (i := 12) sc_law_split_right.nd rfl (Or.inr rfl) (Or.inl rfl)) (pgs_cons (pg_name (i := 6) sc_law_split_right.nd rfl (Or.inl rfl) (Or.inr rfl)) pgs_nil)))) (pss_cons (ps_set (i := 7) sc_law_split_right.nd rfl (Or.inl rfl) pe_dnewK) (pss_cons (ps_lk (ps_for PassesOwn.never rfl (pi_keys (pv 12)) (pg_name (i := 8) sc_law_split_right.nd rfl (Or.inl rfl) (Or.inr rfl)) (pss_cons (ps_dput (hu_of hr) (pv 7) (pv 8) (pe_dget (hu_of hr) (pv 12) (pv 8) (fun _ _ => rfl)) (by rfl)) pss_nil))) (pss_cons (ps_lk (ps_for PassesOwn.never rfl (pi_keys (pv 4)) (Nz.pg_tupK K 2 rfl (pgs_cons (pg_name (i := 8) sc_law_split_right.nd rfl (Or.inl rfl) (Or.inr rfl)) (pgs_cons (pg_name (i := 9) sc_law_split_right.nd rfl (Or.inl rfl) (Or.inr rfl)) pgs_nil))) (pss_cons (ps_if (pt_val (pe_callB (cr_allK K) (by rfl) md.all (by decide +kernel) (pa_cons (pe_lc (own := [("end", 11)]) rfl sc_law_split_right.nd (pi_tK K (pe_ix (ix_tK K) (pe_ix (ix_tK K) (pv 0) (pv 8) (fun _ _ => rfl)) (pv 9) (fun _ _ => rfl))) (blkOk_by (N := ["moves", "goal", "start", "split", "at", "strong", "told", "due", "place", "k", "ends", "end", "cyclic", "way", "more", "row"]) (sc := (defScope s_law_split_right)) (by decide +kernel)) (fun _ _ _ _ _ => (pg_name (i := 11) sc_law_split_right.nd rfl (Or.inl rfl) (Or.inr rfl))) (fun _ _ _ _ _ => pts_nil) (fun _ _ _ _ _ => (pe_cmp (pc_din (hu_of hr) (pv 11) (pv 12))))) pa_nil))) (pss_cons (ps_dput (hu_of hr) (pv 7) (pe_dget (hu_of hr) (pv 4) (pe_tup (pa_cons (pv 8) (pa_cons (pv 9) pa_nil))) (fun _ _ => rfl)) pe_int (by rfl)) pss_nil) pss_nil) pss_nil))) (pss_cons (ps_if (PW.pt (pw_or (pt_cmpR (Nz.op_neDD hr.units K) (pv 6) (pv 7) (by rfl)) (pw_or1 (pt_val (pe_callB (cr_anyK K) (by rfl) md.any (by decide +kernel) (pa_cons (pe_lk (pe_lc (own := [("place", 8)]) rfl sc_law_split_right.nd (pi_keys (pv 5)) (blkOk_by (N := ["moves", "goal", "start", "split", "at", "strong", "told", "due", "place", "k", "ends", "end", "cyclic", "way", "more", "row"]) (sc := (defScope s_law_split_right)) (by decide +kernel)) (fun _ _ _ _ _ => (pg_name (i := 8) sc_law_split_right.nd rfl (Or.inl rfl) (Or.inr rfl))) (fun _ _ _ _ _ => pts_nil) (fun _ _ _ _ _ => (pe_cmp (pc_dnotin (hu_of hr) (pv 8) (pv 12)))))) pa_nil)))))) (pss_cons (ps_ret pe_bl) pss_nil) pss_nil) (pss_cons (ps_if (PW.pt (pw_or (pt_cmpR op_notBl (Nz.pe_c c_takes_strong hr (by decide) (by rfl) (pa_cons (pv 3) (pa_cons (pv 1) (pa_cons (Nz.pe_c c_strong_plan hr (by decide) (by rfl) (pa_cons (pv 3) (pa_cons (pv 1) pa_nil))) pa_nil)))) pe_bl (by rfl)) (pw_or1 (pt_cmpR op_notBl (Nz.pe_c c_takes_cyclic hr (by decide) (by rfl) (pa_cons (pv 3) (pa_cons (pv 1) (pa_cons (pv 6) pa_nil)))) pe_bl (by rfl))))) (pss_cons (ps_ret pe_bl) pss_nil) pss_nil) (pss_cons (ps_set (i := 13) sc_law_split_right.nd rfl (Or.inl rfl) (Nz.pe_c c_weak_plan hr (by decide) (by rfl) (pa_cons (pv 0) (pa_cons (pv 2) (pa_cons (pv 1) pa_nil))))) (pss_cons (ps_set (i := 14) sc_law_split_right.nd rfl (Or.inl rfl) (Nz.pe_c c_weak_plan hr (by decide) (by rfl) (pa_cons (pv 3) (pa_cons (pv 2) (pa_cons (pv 1) pa_nil))))) (pss_cons (ps_if (PW.pt (pw_or (pt_cmp (pc_isN (pv 13))) (pw_or1 (pt_cmp (pc_isN (pv 14)))))) (pss_cons (ps_ret (pe_and (pe_cmp (pc_isN (pv 13))) (pe_one (pe_cmp (pc_isN (pv 14)))))) pss_nil) pss_nil) (pss_cons (ps_set (i := 15) sc_law_split_right.nd rfl (Or.inl rfl) (pe_tup pa_nil)) (pss_cons (ps_for PassesOwn.never rfl (pi_tK K (pv 13)) (Nz.pg_tupK K 2 rfl (pgs_cons (pg_name (i := 8) sc_law_split_right.nd rfl (Or.inl rfl) (Or.inr rfl)) (pgs_cons (pg_name (i := 9) sc_law_split_right.nd rfl (Or.inl rfl) (Or.inr rfl)) pgs_nil))) (pss_cons (ps_set (i := 15) sc_law_split_right.nd rfl (Or.inl rfl) (pe_op (op_catK K) (pv 15) (pe_tup (pa_cons (pe_tup (pa_cons (pv 8) (pa_cons (pv 9) pa_nil))) (pa_cons (pe_tup (pa_cons (pe_dget (hu_of hr) (pv 4) (pe_tup (pa_cons (pv 8) (pa_cons (pv 9) pa_nil))) (fun _ _ => rfl)) (pa_cons pe_int pa_nil))) pa_nil))))) pss_nil)) (pss_cons (ps_ret (pe_cmpR (op_eqK K hr.units) (pv 14) (pv 15) (by rfl))) pss_nil)))))))))))))))))), ?_⟩
  exact Nz.fnX (n := 13) (Nz.prm_c (Nz.prm_c Nz.prm_1)) rfl (fun a => (Nz.bj_par (Nz.us_v (Nz.ev_call (Nz.ea_1 (Nz.ev_var rfl)))) (Nz.us_v (Nz.ev_call (Nz.ea_1 (Nz.ev_var rfl)))) (of_decide_eq_true rfl) (of_decide_eq_true rfl) (fun split_2 at_4 => (Nz.bj_tup2 (Nz.us_v (Nz.ev_call (Nz.ea_c (Nz.ev_var rfl) (Nz.ea_1 (Nz.ev_var rfl))))) (Nz.us_v (Nz.ev_call (Nz.ea_c (Nz.ev_var rfl) (Nz.ea_1 (Nz.ev_var rfl))))) (of_decide_eq_true rfl) (of_decide_eq_true rfl) (fun strong_6 told_8 => (Nz.bj_asgD (Nz.ed_new (e := kyI) (r := (rPr (fc rInt (f1 (rOpt rInt)))))) (of_decide_eq_true rfl) (fun due_9 => (Nz.bj_forK (fS := (fun (s10 : (List (Int × (Int × (Option Int))))) => [(slV (rTup (rTup (rTup rInt))) a.1), (slV (rTup rInt) a.2.1), (slV rInt a.2.2), (slV (rTup (rTup (rTup rInt))) split_2), (slV (rDt (ktP kyI kyI) rInt) at_4), (slV (rDk kyI (rPr (fc rInt (f1 (rOpt rInt))))) strong_6), (slV (rDk kyI (rPr (fc rInt (f1 (rOpt rInt))))) told_8), (slDk kyI (rPr (fc rInt (f1 (rOpt rInt)))) s10), slAny, slAny, slAny, slAny, slAny, slAny, slAny, slAny])) (oS := [7]) (s0 := due_9) rfl (Nz.kw_keys Nz.kyw_int) (Nz.wk_k rfl (Nz.wk_k rfl (Nz.wk_k rfl (Nz.wk_k rfl (Nz.wk_k rfl (Nz.wk_k rfl (Nz.wk_k rfl (Nz.wk_o (by decide) (Nz.wk_a (Nz.wk_a (Nz.wk_a (Nz.wk_a (Nz.wk_a (Nz.wk_a (Nz.wk_a (Nz.wk_a Nz.Wks.nil)))))))))))))))) (by decide) (fun s10 => Nz.gt_name) (by decide) (fun s10 y11 => (Nz.bj_dput Nz.kyr_int (by decide) rfl (Nz.ev_var rfl) (Nz.ev_pr (Nz.ea_c (Nz.ev_I (C := CMul) (g := fun i j => i * j) (Nz.ev_int (i := 2)) (Nz.ev_fld (i := 0) Nz.fld_0 (Nz.ev_dget Nz.kyr_int (Nz.rd_ev (Nz.ev_var rfl)) (Nz.ev_var rfl)))) (Nz.ea_1 (Nz.ev_fld (i := 1) (Nz.fld_s (n := 0) Nz.fld_one) (Nz.ev_dget Nz.kyr_int (Nz.rd_ev (Nz.ev_var rfl)) (Nz.ev_var rfl)))))) (fun due_12 => (Nz.bj_nx (s := due_12) (Nz.wk_k rfl (Nz.wk_k rfl (Nz.wk_k rfl (Nz.wk_k rfl (Nz.wk_k rfl (Nz.wk_k rfl (Nz.wk_k rfl (Nz.wk_o (by decide) (Nz.wk_a (Nz.wk_a (Nz.wk_a (Nz.wk_a (Nz.wk_a (Nz.wk_a (Nz.wk_a (Nz.wk_a Nz.Wks.nil)))))))))))))))) (by decide))))) (fun s10 => (Nz.bj_forK (fS := (fun (s15 : (List (Int × (Int × (Option Int))))) => [(slV (rTup (rTup (rTup rInt))) a.1), (slV (rTup rInt) a.2.1), (slV rInt a.2.2), (slV (rTup (rTup (rTup rInt))) split_2), (slV (rDt (ktP kyI kyI) rInt) at_4), (slV (rDk kyI (rPr (fc rInt (f1 (rOpt rInt))))) strong_6), (slV (rDk kyI (rPr (fc rInt (f1 (rOpt rInt))))) told_8), (slDk kyI (rPr (fc rInt (f1 (rOpt rInt)))) s15), slAny, slAny, slAny, slAny, slAny, slAny, slAny, slAny])) (oS := [7]) (s0 := s10) rfl (Nz.kw_keysT (Nz.ktw_ii Nz.kyw_int Nz.kyw_int)) (Nz.wk_k rfl (Nz.wk_k rfl (Nz.wk_k rfl (Nz.wk_k rfl (Nz.wk_k rfl (Nz.wk_k rfl (Nz.wk_k rfl (Nz.wk_o (by decide) (Nz.wk_a (Nz.wk_a (Nz.wk_a (Nz.wk_a (Nz.wk_a (Nz.wk_a (Nz.wk_a (Nz.wk_a Nz.Wks.nil)))))))))))))))) (by decide) (fun s15 => (Nz.gt_tup rfl (Nz.gts_cons Nz.gt_name (fun _ => (Nz.gts_nil Nz.gt_name))))) (by decide) (fun s15 y16 => (Nz.bj_asg (Nz.ev_ixT (Nz.rt_ev (Nz.ev_ixT (Nz.rt_ev (Nz.ev_var rfl)) (Nz.ev_var rfl))) (Nz.ev_var rfl)) (fun ends_19 => (Nz.bj_if (fM := (fun (s22 : (List (Int × (Int × (Option Int))))) => [(slV (rTup (rTup (rTup rInt))) a.1), (slV (rTup rInt) a.2.1), (slV rInt a.2.2), (slV (rTup (rTup (rTup rInt))) split_2), (slV (rDt (ktP kyI kyI) rInt) at_4), (slV (rDk kyI (rPr (fc rInt (f1 (rOpt rInt))))) strong_6), (slV (rDk kyI (rPr (fc rInt (f1 (rOpt rInt))))) told_8), (slDk kyI (rPr (fc rInt (f1 (rOpt rInt)))) s22), (slV rInt y16.1), (slV rInt y16.2), (slV (rTup rInt) ends_19), slAny, slAny, slAny, slAny, slAny])) (oM := [7]) (Nz.et_B (Nz.ev_all (Nz.rl_l (Nz.el_lc (Nz.ir_iv (Nz.iv_tup (Nz.ev_var rfl))) Nz.gt_name (by decide) (fun y20 => Nz.et_yes) (fun y20 => (Nz.ev_din Nz.kyr_int (Nz.ev_var rfl) (Nz.rd_ev (Nz.ev_var rfl)))))))) (Nz.bj_dput Nz.kyr_int (by decide) rfl (Nz.ev_dtget (Nz.ktx_ii Nz.kyr_int Nz.kyr_int) (Nz.rdt_ev (Nz.ev_var rfl)) (Nz.ea_c (Nz.ev_var rfl) (Nz.ea_1 (Nz.ev_var rfl)))) (Nz.ev_pr (Nz.ea_c (Nz.ev_I0 (g := fun i j => i + j) (Nz.ev_int (i := 1)) (Nz.ev_I (C := CMul) (g := fun i j => i * j) (Nz.ev_int (i := 2)) (Nz.ev_max (Nz.rl_l (Nz.el_lc (Nz.ir_iv (Nz.iv_tup (Nz.ev_var rfl))) Nz.gt_name (by decide) (fun y24 => Nz.et_yes) (fun y24 => (Nz.ev_fld (i := 0) Nz.fld_0 (Nz.ev_dget Nz.kyr_int (Nz.rd_ev (Nz.ev_var rfl)) (Nz.ev_var rfl))))))))) (Nz.ea_1 (Nz.ev_some Nz.nn_int (Nz.ev_int (i := 0)))))) (fun due_23 => (Nz.bj_nx (s := due_23) (Nz.wk_k rfl (Nz.wk_k rfl (Nz.wk_k rfl (Nz.wk_k rfl (Nz.wk_k rfl (Nz.wk_k rfl (Nz.wk_k rfl (Nz.wk_o (by decide) (Nz.wk_k rfl (Nz.wk_k rfl (Nz.wk_k rfl (Nz.wk_a (Nz.wk_a (Nz.wk_a (Nz.wk_a (Nz.wk_a Nz.Wks.nil)))))))))))))))) (by decide)))) (Nz.bj_nx (s := s15) (Nz.wk_k rfl (Nz.wk_k rfl (Nz.wk_k rfl (Nz.wk_k rfl (Nz.wk_k rfl (Nz.wk_k rfl (Nz.wk_k rfl (Nz.wk_o (by decide) (Nz.wk_k rfl (Nz.wk_k rfl (Nz.wk_k rfl (Nz.wk_a (Nz.wk_a (Nz.wk_a (Nz.wk_a (Nz.wk_a Nz.Wks.nil)))))))))))))))) (by decide)) (fun s22 => (Nz.bj_nx (s := s22) (Nz.wk_k rfl (Nz.wk_k rfl (Nz.wk_k rfl (Nz.wk_k rfl (Nz.wk_k rfl (Nz.wk_k rfl (Nz.wk_k rfl (Nz.wk_o (by decide) (Nz.wk_a (Nz.wk_a (Nz.wk_a (Nz.wk_a (Nz.wk_a (Nz.wk_a (Nz.wk_a (Nz.wk_a Nz.Wks.nil)))))))))))))))) (by decide))))))) (fun s15 => (Nz.bj_frzD (i := 7) (by decide) rfl (Nz.bj_ifD (Nz.et_or (Nz.et_T (Nz.ev_DD (ans := false) (Nz.da_pr (Nz.das_c Nz.da_int (Nz.das_1 (Nz.da_opt Nz.da_int (fun _ h => nomatch h))))) (Nz.rd_ev (Nz.ev_var rfl)) (Nz.rd_ev (Nz.ev_var rfl)))) (Nz.et_T (Nz.ev_neD (Nz.da_lst Nz.da_int) (Nz.ev_l (Nz.el_listDR (Nz.rd_ev (Nz.ev_var rfl)))) (Nz.ev_l (Nz.el_sortedD (Nz.rd_ev (Nz.ev_var rfl))))))) (Nz.bj_seq (Nz.bj_ret Nz.ev_bl)) (Nz.bj_seq0 (Nz.bj_tup2 (Nz.us_v (Nz.ev_call (Nz.ea_c (Nz.ev_var rfl) (Nz.ea_1 (Nz.ev_var rfl))))) (Nz.us_v (Nz.ev_call (Nz.ea_c (Nz.ev_var rfl) (Nz.ea_1 (Nz.ev_var rfl))))) (of_decide_eq_true rfl) (of_decide_eq_true rfl) (fun cyclic_30 told_32 => (Nz.bj_asgD (Nz.ed_new (e := kyI) (r := (rOpt rInt))) (of_decide_eq_true rfl) (fun due_33 => (Nz.bj_forK (fS := (fun (s34 : (List (Int × (Option Int)))) => [(slV (rTup (rTup (rTup rInt))) a.1), (slV (rTup rInt) a.2.1), (slV rInt a.2.2), (slV (rTup (rTup (rTup rInt))) split_2), (slV (rDt (ktP kyI kyI) rInt) at_4), (slV (rDk kyI (rPr (fc rInt (f1 (rOpt rInt))))) strong_6), (slV (rDk kyI (rOpt rInt)) told_32), (slDk kyI (rOpt rInt) s34), slAny, slAny, slAny, slAny, (slV (rDk kyI (rOpt rInt)) cyclic_30), slAny, slAny, slAny])) (oS := [7]) (s0 := due_33) rfl (Nz.kw_keys Nz.kyw_int) (Nz.wk_k rfl (Nz.wk_k rfl (Nz.wk_k rfl (Nz.wk_k rfl (Nz.wk_k rfl (Nz.wk_k rfl (Nz.wk_k rfl (Nz.wk_o (by decide) (Nz.wk_a (Nz.wk_a (Nz.wk_a (Nz.wk_a (Nz.wk_k rfl (Nz.wk_a (Nz.wk_a (Nz.wk_a Nz.Wks.nil)))))))))))))))) (by decide) (fun s34 => Nz.gt_name) (by decide) (fun s34 y35 => (Nz.bj_dput Nz.kyr_int (by decide) rfl (Nz.ev_var rfl) (Nz.ev_dget Nz.kyr_int (Nz.rd_ev (Nz.ev_var rfl)) (Nz.ev_var rfl)) (fun due_36 => (Nz.bj_nx (s := due_36) (Nz.wk_k rfl (Nz.wk_k rfl (Nz.wk_k rfl (Nz.wk_k rfl (Nz.wk_k rfl (Nz.wk_k rfl (Nz.wk_k rfl (Nz.wk_o (by decide) (Nz.wk_a (Nz.wk_a (Nz.wk_a (Nz.wk_a (Nz.wk_k rfl (Nz.wk_a (Nz.wk_a (Nz.wk_a Nz.Wks.nil)))))))))))))))) (by decide))))) (fun s34 => (Nz.bj_forK (fS := (fun (s38 : (List (Int × (Option Int)))) => [(slV (rTup (rTup (rTup rInt))) a.1), (slV (rTup rInt) a.2.1), (slV rInt a.2.2), (slV (rTup (rTup (rTup rInt))) split_2), (slV (rDt (ktP kyI kyI) rInt) at_4), (slV (rDk kyI (rPr (fc rInt (f1 (rOpt rInt))))) strong_6), (slV (rDk kyI (rOpt rInt)) told_32), (slDk kyI (rOpt rInt) s38), slAny, slAny, slAny, slAny, (slV (rDk kyI (rOpt rInt)) cyclic_30), slAny, slAny, slAny])) (oS := [7]) (s0 := s34) rfl (Nz.kw_keysT (Nz.ktw_ii Nz.kyw_int Nz.kyw_int)) (Nz.wk_k rfl (Nz.wk_k rfl (Nz.wk_k rfl (Nz.wk_k rfl (Nz.wk_k rfl (Nz.wk_k rfl (Nz.wk_k rfl (Nz.wk_o (by decide) (Nz.wk_a (Nz.wk_a (Nz.wk_a (Nz.wk_a (Nz.wk_k rfl (Nz.wk_a (Nz.wk_a (Nz.wk_a Nz.Wks.nil)))))))))))))))) (by decide) (fun s38 => (Nz.gt_tup rfl (Nz.gts_cons Nz.gt_name (fun _ => (Nz.gts_nil Nz.gt_name))))) (by decide) (fun s38 y39 => (Nz.bj_if (fM := (fun (s44 : (List (Int × (Option Int)))) => [(slV (rTup (rTup (rTup rInt))) a.1), (slV (rTup rInt) a.2.1), (slV rInt a.2.2), (slV (rTup (rTup (rTup rInt))) split_2), (slV (rDt (ktP kyI kyI) rInt) at_4), (slV (rDk kyI (rPr (fc rInt (f1 (rOpt rInt))))) strong_6), (slV (rDk kyI (rOpt rInt)) told_32), (slDk kyI (rOpt rInt) s44), (slV rInt y39.1), (slV rInt y39.2), slAny, slAny, (slV (rDk kyI (rOpt rInt)) cyclic_30), slAny, slAny, slAny])) (oM := [7]) (Nz.et_B (Nz.ev_all (Nz.rl_l (Nz.el_lc (Nz.ir_iv (Nz.iv_tup (Nz.ev_ixT (Nz.rt_ev (Nz.ev_ixT (Nz.rt_ev (Nz.ev_var rfl)) (Nz.ev_var rfl))) (Nz.ev_var rfl)))) Nz.gt_name (by decide) (fun y42 => Nz.et_yes) (fun y42 => (Nz.ev_din Nz.kyr_int (Nz.ev_var rfl) (Nz.rd_ev (Nz.ev_var rfl)))))))) (Nz.bj_dput Nz.kyr_int (by decide) rfl (Nz.ev_dtget (Nz.ktx_ii Nz.kyr_int Nz.kyr_int) (Nz.rdt_ev (Nz.ev_var rfl)) (Nz.ea_c (Nz.ev_var rfl) (Nz.ea_1 (Nz.ev_var rfl)))) (Nz.ev_some Nz.nn_int (Nz.ev_int (i := 0))) (fun due_45 => (Nz.bj_nx (s := due_45) (Nz.wk_k rfl (Nz.wk_k rfl (Nz.wk_k rfl (Nz.wk_k rfl (Nz.wk_k rfl (Nz.wk_k rfl (Nz.wk_k rfl (Nz.wk_o (by decide) (Nz.wk_k rfl (Nz.wk_k rfl (Nz.wk_a (Nz.wk_a (Nz.wk_k rfl (Nz.wk_a (Nz.wk_a (Nz.wk_a Nz.Wks.nil)))))))))))))))) (by decide)))) (Nz.bj_nx (s := s38) (Nz.wk_k rfl (Nz.wk_k rfl (Nz.wk_k rfl (Nz.wk_k rfl (Nz.wk_k rfl (Nz.wk_k rfl (Nz.wk_k rfl (Nz.wk_o (by decide) (Nz.wk_k rfl (Nz.wk_k rfl (Nz.wk_a (Nz.wk_a (Nz.wk_k rfl (Nz.wk_a (Nz.wk_a (Nz.wk_a Nz.Wks.nil)))))))))))))))) (by decide)) (fun s44 => (Nz.bj_nx (s := s44) (Nz.wk_k rfl (Nz.wk_k rfl (Nz.wk_k rfl (Nz.wk_k rfl (Nz.wk_k rfl (Nz.wk_k rfl (Nz.wk_k rfl (Nz.wk_o (by decide) (Nz.wk_a (Nz.wk_a (Nz.wk_a (Nz.wk_a (Nz.wk_k rfl (Nz.wk_a (Nz.wk_a (Nz.wk_a Nz.Wks.nil)))))))))))))))) (by decide))))) (fun s38 => (Nz.bj_frzD (i := 7) (by decide) rfl (Nz.bj_ifD (Nz.et_or (Nz.et_T (Nz.ev_DD (ans := false) (Nz.da_opt Nz.da_int (fun _ h => nomatch h)) (Nz.rd_ev (Nz.ev_var rfl)) (Nz.rd_ev (Nz.ev_var rfl)))) (Nz.et_B (Nz.ev_any (Nz.rl_l (Nz.el_lk Nz.lk_val (i := 5) rfl (Nz.el_lc (Nz.ir_keysF Nz.kyw_int rfl) Nz.gt_name (by decide) (fun y47 => Nz.et_yes) (fun y47 => (Nz.ev_dni Nz.kyr_int (Nz.ev_var rfl) (Nz.rd_ev (Nz.ev_var rfl)))))))))) (Nz.bj_seq (Nz.bj_ret Nz.ev_bl)) (Nz.bj_seq0 (Nz.bj_ifD (Nz.et_or (Nz.et_T (Nz.ev_notB (Nz.ev_call (Nz.ea_c (Nz.ev_var rfl) (Nz.ea_c (Nz.ev_var rfl) (Nz.ea_1 (Nz.ev_call (Nz.ea_c (Nz.ev_var rfl) (Nz.ea_1 (Nz.ev_var rfl)))))))) Nz.ev_bl)) (Nz.et_T (Nz.ev_notB (Nz.ev_call (Nz.ea_c (Nz.ev_var rfl) (Nz.ea_c (Nz.ev_var rfl) (Nz.ea_1 (Nz.ev_var rfl))))) Nz.ev_bl))) (Nz.bj_seq (Nz.bj_ret Nz.ev_bl)) (Nz.bj_seq0 (Nz.bj_asg (Nz.ev_callX (Nz.EffIn.refl _) (Nz.ea_c (Nz.ev_var rfl) (Nz.ea_c (Nz.ev_var rfl) (Nz.ea_1 (Nz.ev_var rfl))))) (fun way_55 => (Nz.bj_asg (Nz.ev_callX (Nz.EffIn.refl _) (Nz.ea_c (Nz.ev_var rfl) (Nz.ea_c (Nz.ev_var rfl) (Nz.ea_1 (Nz.ev_var rfl))))) (fun more_57 => (Nz.bj_ifD (Nz.et_or (Nz.et_B (Nz.ev_isN (Nz.ev_var rfl))) (Nz.et_B (Nz.ev_isN (Nz.ev_var rfl)))) (Nz.bj_seq (Nz.bj_ret (Nz.ev_and (Nz.ev_isN (Nz.ev_var rfl)) (Nz.ev_isN (Nz.ev_var rfl))))) (Nz.bj_seq0 (Nz.bj_asg (Nz.ev_tup (r := (rPr (fc rInt (f1 rInt)))) Nz.as_nil) (fun row_60 => (Nz.bj_for (fS := (fun (s62 : (List (Int × Int))) => [(slV (rTup (rTup (rTup rInt))) a.1), (slV (rTup rInt) a.2.1), (slV rInt a.2.2), (slV (rTup (rTup (rTup rInt))) split_2), (slV (rDt (ktP kyI kyI) rInt) at_4), (slV (rDk kyI (rPr (fc rInt (f1 (rOpt rInt))))) strong_6), (slV (rDk kyI (rOpt rInt)) told_32), (slV (rDk kyI (rOpt rInt)) s38), slAny, slAny, slAny, slAny, (slV (rDk kyI (rOpt rInt)) cyclic_30), (slV (rOpt (rTup (rPr (fc rInt (f1 rInt))))) way_55), (slV (rOpt (rTup (rPr (fc rInt (f1 rInt))))) more_57), (slV (rTup (rPr (fc rInt (f1 rInt)))) s62)])) (oS := []) (s0 := row_60) (Nz.iv_tup (Nz.ev_get (Nz.ev_var rfl))) (Nz.wk_k rfl (Nz.wk_k rfl (Nz.wk_k rfl (Nz.wk_k rfl (Nz.wk_k rfl (Nz.wk_k rfl (Nz.wk_k rfl (Nz.wk_k rfl (Nz.wk_a (Nz.wk_a (Nz.wk_a (Nz.wk_a (Nz.wk_k rfl (Nz.wk_k rfl (Nz.wk_k rfl (Nz.wk_k rfl Nz.Wks.nil)))))))))))))))) (by decide) (fun s62 => (Nz.gt_tup rfl (Nz.gts_cons Nz.gt_name (fun _ => (Nz.gts_nil Nz.gt_name))))) (by decide) (fun s62 y63 => (Nz.bj_asg (Nz.ev_catT (Nz.ev_var rfl) (Nz.ev_tup (r := (rPr (fc rInt (f1 rInt)))) (Nz.as_c (Nz.ev_pr (Nz.ea_c (Nz.ev_var rfl) (Nz.ea_1 (Nz.ev_var rfl)))) (Nz.as_c (Nz.ev_pr (Nz.ea_c (Nz.ev_dtget (Nz.ktx_ii Nz.kyr_int Nz.kyr_int) (Nz.rdt_ev (Nz.ev_var rfl)) (Nz.ea_c (Nz.ev_var rfl) (Nz.ea_1 (Nz.ev_var rfl)))) (Nz.ea_1 (Nz.ev_int (i := 0))))) Nz.as_nil)))) (fun row_65 => (Nz.bj_nx (s := row_65) (Nz.wk_k rfl (Nz.wk_k rfl (Nz.wk_k rfl (Nz.wk_k rfl (Nz.wk_k rfl (Nz.wk_k rfl (Nz.wk_k rfl (Nz.wk_k rfl (Nz.wk_a (Nz.wk_a (Nz.wk_a (Nz.wk_a (Nz.wk_k rfl (Nz.wk_k rfl (Nz.wk_k rfl (Nz.wk_k rfl Nz.Wks.nil)))))))))))))))) (by decide))))) (fun s62 => (Nz.bj_ret (Nz.ev_eqD (Nz.da_opt (Nz.da_tup (Nz.da_pr (Nz.das_c Nz.da_int (Nz.das_1 Nz.da_int)))) (fun _ h => nomatch h)) (Nz.ev_var rfl) (Nz.ev_some Nz.nn_tup (Nz.ev_var rfl))))))))))))))))))))))))))))))))))))))))) (fun a k => Eq.mp (by kernel_rfl)) h
abbrev s_law_more_right : Stmt := topS 20
theorem sc_law_more_right : FnScope ["tape", "moves", "goal", "many", "more", "strong", "wide", "place", "cyclic", "extra", "ends", "row", "hard", "longer", "plain", "one", "two", "way"] ["tape", "moves", "goal"] (defScope s_law_more_right) := ⟨rfl, rfl, rfl, by decide +kernel, rfl, by decide +kernel, by decide +kernel⟩
def m_law_more_right (a : ((List (List (List Int))) × (List Int))) : Pg Bool := Pg.outG ((pure ((a.1).length : Int) : Pg Int) >>= fun many_1 => (m_law_take many_1 >>= fun r2 => (Pg.ask (([r2] : (List Int)).length ≤ big) >>= fun _ => (Pg.ask ((a.2 ++ ([r2] : (List Int))).length ≤ big) >>= fun _ => (Pg.ask (((a.2 ++ ([r2] : (List Int)))).length < 64) >>= fun _ => ((pure (sortU (a.2 ++ ([r2] : (List Int)))) : Pg (List Int)) >>= fun more_3 => (m_strong_plan (a.1, a.2) >>= fun r4 => ((pure r4 : Pg (List (Int × (Int × (Option Int))))) >>= fun strong_5 => (m_strong_plan (a.1, more_3) >>= fun r6 => ((pure r6 : Pg (List (Int × (Int × (Option Int))))) >>= fun wide_7 => (Pg.comp ((strong_5).map (·.1)) (fun y8 => pure true) (fun y8 => (Pg.orG (pure ((!(dget wide_7 y8).isSome))) (Pg.opt (dget wide_7 y8) >>= fun e9 => (Pg.opt (dget strong_5 y8) >>= fun e10 => (pure ((decide (e10.1 < e9.1)))))) >>= fun b11 => (pure (b11)))) >>= fun l12 => (Pg.ifG (pure (((l12).any id))) (pure (Ctl.rt false)) (m_cyclic_plan (a.1, a.2) >>= fun r13 => ((pure r13 : Pg (List (Int × (Option Int)))) >>= fun cyclic_14 => (Pg.comp ((cyclic_14).map (·.1)) (fun y15 => pure true) (fun y15 => (m_cyclic_plan (a.1, more_3) >>= fun r16 => (pure ((!(dget r16 y15).isSome))))) >>= fun l17 => (Pg.ifG (pure (((l17).any id))) (pure (Ctl.rt false)) (Pg.comp a.1 (fun y18 => pure true) (fun y18 => (Pg.comp y18 (fun y19 => pure true) (fun y19 => (m_law_take many_1 >>= fun r20 => (Pg.ask (([r20] : (List Int)).length ≤ big) >>= fun _ => (Pg.ask ((y19 ++ ([r20] : (List Int))).length ≤ big) >>= fun _ => (Pg.ask (((y19 ++ ([r20] : (List Int)))).length < 64) >>= fun _ => (pure ((sortU (y19 ++ ([r20] : (List Int))))))))))) >>= fun l21 => (pure (l21)))) >>= fun l22 => ((pure l22 : Pg (List (List (List Int)))) >>= fun extra_23 => (m_strong_plan (extra_23, a.2) >>= fun r24 => ((pure r24 : Pg (List (Int × (Int × (Option Int))))) >>= fun hard_25 => (Pg.comp ((hard_25).map (·.1)) (fun y26 => pure true) (fun y26 => (Pg.orG (pure ((!(dget strong_5 y26).isSome))) (Pg.opt (dget hard_25 y26) >>= fun e27 => (Pg.opt (dget strong_5 y26) >>= fun e28 => (pure ((decide (e27.1 < e28.1)))))) >>= fun b29 => (pure (b29)))) >>= fun l30 => (Pg.ifG (pure (((l30).any id))) (pure (Ctl.rt false)) (Pg.ask (-100000 ≤ many_1 ∧ many_1 ≤ 100000) >>= fun _ => (Pg.comp (rg many_1) (fun y31 => pure true) (fun y31 => (Pg.opt (atI a.1 y31) >>= fun e33 => ((Pg.ifG (Pg.opt (atI a.1 y31) >>= fun e34 => (pure ((decide ((0 : Int) < ((e34).length : Int)))))) (Pg.opt (atI extra_23 y31) >>= fun e35 => (Pg.opt (atI e35 (0 : Int)) >>= fun e36 => (Pg.ask (([e36] : (List (List Int))).length ≤ big) >>= fun _ => (pure (([e36] : (List (List Int)))))))) (pure (([] : (List (List Int))))) : Pg (List (List Int))) >>= fun c37 => (Pg.ask ((e33 ++ c37).length ≤ big) >>= fun _ => (pure ((e33 ++ c37))))))) >>= fun l38 => ((pure l38 : Pg (List (List (List Int)))) >>= fun longer_39 => (m_strong_plan (longer_39, a.2) >>= fun r40 => (Pg.ask (dEq r40 strong_5) >>= fun _ => (Pg.ifG (pure (false)) (pure (Ctl.rt false)) (Pg.comp a.1 (fun y41 => pure true) (fun y41 => (Pg.comp y41 (fun y42 => pure true) (fun y42 => (pure ((cut y42 none (some (1 : Int)))))) >>= fun l43 => (pure (l43)))) >>= fun l44 => ((pure l44 : Pg (List (List (List Int)))) >>= fun plain_45 => (m_strong_plan (plain_45, a.2) >>= fun r46 => ((pure r46 : Pg (List (Int × (Int × (Option Int))))) >>= fun one_47 => (m_cyclic_plan (plain_45, a.2) >>= fun r48 => ((pure r48 : Pg (List (Int × (Option Int)))) >>= fun two_49 => (Pg.orG (Pg.ask ((one_47).length < 64) >>= fun _ => (Pg.ask ((two_49).length < 64) >>= fun _ => (pure ((!decide ((sortI ((one_47).map (·.1))) = (sortI ((two_49).map (·.1))))))))) (Pg.comp ((one_47).map (·.1)) (fun y50 => pure true) (fun y50 => (Pg.opt (dget one_47 y50) >>= fun e51 => (Pg.opt (dget two_49 y50) >>= fun e52 => (pure ((!decide (e51.2 = e52))))))) >>= fun l53 => (pure (((l53).any id)))) >>= fun b54 => (Pg.ifG (pure (b54)) (pure (Ctl.rt false)) (Pg.ask (-100000 ≤ many_1 ∧ many_1 ≤ 100000) >>= fun _ => ((Pg.forc (rg many_1) () (fun y56 s55 => (m_weak_plan (plain_45, y56, a.2) >>= fun r57 => ((pure r57 : Pg (Option (List (Int × Int)))) >>= fun way_58 => (Pg.orG (pure ((!decide ((way_58).isNone = (!(dget one_47 y56).isSome))))) (Pg.andG (pure ((way_58).isSome)) (Pg.opt way_58 >>= fun o59 => (Pg.opt (dget one_47 y56) >>= fun e60 => (pure ((!decide (((o59).length : Int) = e60.1)))))) >>= fun b61 => (pure (b61))) >>= fun b62 => (Pg.ifG (pure (b62)) (pure (Ctl.rt false)) (pure (Ctl.nx ())) : Pg (Ctl Bool Unit Unit)))))) : Pg (Ctl Bool Empty Unit)) >>= Pg.seqG (fun s55 => (pure (Ctl.rt true))))) : Pg (Ctl Bool Empty Unit))))))))) : Pg (Ctl Bool Empty Unit))))))) : Pg (Ctl Bool Empty Unit))))))) : Pg (Ctl Bool Empty Unit))))) : Pg (Ctl Bool Empty Unit)))))))))))))
set_option maxHeartbeats 4000000 in
theorem cal_law_more_right (D : Nz.DefK K mg "_law_more_right" s_law_more_right ["tape", "moves", "goal"]) (md : Md mg) (c__law_take : Nz.Cal P w K mg base 1 "_law_take" (Nz.spTX (K := K) effT (f1 rInt) rInt (fun a => (m_law_take a).wp)) []) (c_cyclic_plan : Nz.Cal P w K mg base 2 "cyclic_plan" (Nz.spP (K := K) (fc (rTup (rTup (rTup rInt))) (f1 (rTup rInt))) (rDk kyI (rOpt rInt)) (fun a => (m_cyclic_plan a).wp)) []) (c_strong_plan : Nz.Cal P w K mg base 2 "strong_plan" (Nz.spP (K := K) (fc (rTup (rTup (rTup rInt))) (f1 (rTup rInt))) (rDk kyI (rPr (fc rInt (f1 (rOpt rInt))))) (fun a => (m_strong_plan a).wp)) []) (c_weak_plan : Nz.Cal P w K mg base 3 "weak_plan" (Nz.spX (K := K) (effL Pt qL) (fc (rTup (rTup (rTup rInt))) (fc rInt (f1 (rTup rInt)))) (rOpt (rTup (rPr (fc rInt (f1 rInt))))) (fun a => (m_weak_plan a).wp)) []) : Nz.Cal P w K mg base 4 "_law_more_right" (Nz.spTX (K := K) (effQ Pt qL) (fc (rTup (rTup (rTup rInt))) (f1 (rTup rInt))) rBl (fun a => (m_law_more_right a).wp)) [] := by
  refine D.cal fun f fd F => F.ok sc_law_more_right (fun vs H Q E h => Nz.spTX_len h) (fun cdv A outer s H vs Q E hr h => ?_)
  refine ⟨_, (pss_cons (ps_set (i := 3) sc_law_more_right.nd rfl (Or.inr rfl) (pe_callB (cr_lenK K) (by rfl) md.len (by decide +kernel) (pa_cons (pv 1) pa_nil))) (pss_cons (ps_set (i := 4) sc_law_more_right.nd rfl (Or.inr rfl) (pe_callTy (cr_tupK K) (by rfl) md.tuple (by decide +kernel) (pa_cons (pe_callB (cr_sortSetK w) (by rfl) md.sorted (by decide +kernel) (pa_cons (pe_callTy (cr_setK K w) (by rfl) md.set (by decide +kernel) (pa_cons (pe_op op_catR (pe_callTy (cr_listK K) (by rfl) md.list (by decide +kernel) (pa_cons (pv 2) pa_nil)) (pe_lst (pa_cons (Nz.pe_c c__law_take hr (by decide) (by rfl) (pa_cons (pv 0) (pa_cons (pv 3) pa_nil))) pa_nil))) pa_nil)) pa_nil)) pa_nil))) (pss_cons (ps_asg (pe_tup (pa_cons (Nz.pe_c c_strong_plan hr (by decide) (by rfl) (pa_cons (pv 1) (pa_cons (pv 2) pa_nil))) (pa_cons (Nz.pe_c c_strong_plan hr (by decide) (by rfl) (pa_cons (pv 1) (pa_cons (pv 4) pa_nil))) pa_nil))) (Nz.pg_tupK K 2 rfl (pgs_cons (pg_name (i := 5) sc_law_more_right.nd rfl (Or.inr rfl) (Or.inl rfl)) (pgs_cons (pg_name (i := 6) sc_law_more_right.nd rfl (Or.inr rfl) (Or.inl rfl)) pgs_nil)))) (pss_cons (ps_if (pt_val (pe_callB (cr_anyK K) (by rfl) md.any (by decide +kernel) (pa_cons (pe_lk (pe_lc (own := [("place", 7)]) rfl sc_law_more_right.nd (pi_keys (pv 5)) (blkOk_by (N := ["tape", "moves", "goal", "many", "more", "strong", "wide", "place", "cyclic", "extra", "ends", "row", "hard", "longer", "plain", "one", "two", "way"]) (sc := (defScope s_law_more_right)) (by decide +kernel)) (fun _ _ _ _ _ => (pg_name (i := 7) sc_law_more_right.nd rfl (Or.inl rfl) (Or.inr rfl))) (fun _ _ _ _ _ => pts_nil) (fun _ _ _ _ _ => (pe_or (pe_cmp (pc_dnotin (hu_of hr) (pv 7) (pv 6))) (pe_one (pe_cmpR op_gt (pe_ix (ix_tK K) (pe_dget (hu_of hr) (pv 6) (pv 7) (fun _ _ => rfl)) pe_int (fun _ _ => rfl)) (pe_ix (ix_tK K) (pe_dget (hu_of hr) (pv 5) (pv 7) (fun _ _ => rfl)) pe_int (fun _ _ => rfl)) (by rfl))))))) pa_nil))) (pss_cons (ps_ret pe_bl) pss_nil) pss_nil) (pss_cons (ps_set (i := 8) sc_law_more_right.nd rfl (Or.inl rfl) (Nz.pe_c c_cyclic_plan hr (by decide) (by rfl) (pa_cons (pv 1) (pa_cons (pv 2) pa_nil)))) (pss_cons (ps_if (pt_val (pe_callB (cr_anyK K) (by rfl) md.any (by decide +kernel) (pa_cons (pe_lk (pe_lc (own := [("place", 7)]) rfl sc_law_more_right.nd (pi_keys (pv 8)) (blkOk_by (N := ["tape", "moves", "goal", "many", "more", "strong", "wide", "place", "cyclic", "extra", "ends", "row", "hard", "longer", "plain", "one", "two", "way"]) (sc := (defScope s_law_more_right)) (by decide +kernel)) (fun _ _ _ _ _ => (pg_name (i := 7) sc_law_more_right.nd rfl (Or.inl rfl) (Or.inr rfl))) (fun _ _ _ _ _ => pts_nil) (fun _ _ _ _ _ => (pe_cmp (pc_dnotin (hu_of hr) (pv 7) (Nz.pe_c c_cyclic_plan hr (by decide) (by rfl) (pa_cons (pv 1) (pa_cons (pv 4) pa_nil)))))))) pa_nil))) (pss_cons (ps_ret pe_bl) pss_nil) pss_nil) (pss_cons (ps_set (i := 9) sc_law_more_right.nd rfl (Or.inr rfl) (pe_callTy (cr_tupK K) (by rfl) md.tuple (by decide +kernel) (pa_cons (pe_lc (own := [("row", 11)]) rfl sc_law_more_right.nd (pi_tK K (pv 1)) (blkOk_by (N := ["tape", "moves", "goal", "many", "more", "strong", "wide", "place", "cyclic", "extra", "ends", "row", "hard", "longer", "plain", "one", "two", "way"]) (sc := (defScope s_law_more_right)) (by decide +kernel)) (fun _ _ _ _ _ => (pg_name (i := 11) sc_law_more_right.nd rfl (Or.inl rfl) (Or.inr rfl))) (fun _ _ _ _ _ => pts_nil) (fun _ _ _ _ _ => (pe_callTy (cr_tupK K) (by rfl) md.tuple (by decide +kernel) (pa_cons (pe_lc (own := [("ends", 10)]) rfl sc_law_more_right.nd (pi_tK K (pv 11)) (blkOk_by (N := ["tape", "moves", "goal", "many", "more", "strong", "wide", "place", "cyclic", "extra", "ends", "row", "hard", "longer", "plain", "one", "two", "way"]) (sc := ⟨.function, [(Str.ofString ".0", NameKind.local), (Str.ofString "row", NameKind.local), (Str.ofString "tuple", NameKind.globalImplicit), (Str.ofString "many", NameKind.cell), (Str.ofString "tape", NameKind.cell)], false, false, []⟩) (by decide +kernel)) (fun _ _ _ _ _ => (pg_name (i := 10) sc_law_more_right.nd rfl (Or.inl rfl) (Or.inr rfl))) (fun _ _ _ _ _ => pts_nil) (fun _ _ _ _ _ => (pe_callTy (cr_tupK K) (by rfl) md.tuple (by decide +kernel) (pa_cons (pe_callB (cr_sortSetK w) (by rfl) md.sorted (by decide +kernel) (pa_cons (pe_callTy (cr_setK K w) (by rfl) md.set (by decide +kernel) (pa_cons (pe_op op_catR (pe_callTy (cr_listK K) (by rfl) md.list (by decide +kernel) (pa_cons (pv 10) pa_nil)) (pe_lst (pa_cons (Nz.pe_c c__law_take hr (by decide) (by rfl) (pa_cons (pv 0) (pa_cons (pv 3) pa_nil))) pa_nil))) pa_nil)) pa_nil)) pa_nil)))) pa_nil)))) pa_nil))) (pss_cons (ps_set (i := 12) sc_law_more_right.nd rfl (Or.inr rfl) (Nz.pe_c c_strong_plan hr (by decide) (by rfl) (pa_cons (pv 9) (pa_cons (pv 2) pa_nil)))) (pss_cons (ps_if (pt_val (pe_callB (cr_anyK K) (by rfl) md.any (by decide +kernel) (pa_cons (pe_lk (pe_lc (own := [("place", 7)]) rfl sc_law_more_right.nd (pi_keys (pv 12)) (blkOk_by (N := ["tape", "moves", "goal", "many", "more", "strong", "wide", "place", "cyclic", "extra", "ends", "row", "hard", "longer", "plain", "one", "two", "way"]) (sc := (defScope s_law_more_right)) (by decide +kernel)) (fun _ _ _ _ _ => (pg_name (i := 7) sc_law_more_right.nd rfl (Or.inl rfl) (Or.inr rfl))) (fun _ _ _ _ _ => pts_nil) (fun _ _ _ _ _ => (pe_or (pe_cmp (pc_dnotin (hu_of hr) (pv 7) (pv 5))) (pe_one (pe_cmpR op_lt (pe_ix (ix_tK K) (pe_dget (hu_of hr) (pv 12) (pv 7) (fun _ _ => rfl)) pe_int (fun _ _ => rfl)) (pe_ix (ix_tK K) (pe_dget (hu_of hr) (pv 5) (pv 7) (fun _ _ => rfl)) pe_int (fun _ _ => rfl)) (by rfl))))))) pa_nil))) (pss_cons (ps_ret pe_bl) pss_nil) pss_nil) (pss_cons (ps_set (i := 13) sc_law_more_right.nd rfl (Or.inl rfl) (pe_callTy (cr_tupK K) (by rfl) md.tuple (by decide +kernel) (pa_cons (pe_lc (own := [("place", 7)]) rfl sc_law_more_right.nd (pi_range1 (by rfl) md.range (pa_cons (pv 3) pa_nil)) (blkOk_by (N := ["tape", "moves", "goal", "many", "more", "strong", "wide", "place", "cyclic", "extra", "ends", "row", "hard", "longer", "plain", "one", "two", "way"]) (sc := (defScope s_law_more_right)) (by decide +kernel)) (fun _ _ _ _ _ => (pg_name (i := 7) sc_law_more_right.nd rfl (Or.inl rfl) (Or.inr rfl))) (fun _ _ _ _ _ => pts_nil) (fun _ _ _ _ _ => (pe_op (op_catK K) (pe_ix (ix_tK K) (pv 1) (pv 7) (fun _ _ => rfl)) (pe_callTy (cr_tupK K) (by rfl) md.tuple (by decide +kernel) (pa_cons (pe_ifExp (pt_cmpR op_gt (pe_callB (cr_lenK K) (by rfl) md.len (by decide +kernel) (pa_cons (pe_ix (ix_tK K) (pv 1) (pv 7) (fun _ _ => rfl)) pa_nil)) pe_int (by rfl)) (pe_lst (pa_cons (pe_ix (ix_tK K) (pe_ix (ix_tK K) (pv 9) (pv 7) (fun _ _ => rfl)) pe_int (fun _ _ => rfl)) pa_nil)) (pe_lst pa_nil)) pa_nil))))) pa_nil))) (pss_cons (ps_if (pt_cmpR (Nz.op_neDD hr.units K) (Nz.pe_c c_strong_plan hr (by decide) (by rfl) (pa_cons (pv 13) (pa_cons (pv 2) pa_nil))) (pv 5) (by rfl)) (pss_cons (ps_ret pe_bl) pss_nil) pss_nil) (pss_cons (ps_set (i := 14) sc_law_more_right.nd rfl (Or.inl rfl) (pe_callTy (cr_tupK K) (by rfl) md.tuple (by decide +kernel) (pa_cons (pe_lc (own := [("row", 11)]) rfl sc_law_more_right.nd (pi_tK K (pv 1)) (blkOk_by (N := ["tape", "moves", "goal", "many", "more", "strong", "wide", "place", "cyclic", "extra", "ends", "row", "hard", "longer", "plain", "one", "two", "way"]) (sc := (defScope s_law_more_right)) (by decide +kernel)) (fun _ _ _ _ _ => (pg_name (i := 11) sc_law_more_right.nd rfl (Or.inl rfl) (Or.inr rfl))) (fun _ _ _ _ _ => pts_nil) (fun _ _ _ _ _ => (pe_callTy (cr_tupK K) (by rfl) md.tuple (by decide +kernel) (pa_cons (pe_lc (own := [("ends", 10)]) rfl sc_law_more_right.nd (pi_tK K (pv 11)) (blkOk_by (N := ["tape", "moves", "goal", "many", "more", "strong", "wide", "place", "cyclic", "extra", "ends", "row", "hard", "longer", "plain", "one", "two", "way"]) (sc := ⟨.function, [(Str.ofString ".0", NameKind.local), (Str.ofString "row", NameKind.local), (Str.ofString "tuple", NameKind.globalImplicit)], false, false, []⟩) (by decide +kernel)) (fun _ _ _ _ _ => (pg_name (i := 10) sc_law_more_right.nd rfl (Or.inl rfl) (Or.inr rfl))) (fun _ _ _ _ _ => pts_nil) (fun _ _ _ _ _ => (pe_slice (sl_tK K) (pv 10) po_none (po_some pe_int)))) pa_nil)))) pa_nil))) (pss_cons (ps_asg (pe_tup (pa_cons (Nz.pe_c c_strong_plan hr (by decide) (by rfl) (pa_cons (pv 14) (pa_cons (pv 2) pa_nil))) (pa_cons (Nz.pe_c c_cyclic_plan hr (by decide) (by rfl) (pa_cons (pv 14) (pa_cons (pv 2) pa_nil))) pa_nil))) (Nz.pg_tupK K 2 rfl (pgs_cons (pg_name (i := 15) sc_law_more_right.nd rfl (Or.inr rfl) (Or.inl rfl)) (pgs_cons (pg_name (i := 16) sc_law_more_right.nd rfl (Or.inr rfl) (Or.inl rfl)) pgs_nil)))) (pss_cons (ps_if (PW.pt (pw_or (pt_cmpR (op_neK K hr.units) (pe_callB Nz.cr_sortedDI (by rfl) md.sorted (by decide +kernel) (pa_cons (pv 15) pa_nil)) (pe_callB Nz.cr_sortedDI (by rfl) md.sorted (by decide +kernel) (pa_cons (pv 16) pa_nil)) (by rfl)) (pw_or1 (pt_val (pe_callB (cr_anyK K) (by rfl) md.any (by decide +kernel) (pa_cons (pe_lk (pe_lc (own := [("place", 7)]) rfl sc_law_more_right.nd (pi_keys (pv 15)) (blkOk_by (N := ["tape", "moves", "goal", "many", "more", "strong", "wide", "place", "cyclic", "extra", "ends", "row", "hard", "longer", "plain", "one", "two", "way"]) (sc := (defScope s_law_more_right)) (by decide +kernel)) (fun _ _ _ _ _ => (pg_name (i := 7) sc_law_more_right.nd rfl (Or.inl rfl) (Or.inr rfl))) (fun _ _ _ _ _ => pts_nil) (fun _ _ _ _ _ => (pe_cmpR (op_neK K hr.units) (pe_ix (ix_tK K) (pe_dget (hu_of hr) (pv 15) (pv 7) (fun _ _ => rfl)) pe_int (fun _ _ => rfl)) (pe_dget (hu_of hr) (pv 16) (pv 7) (fun _ _ => rfl)) (by rfl))))) pa_nil)))))) (pss_cons (ps_ret pe_bl) pss_nil) pss_nil) (pss_cons (ps_for PassesOwn.never rfl (pi_range1 (by rfl) md.range (pa_cons (pv 3) pa_nil)) (pg_name (i := 7) sc_law_more_right.nd rfl (Or.inl rfl) (Or.inr rfl)) (pss_cons (ps_set (i := 17) sc_law_more_right.nd rfl (Or.inl rfl) (Nz.pe_c c_weak_plan hr (by decide) (by rfl) (pa_cons (pv 14) (pa_cons (pv 7) (pa_cons (pv 2) pa_nil))))) (pss_cons (ps_if (PW.pt (pw_or (pt_cmpR op_ne (pe_cmp (pc_isN (pv 17))) (pe_cmp (pc_dnotin (hu_of hr) (pv 7) (pv 15))) (by rfl)) (pw_or1 (PW.pt (pw_and (pt_cmp (pc_notN (pv 17))) (pw_and1 (pt_cmpR op_ne (pe_callB (cr_lenK K) (by rfl) md.len (by decide +kernel) (pa_cons (pv 17) pa_nil)) (pe_ix (ix_tK K) (pe_dget (hu_of hr) (pv 15) (pv 7) (fun _ _ => rfl)) pe_int (fun _ _ => rfl)) (by rfl)))))))) (pss_cons (ps_ret pe_bl) pss_nil) pss_nil) pss_nil))) (pss_cons (ps_ret pe_bl) pss_nil)))))))))))))))), ?_⟩
  exact Nz.fnTX (n := 15) (Nz.prm_c Nz.prm_1) rfl (fun pt c a => (Nz.bj_asg (Nz.ev_lenS (Nz.rs_t (Nz.rt_ev (Nz.ev_var rfl)))) (fun many_1 => (Nz.bj_asg (Nz.ev_tupL (Nz.rl_l (Nz.el_sortSet (w := w) (Nz.rl_l (Nz.el_catL (Nz.rl_l (Nz.el_list (Nz.rs_t (Nz.rt_ev (Nz.ev_var rfl))))) (Nz.rl_l (Nz.el_lst (r := rInt) (Nz.as_c (Nz.ev_callTX (Nz.in_tape Pt qL pt c) rfl (Nz.ea_1 (Nz.ev_var rfl))) Nz.as_nil)))))))) (fun more_3 => (Nz.bj_tup2 (Nz.us_v (Nz.ev_call (Nz.ea_c (Nz.ev_var rfl) (Nz.ea_1 (Nz.ev_var rfl))))) (Nz.us_v (Nz.ev_call (Nz.ea_c (Nz.ev_var rfl) (Nz.ea_1 (Nz.ev_var rfl))))) (of_decide_eq_true rfl) (of_decide_eq_true rfl) (fun strong_5 wide_7 => (Nz.bj_ifD (Nz.et_B (Nz.ev_any (Nz.rl_l (Nz.el_lk Nz.lk_val (i := 5) rfl (Nz.el_lc (Nz.ir_keysF Nz.kyw_int rfl) Nz.gt_name (by decide) (fun y8 => Nz.et_yes) (fun y8 => (Nz.ev_or (Nz.ev_dni Nz.kyr_int (Nz.ev_var rfl) (Nz.rd_ev (Nz.ev_var rfl))) (Nz.ev_B0 (g := fun i j => decide (j < i)) (Nz.ev_fld (i := 0) Nz.fld_0 (Nz.ev_dget Nz.kyr_int (Nz.rd_ev (Nz.ev_var rfl)) (Nz.ev_var rfl))) (Nz.ev_fld (i := 0) Nz.fld_0 (Nz.ev_dget Nz.kyr_int (Nz.rd_fz rfl) (Nz.ev_var rfl))))))))))) (Nz.bj_seq (Nz.bj_ret Nz.ev_bl)) (Nz.bj_seq0 (Nz.bj_asg (Nz.ev_call (Nz.ea_c (Nz.ev_var rfl) (Nz.ea_1 (Nz.ev_var rfl)))) (fun cyclic_14 => (Nz.bj_ifD (Nz.et_B (Nz.ev_any (Nz.rl_l (Nz.el_lk Nz.lk_val (i := 8) rfl (Nz.el_lc (Nz.ir_keysF Nz.kyw_int rfl) Nz.gt_name (by decide) (fun y15 => Nz.et_yes) (fun y15 => (Nz.ev_dni Nz.kyr_int (Nz.ev_var rfl) (Nz.rd_ev (Nz.ev_call (Nz.ea_c (Nz.ev_var rfl) (Nz.ea_1 (Nz.ev_var rfl)))))))))))) (Nz.bj_seq (Nz.bj_ret Nz.ev_bl)) (Nz.bj_seq0 (Nz.bj_asg (Nz.ev_tupL (Nz.rl_l (Nz.el_lc (Nz.ir_iv (Nz.iv_tup (Nz.ev_var rfl))) Nz.gt_name (by decide) (fun y18 => Nz.et_yes) (fun y18 => (Nz.ev_tupL (Nz.rl_l (Nz.el_lc (Nz.ir_iv (Nz.iv_tup (Nz.ev_var rfl))) Nz.gt_name (by decide) (fun y19 => Nz.et_yes) (fun y19 => (Nz.ev_tupL (Nz.rl_l (Nz.el_sortSet (w := w) (Nz.rl_l (Nz.el_catL (Nz.rl_l (Nz.el_list (Nz.rs_t (Nz.rt_ev (Nz.ev_var rfl))))) (Nz.rl_l (Nz.el_lst (r := rInt) (Nz.as_c (Nz.ev_callTX (Nz.in_tape Pt qL pt c) rfl (Nz.ea_1 (Nz.ev_var rfl))) Nz.as_nil)))))))))))))))) (fun extra_23 => (Nz.bj_asg (Nz.ev_call (Nz.ea_c (Nz.ev_var rfl) (Nz.ea_1 (Nz.ev_var rfl)))) (fun hard_25 => (Nz.bj_ifD (Nz.et_B (Nz.ev_any (Nz.rl_l (Nz.el_lk Nz.lk_val (i := 12) rfl (Nz.el_lc (Nz.ir_keysF Nz.kyw_int rfl) Nz.gt_name (by decide) (fun y26 => Nz.et_yes) (fun y26 => (Nz.ev_or (Nz.ev_dni Nz.kyr_int (Nz.ev_var rfl) (Nz.rd_ev (Nz.ev_var rfl))) (Nz.ev_B0 (g := fun i j => decide (i < j)) (Nz.ev_fld (i := 0) Nz.fld_0 (Nz.ev_dget Nz.kyr_int (Nz.rd_fz rfl) (Nz.ev_var rfl))) (Nz.ev_fld (i := 0) Nz.fld_0 (Nz.ev_dget Nz.kyr_int (Nz.rd_ev (Nz.ev_var rfl)) (Nz.ev_var rfl))))))))))) (Nz.bj_seq (Nz.bj_ret Nz.ev_bl)) (Nz.bj_seq0 (Nz.bj_asg (Nz.ev_tupL (Nz.rl_l (Nz.el_lc (Nz.ir_iv (Nz.iv_rng1 (Nz.ev_var rfl))) Nz.gt_name (by decide) (fun y31 => Nz.et_yes) (fun y31 => (Nz.ev_catT (Nz.ev_ixT (Nz.rt_ev (Nz.ev_var rfl)) (Nz.ev_var rfl)) (Nz.ev_tupL (Nz.rl_ev (Nz.ev_if (Nz.et_T (Nz.ev_B0 (g := fun i j => decide (j < i)) (Nz.ev_lenS (Nz.rs_t (Nz.rt_ev (Nz.ev_ixT (Nz.rt_ev (Nz.ev_var rfl)) (Nz.ev_var rfl))))) (Nz.ev_int (i := 0)))) (Nz.ev_l (Nz.el_lst (r := (rTup rInt)) (Nz.as_c (Nz.ev_ixT (Nz.rt_ev (Nz.ev_ixT (Nz.rt_ev (Nz.ev_var rfl)) (Nz.ev_var rfl))) (Nz.ev_int (i := 0))) Nz.as_nil))) (Nz.ev_l (Nz.el_nil (r := (rTup rInt)))))))))))) (fun longer_39 => (Nz.bj_ifD (Nz.et_T (Nz.ev_DD (ans := false) (Nz.da_pr (Nz.das_c Nz.da_int (Nz.das_1 (Nz.da_opt Nz.da_int (fun _ h => nomatch h))))) (Nz.rd_ev (Nz.ev_call (Nz.ea_c (Nz.ev_var rfl) (Nz.ea_1 (Nz.ev_var rfl))))) (Nz.rd_ev (Nz.ev_var rfl)))) (Nz.bj_seq (Nz.bj_ret Nz.ev_bl)) (Nz.bj_seq0 (Nz.bj_asg (Nz.ev_tupL (Nz.rl_l (Nz.el_lc (Nz.ir_iv (Nz.iv_tup (Nz.ev_var rfl))) Nz.gt_name (by decide) (fun y41 => Nz.et_yes) (fun y41 => (Nz.ev_tupL (Nz.rl_l (Nz.el_lc (Nz.ir_iv (Nz.iv_tup (Nz.ev_var rfl))) Nz.gt_name (by decide) (fun y42 => Nz.et_yes) (fun y42 => (Nz.ev_slT (Nz.ev_var rfl) Nz.po_no (Nz.po_yes (Nz.ev_int (i := 1)))))))))))) (fun plain_45 => (Nz.bj_tup2 (Nz.us_v (Nz.ev_call (Nz.ea_c (Nz.ev_var rfl) (Nz.ea_1 (Nz.ev_var rfl))))) (Nz.us_v (Nz.ev_call (Nz.ea_c (Nz.ev_var rfl) (Nz.ea_1 (Nz.ev_var rfl))))) (of_decide_eq_true rfl) (of_decide_eq_true rfl) (fun one_47 two_49 => (Nz.bj_ifD (Nz.et_or (Nz.et_T (Nz.ev_neD (Nz.da_lst Nz.da_int) (Nz.ev_l (Nz.el_sortedD (Nz.rd_ev (Nz.ev_var rfl)))) (Nz.ev_l (Nz.el_sortedD (Nz.rd_ev (Nz.ev_var rfl)))))) (Nz.et_B (Nz.ev_any (Nz.rl_l (Nz.el_lk Nz.lk_val (i := 15) rfl (Nz.el_lc (Nz.ir_keysF Nz.kyw_int rfl) Nz.gt_name (by decide) (fun y50 => Nz.et_yes) (fun y50 => (Nz.ev_neD (Nz.da_opt Nz.da_int (fun _ h => nomatch h)) (Nz.ev_fld (i := 1) (Nz.fld_s (n := 0) Nz.fld_one) (Nz.ev_dget Nz.kyr_int (Nz.rd_fz rfl) (Nz.ev_var rfl))) (Nz.ev_dget Nz.kyr_int (Nz.rd_ev (Nz.ev_var rfl)) (Nz.ev_var rfl)))))))))) (Nz.bj_seq (Nz.bj_ret Nz.ev_bl)) (Nz.bj_seq0 (Nz.bj_for (fS := (fun (s55 : Unit) => [(slAt pt), (slV (rTup (rTup (rTup rInt))) a.1), (slV (rTup rInt) a.2), (slV rInt many_1), (slV (rTup rInt) more_3), (slV (rDk kyI (rPr (fc rInt (f1 (rOpt rInt))))) strong_5), (slV (rDk kyI (rPr (fc rInt (f1 (rOpt rInt))))) wide_7), slAny, (slV (rDk kyI (rOpt rInt)) cyclic_14), (slV (rTup (rTup (rTup rInt))) extra_23), slAny, slAny, (slV (rDk kyI (rPr (fc rInt (f1 (rOpt rInt))))) hard_25), (slV (rTup (rTup (rTup rInt))) longer_39), (slV (rTup (rTup (rTup rInt))) plain_45), (slV (rDk kyI (rPr (fc rInt (f1 (rOpt rInt))))) one_47), (slV (rDk kyI (rOpt rInt)) two_49), slAny])) (oS := []) (s0 := ()) (Nz.iv_rng1 (Nz.ev_var rfl)) (Nz.wk_k rfl (Nz.wk_k rfl (Nz.wk_k rfl (Nz.wk_k rfl (Nz.wk_k rfl (Nz.wk_k rfl (Nz.wk_k rfl (Nz.wk_a (Nz.wk_k rfl (Nz.wk_k rfl (Nz.wk_a (Nz.wk_a (Nz.wk_k rfl (Nz.wk_k rfl (Nz.wk_k rfl (Nz.wk_k rfl (Nz.wk_k rfl (Nz.wk_a Nz.Wks.nil)))))))))))))))))) (by decide) (fun s55 => Nz.gt_name) (by decide) (fun s55 y56 => (Nz.bj_asg (Nz.ev_callX (Nz.in_table Pt qL pt c) (Nz.ea_c (Nz.ev_var rfl) (Nz.ea_c (Nz.ev_var rfl) (Nz.ea_1 (Nz.ev_var rfl))))) (fun way_58 => (Nz.bj_ifD (Nz.et_or (Nz.et_T (Nz.ev_neB (Nz.ev_isN (Nz.ev_var rfl)) (Nz.ev_dni Nz.kyr_int (Nz.ev_var rfl) (Nz.rd_ev (Nz.ev_var rfl))))) (Nz.et_and (Nz.et_B (Nz.ev_notN (Nz.ev_var rfl))) (Nz.et_T (Nz.ev_neI (Nz.ev_lenS (Nz.rs_t (Nz.rt_ev (Nz.ev_get (Nz.ev_var rfl))))) (Nz.ev_fld (i := 0) Nz.fld_0 (Nz.ev_dget Nz.kyr_int (Nz.rd_ev (Nz.ev_var rfl)) (Nz.ev_var rfl))))))) (Nz.bj_seq (Nz.bj_ret Nz.ev_bl)) (Nz.bj_seq0 (Nz.bj_nx (s := ()) (Nz.wk_k rfl (Nz.wk_k rfl (Nz.wk_k rfl (Nz.wk_k rfl (Nz.wk_k rfl (Nz.wk_k rfl (Nz.wk_k rfl (Nz.wk_a (Nz.wk_k rfl (Nz.wk_k rfl (Nz.wk_a (Nz.wk_a (Nz.wk_k rfl (Nz.wk_k rfl (Nz.wk_k rfl (Nz.wk_k rfl (Nz.wk_k rfl (Nz.wk_a Nz.Wks.nil)))))))))))))))))) (by decide))))))) (fun s55 => (Nz.bj_ret Nz.ev_bl)))))))))))))))))))))))))))))))) (fun a k => Eq.mp (by kernel_rfl)) h
abbrev s_law_names_right : Stmt := topS 19
theorem sc_law_names_right : FnScope ["tape", "moves", "goal", "start", "many", "left", "names", "k", "other", "place", "end", "ends", "more", "told", "bent", "way", "plan", "strong"] ["tape", "moves", "goal", "start"] (defScope s_law_names_right) := ⟨rfl, rfl, rfl, by decide +kernel, rfl, by decide +kernel, by decide +kernel⟩
def m_law_names_right (a : ((List (List (List Int))) × (List Int) × Int)) : Pg Bool := Pg.outG ((pure ((a.1).length : Int) : Pg Int) >>= fun many_1 => (Pg.ask (-100000 ≤ ((a.1).length : Int) ∧ ((a.1).length : Int) ≤ 100000) >>= fun _ => ((pure (rg ((a.1).length : Int)) : Pg (List Int)) >>= fun left_2 => ((pure ([] : (List Int)) : Pg (List Int)) >>= fun names_3 => (Pg.ask (-100000 ≤ many_1 ∧ many_1 ≤ 100000) >>= fun _ => ((Pg.forc (rg many_1) (left_2, names_3) (fun y5 s4 => (m_law_take ((s4.1).length : Int) >>= fun r7 => (Pg.ask (0 ≤ r7 ∧ r7 ≤ 100000 ∧ (s4.2).length < big) >>= fun _ => (Pg.opt (s4.1)[(r7).toNat]? >>= fun a10 => ((pure (s4.2 ++ [a10]) : Pg (List Int)) >>= fun names_8 => ((pure ((s4.1).eraseIdx (r7).toNat) : Pg (List Int)) >>= fun left_9 => (pure (Ctl.nx (left_9, names_8))))))))) : Pg (Ctl Bool Empty ((List Int) × (List Int)))) >>= Pg.seqG (fun s4 => (Pg.ask (([] : (List (List Int))).length ≤ big) >>= fun _ => (Pg.ask (([([] : (List (List Int)))] : (List (List (List Int)))).length ≤ big) >>= fun _ => (Pg.ask (-100000 ≤ many_1 ∧ many_1 ≤ 100000 ∧ (([([] : (List (List Int)))] : (List (List (List Int))))).length * (many_1).toNat ≤ big) >>= fun _ => ((pure (List.replicate (many_1).toNat ([([] : (List (List Int)))] : (List (List (List Int))))).flatten : Pg (List (List (List Int)))) >>= fun other_11 => (Pg.ask (-100000 ≤ many_1 ∧ many_1 ≤ 100000) >>= fun _ => ((Pg.forc (rg many_1) other_11 (fun y13 s12 => (Pg.opt (atI a.1 y13) >>= fun e15 => (Pg.comp e15 (fun y16 => pure true) (fun y16 => (Pg.comp y16 (fun y17 => pure true) (fun y17 => (Pg.opt (atI s4.2 y17) >>= fun e18 => (pure (e18)))) >>= fun l19 => (pure ((sortI l19))))) >>= fun l20 => (Pg.opt (atI s4.2 y13) >>= fun e21 => (Pg.opt (ixN (s12).length e21) >>= fun j22 => ((pure ((s12).set j22 l20) : Pg (List (List (List Int)))) >>= fun other_14 => (pure (Ctl.nx other_14)))))))) : Pg (Ctl Bool Empty (List (List (List Int))))) >>= Pg.seqG (fun s12 => ((pure s12 : Pg (List (List (List Int)))) >>= fun other_23 => (Pg.comp a.2.1 (fun y24 => pure true) (fun y24 => (Pg.opt (atI s4.2 y24) >>= fun e25 => (pure (e25)))) >>= fun l26 => ((pure (sortI l26) : Pg (List Int)) >>= fun more_27 => (m_strong_plan (a.1, a.2.1) >>= fun r30 => (m_strong_plan (other_23, more_27) >>= fun r31 => (m_cyclic_plan (a.1, a.2.1) >>= fun r34 => (m_cyclic_plan (other_23, more_27) >>= fun r35 => (Pg.ask ((([Sum.inl (r30, r31), Sum.inr (r34, r35)] : List (((List (Int × (Int × (Option Int)))) × (List (Int × (Int × (Option Int))))) ⊕ ((List (Int × (Option Int))) × (List (Int × (Option Int))))))).length ≤ big) >>= fun _ => ((Pg.forc ([Sum.inl (r30, r31), Sum.inr (r34, r35)] : List (((List (Int × (Int × (Option Int)))) × (List (Int × (Int × (Option Int))))) ⊕ ((List (Int × (Option Int))) × (List (Int × (Option Int)))))) () (fun z s36 => Pg.elimG (fun y37 => (Pg.orG (Pg.ask ((y37.2).length < 64) >>= fun _ => (Pg.comp ((y37.1).map (·.1)) (fun y38 => pure true) (fun y38 => (Pg.opt (atI s4.2 y38) >>= fun e39 => (pure (e39)))) >>= fun l40 => (pure ((!decide ((sortI ((y37.2).map (·.1))) = (sortI l40))))))) (Pg.comp ((y37.1).map (·.1)) (fun y41 => pure true) (fun y41 => (Pg.opt (atI s4.2 y41) >>= fun e42 => (Pg.opt (dget y37.2 e42) >>= fun e43 => (Pg.opt (dget y37.1 y41) >>= fun e44 => (pure ((!decide (e43 = e44)))))))) >>= fun l45 => (pure (((l45).any id)))) >>= fun b46 => (Pg.ifG (pure (b46)) (pure (Ctl.rt false)) (pure (Ctl.nx ())) : Pg (Ctl Bool Unit Unit)))) (fun y47 => (Pg.orG (Pg.ask ((y47.2).length < 64) >>= fun _ => (Pg.comp ((y47.1).map (·.1)) (fun y48 => pure true) (fun y48 => (Pg.opt (atI s4.2 y48) >>= fun e49 => (pure (e49)))) >>= fun l50 => (pure ((!decide ((sortI ((y47.2).map (·.1))) = (sortI l50))))))) (Pg.comp ((y47.1).map (·.1)) (fun y51 => pure true) (fun y51 => (Pg.opt (atI s4.2 y51) >>= fun e52 => (Pg.opt (dget y47.2 e52) >>= fun e53 => (Pg.opt (dget y47.1 y51) >>= fun e54 => (pure ((!decide (e53 = e54)))))))) >>= fun l55 => (pure (((l55).any id)))) >>= fun b56 => (Pg.ifG (pure (b56)) (pure (Ctl.rt false)) (pure (Ctl.nx ())) : Pg (Ctl Bool Unit Unit)))) z) : Pg (Ctl Bool Empty Unit)) >>= Pg.seqG (fun s36 => (m_weak_plan (a.1, a.2.2, a.2.1) >>= fun r57 => ((pure r57 : Pg (Option (List (Int × Int)))) >>= fun way_58 => (Pg.opt (atI s4.2 a.2.2) >>= fun e60 => (m_weak_plan (other_23, e60, more_27) >>= fun r59 => ((pure r59 : Pg (Option (List (Int × Int)))) >>= fun told_61 => (Pg.orG (pure ((!decide ((way_58).isNone = (told_61).isNone)))) (Pg.andG (pure ((way_58).isSome)) (Pg.opt way_58 >>= fun o62 => (Pg.opt told_61 >>= fun o63 => (pure ((!decide (((o62).length : Int) = ((o63).length : Int))))))) >>= fun b64 => (pure (b64))) >>= fun b65 => (Pg.ifG (pure (b65)) (pure (Ctl.rt false)) ((pure ([] : (List (Int × (Option Int)))) : Pg (List (Int × (Option Int)))) >>= fun plan_66 => (Pg.ask (-100000 ≤ many_1 ∧ many_1 ≤ 100000) >>= fun _ => ((Pg.forc (rg many_1) plan_66 (fun y68 s67 => (m_law_take (3 : Int) >>= fun r69 => (Pg.iteG (pure ((decide ((0 : Int) < r69)))) (((Pg.ifG (pure ((decide (y68 ∈ a.2.1)))) (pure ((none : (Option Int)))) (pure ((some (0 : Int)))) : Pg (Option Int)) >>= fun c72 => (Pg.ask ((s67).length < big) >>= fun _ => ((pure (dput s67 y68 c72) : Pg (List (Int × (Option Int)))) >>= fun plan_71 => (pure (Ctl.nx plan_71))))) : Pg (Ctl Bool (List (Int × (Option Int))) (List (Int × (Option Int))))) (pure (Ctl.nx s67)) (fun s70 => (pure (Ctl.nx s70)))))) : Pg (Ctl Bool Empty (List (Int × (Option Int))))) >>= Pg.seqG (fun s67 => ((pure ([] : (List (Int × (Option Int)))) : Pg (List (Int × (Option Int)))) >>= fun bent_73 => ((Pg.forc ((s67).map (·.1)) bent_73 (fun y75 s74 => (Pg.opt (dget s67 y75) >>= fun e77 => (Pg.opt (atI s4.2 y75) >>= fun e78 => (Pg.ask ((s74).length < big) >>= fun _ => ((pure (dput s74 e78 e77) : Pg (List (Int × (Option Int)))) >>= fun bent_76 => (pure (Ctl.nx bent_76))))))) : Pg (Ctl Bool Empty (List (Int × (Option Int))))) >>= Pg.seqG (fun s74 => (m_takes_cyclic (a.1, a.2.1, s67) >>= fun r79 => (m_takes_cyclic (other_23, more_27, s74) >>= fun r80 => (Pg.ifG (pure ((!decide (r79 = r80)))) (pure (Ctl.rt false)) (m_strong_plan (a.1, a.2.1) >>= fun r81 => ((pure r81 : Pg (List (Int × (Int × (Option Int))))) >>= fun strong_82 => ((pure ([] : (List (Int × (Int × (Option Int))))) : Pg (List (Int × (Int × (Option Int))))) >>= fun bent_83 => ((Pg.forc ((strong_82).map (·.1)) bent_83 (fun y85 s84 => ((Pg.ifG (Pg.opt (dget strong_82 y85) >>= fun e87 => (pure ((decide ((0 : Int) < e87.1))))) (Pg.opt (dget strong_82 y85) >>= fun e88 => (pure ((e88.1 + (3 : Int))))) (pure ((0 : Int))) : Pg Int) >>= fun c89 => (Pg.opt (dget strong_82 y85) >>= fun e90 => (Pg.opt (atI s4.2 y85) >>= fun e91 => (Pg.ask ((s84).length < big) >>= fun _ => ((pure (dput s84 e91 (c89, e90.2)) : Pg (List (Int × (Int × (Option Int))))) >>= fun bent_86 => (pure (Ctl.nx bent_86)))))))) : Pg (Ctl Bool Empty (List (Int × (Int × (Option Int)))))) >>= Pg.seqG (fun s84 => (m_takes_strong (other_23, more_27, s84) >>= fun r92 => (pure (Ctl.rt (decide (r92 = true)))))))))) : Pg (Ctl Bool Empty Unit))))))))))) : Pg (Ctl Bool Empty Unit))))))))))))))))))))))))))))))))
set_option maxHeartbeats 4000000 in
theorem cal_law_names_right (D : Nz.DefK K mg "_law_names_right" s_law_names_right ["tape", "moves", "goal", "start"]) (md : Md mg) (c__law_take : Nz.Cal P w K mg base 1 "_law_take" (Nz.spTX (K := K) effT (f1 rInt) rInt (fun a => (m_law_take a).wp)) []) (c_cyclic_plan : Nz.Cal P w K mg base 2 "cyclic_plan" (Nz.spP (K := K) (fc (rTup (rTup (rTup rInt))) (f1 (rTup rInt))) (rDk kyI (rOpt rInt)) (fun a => (m_cyclic_plan a).wp)) []) (c_strong_plan : Nz.Cal P w K mg base 2 "strong_plan" (Nz.spP (K := K) (fc (rTup (rTup (rTup rInt))) (f1 (rTup rInt))) (rDk kyI (rPr (fc rInt (f1 (rOpt rInt))))) (fun a => (m_strong_plan a).wp)) []) (c_takes_cyclic : Nz.Cal P w K mg base 2 "takes_cyclic" (Nz.spP (K := K) (fc (rTup (rTup (rTup rInt))) (fc (rTup rInt) (f1 (rDk kyI (rOpt rInt))))) rBl (fun a => (m_takes_cyclic a).wp)) []) (c_takes_strong : Nz.Cal P w K mg base 2 "takes_strong" (Nz.spP (K := K) (fc (rTup (rTup (rTup rInt))) (fc (rTup rInt) (f1 (rDk kyI (rPr (fc rInt (f1 (rOpt rInt)))))))) rBl (fun a => (m_takes_strong a).wp)) []) (c_weak_plan : Nz.Cal P w K mg base 3 "weak_plan" (Nz.spX (K := K) (effL Pt qL) (fc (rTup (rTup (rTup rInt))) (fc rInt (f1 (rTup rInt)))) (rOpt (rTup (rPr (fc rInt (f1 rInt))))) (fun a => (m_weak_plan a).wp)) []) : Nz.Cal P w K mg base 4 "_law_names_right" (Nz.spTX (K := K) (effQ Pt qL) (fc (rTup (rTup (rTup rInt))) (fc (rTup rInt) (f1 rInt))) rBl (fun a => (m_law_names_right a).wp)) [] := by
  refine D.cal fun f fd F => F.ok sc_law_names_right (fun vs H Q E h => Nz.spTX_len h) (fun cdv A outer s H vs Q E hr h => ?_)
  refine ⟨_, (pss_cons (ps_asg (pe_tup (pa_cons (pe_callB (cr_lenK K) (by rfl) md.len (by decide +kernel) (pa_cons (pv 1) pa_nil)) (pa_cons (pe_listRg rfl (by rfl) md.list (prg_1 (by rfl) md.range (pe_callB (cr_lenK K) (by rfl) md.len (by decide +kernel) (pa_cons (pv 1) pa_nil)))) (pa_cons (pe_lst pa_nil) pa_nil)))) (Nz.pg_tupK K 3 rfl (pgs_cons (pg_name (i := 4) sc_law_names_right.nd rfl (Or.inl rfl) (Or.inr rfl)) (pgs_cons (pg_name (i := 5) sc_law_names_right.nd rfl (Or.inl rfl) (Or.inr rfl)) (pgs_cons (pg_name (i := 6) sc_law_names_right.nd rfl (Or.inr rfl) (Or.inl rfl)) pgs_nil))))) (pss_cons (ps_for PassesOwn.never rfl (pi_range1 (by rfl) md.range (pa_cons (pv 4) pa_nil)) (pg_name (i := 7) sc_law_names_right.nd rfl (Or.inl rfl) (Or.inr rfl)) (pss_cons (ps_expr (pe_bm PySem.F.plainAttrs_list PySem.F.slot_list_append PySem.F.type_list_append mt_append (pv 6) (pa_cons (pe_bm PySem.F.plainAttrs_list PySem.F.slot_list_pop PySem.F.type_list_pop mt_popAt (pv 5) (pa_cons (Nz.pe_c c__law_take hr (by decide) (by rfl) (pa_cons (pv 0) (pa_cons (pe_callB (cr_lenK K) (by rfl) md.len (by decide +kernel) (pa_cons (pv 5) pa_nil)) pa_nil))) pa_nil)) pa_nil))) pss_nil)) (pss_cons (ps_set (i := 8) sc_law_names_right.nd rfl (Or.inl rfl) (pe_op op_rep (pe_lst (pa_cons (pe_tup pa_nil) pa_nil)) (pv 4))) (pss_cons (ps_for PassesOwn.never rfl (pi_range1 (by rfl) md.range (pa_cons (pv 4) pa_nil)) (pg_name (i := 9) sc_law_names_right.nd rfl (Or.inl rfl) (Or.inr rfl)) (pss_cons (ps_asg (pe_callTy (cr_tupK K) (by rfl) md.tuple (by decide +kernel) (pa_cons (pe_lc (own := [("ends", 11)]) rfl sc_law_names_right.nd (pi_tK K (pe_ix (ix_tK K) (pv 1) (pv 9) (fun _ _ => rfl))) (blkOk_by (N := ["tape", "moves", "goal", "start", "many", "left", "names", "k", "other", "place", "end", "ends", "more", "told", "bent", "way", "plan", "strong"]) (sc := (defScope s_law_names_right)) (by decide +kernel)) (fun _ _ _ _ _ => (pg_name (i := 11) sc_law_names_right.nd rfl (Or.inl rfl) (Or.inr rfl))) (fun _ _ _ _ _ => pts_nil) (fun _ _ _ _ _ => (pe_callTy (cr_tupK K) (by rfl) md.tuple (by decide +kernel) (pa_cons (pe_callB (cr_sortedK K) (by rfl) md.sorted (by decide +kernel) (pa_cons (pe_lc (own := [("end", 10)]) rfl sc_law_names_right.nd (pi_tK K (pv 11)) (blkOk_by (N := ["tape", "moves", "goal", "start", "many", "left", "names", "k", "other", "place", "end", "ends", "more", "told", "bent", "way", "plan", "strong"]) (sc := ⟨.function, [(Str.ofString ".0", NameKind.local), (Str.ofString "ends", NameKind.local), (Str.ofString "tuple", NameKind.globalImplicit), (Str.ofString "sorted", NameKind.globalImplicit), (Str.ofString "names", NameKind.cell)], false, false, []⟩) (by decide +kernel)) (fun _ _ _ _ _ => (pg_name (i := 10) sc_law_names_right.nd rfl (Or.inl rfl) (Or.inr rfl))) (fun _ _ _ _ _ => pts_nil) (fun _ _ _ _ _ => (pe_ix (ix_lK K) (pv 6) (pv 10) (fun _ _ => rfl)))) pa_nil)) pa_nil)))) pa_nil)) (pg_sub (pv 8) (pe_ix (ix_lK K) (pv 6) (pv 9) (fun _ _ => rfl)) set_list)) pss_nil)) (pss_cons (ps_par (i := 8) (j := 12) rfl sc_law_names_right.nd rfl rfl (by decide) rfl rfl (pa_cons (pe_callTy (cr_tupK K) (by rfl) md.tuple (by decide +kernel) (pa_cons (pv 8) pa_nil)) (pa_cons (pe_callTy (cr_tupK K) (by rfl) md.tuple (by decide +kernel) (pa_cons (pe_callB (cr_sortedK K) (by rfl) md.sorted (by decide +kernel) (pa_cons (pe_lc (own := [("place", 9)]) rfl sc_law_names_right.nd (pi_tK K (pv 2)) (blkOk_by (N := ["tape", "moves", "goal", "start", "many", "left", "names", "k", "other", "place", "end", "ends", "more", "told", "bent", "way", "plan", "strong"]) (sc := (defScope s_law_names_right)) (by decide +kernel)) (fun _ _ _ _ _ => (pg_name (i := 9) sc_law_names_right.nd rfl (Or.inl rfl) (Or.inr rfl))) (fun _ _ _ _ _ => pts_nil) (fun _ _ _ _ _ => (pe_ix (ix_lK K) (pv 6) (pv 9) (fun _ _ => rfl)))) pa_nil)) pa_nil)) pa_nil)) (by rfl)) (pss_cons (ps_for PassesOwn.never rfl (pi_tK K (pe_tup (pa_cons (pe_tup (pa_cons (Nz.pe_c c_strong_plan hr (by decide) (by rfl) (pa_cons (pv 1) (pa_cons (pv 2) pa_nil))) (pa_cons (Nz.pe_c c_strong_plan hr (by decide) (by rfl) (pa_cons (pv 8) (pa_cons (pv 12) pa_nil))) pa_nil))) (pa_cons (pe_tup (pa_cons (Nz.pe_c c_cyclic_plan hr (by decide) (by rfl) (pa_cons (pv 1) (pa_cons (pv 2) pa_nil))) (pa_cons (Nz.pe_c c_cyclic_plan hr (by decide) (by rfl) (pa_cons (pv 8) (pa_cons (pv 12) pa_nil))) pa_nil))) pa_nil)))) (Nz.pg_tupK K 2 rfl (pgs_cons (pg_name (i := 13) sc_law_names_right.nd rfl (Or.inr rfl) (Or.inl rfl)) (pgs_cons (pg_name (i := 14) sc_law_names_right.nd rfl (Or.inr rfl) (Or.inl rfl)) pgs_nil))) (pss_cons (ps_if (PW.pt (pw_or (pt_cmpR (op_neK K hr.units) (pe_callB Nz.cr_sortedDI (by rfl) md.sorted (by decide +kernel) (pa_cons (pv 14) pa_nil)) (pe_callB (cr_sortedK K) (by rfl) md.sorted (by decide +kernel) (pa_cons (pe_lk (pe_lc (own := [("place", 9)]) rfl sc_law_names_right.nd (pi_keys (pv 13)) (blkOk_by (N := ["tape", "moves", "goal", "start", "many", "left", "names", "k", "other", "place", "end", "ends", "more", "told", "bent", "way", "plan", "strong"]) (sc := (defScope s_law_names_right)) (by decide +kernel)) (fun _ _ _ _ _ => (pg_name (i := 9) sc_law_names_right.nd rfl (Or.inl rfl) (Or.inr rfl))) (fun _ _ _ _ _ => pts_nil) (fun _ _ _ _ _ => (pe_ix (ix_lK K) (pv 6) (pv 9) (fun _ _ => rfl))))) pa_nil)) (by rfl)) (pw_or1 (pt_val (pe_callB (cr_anyK K) (by rfl) md.any (by decide +kernel) (pa_cons (pe_lk (pe_lc (own := [("place", 9)]) rfl sc_law_names_right.nd (pi_keys (pv 13)) (blkOk_by (N := ["tape", "moves", "goal", "start", "many", "left", "names", "k", "other", "place", "end", "ends", "more", "told", "bent", "way", "plan", "strong"]) (sc := (defScope s_law_names_right)) (by decide +kernel)) (fun _ _ _ _ _ => (pg_name (i := 9) sc_law_names_right.nd rfl (Or.inl rfl) (Or.inr rfl))) (fun _ _ _ _ _ => pts_nil) (fun _ _ _ _ _ => (pe_cmpR (op_neK K hr.units) (pe_dget (hu_of hr) (pv 14) (pe_ix (ix_lK K) (pv 6) (pv 9) (fun _ _ => rfl)) (fun _ _ => rfl)) (pe_dget (hu_of hr) (pv 13) (pv 9) (fun _ _ => rfl)) (by rfl))))) pa_nil)))))) (pss_cons (ps_ret pe_bl) pss_nil) pss_nil) pss_nil)) (pss_cons (ps_asg (pe_tup (pa_cons (Nz.pe_c c_weak_plan hr (by decide) (by rfl) (pa_cons (pv 1) (pa_cons (pv 3) (pa_cons (pv 2) pa_nil)))) (pa_cons (Nz.pe_c c_weak_plan hr (by decide) (by rfl) (pa_cons (pv 8) (pa_cons (pe_ix (ix_lK K) (pv 6) (pv 3) (fun _ _ => rfl)) (pa_cons (pv 12) pa_nil)))) pa_nil))) (Nz.pg_tupK K 2 rfl (pgs_cons (pg_name (i := 15) sc_law_names_right.nd rfl (Or.inl rfl) (Or.inr rfl)) (pgs_cons (pg_name (i := 13) sc_law_names_right.nd rfl (Or.inr rfl) (Or.inl rfl)) pgs_nil)))) (pss_cons (ps_if (PW.pt (pw_or (pt_cmpR op_ne (pe_cmp (pc_isN (pv 15))) (pe_cmp (pc_isN (pv 13))) (by rfl)) (pw_or1 (PW.pt (pw_and (pt_cmp (pc_notN (pv 15))) (pw_and1 (pt_cmpR op_ne (pe_callB (cr_lenK K) (by rfl) md.len (by decide +kernel) (pa_cons (pv 15) pa_nil)) (pe_callB (cr_lenK K) (by rfl) md.len (by decide +kernel) (pa_cons (pv 13) pa_nil)) (by rfl)))))))) (pss_cons (ps_ret pe_bl) pss_nil) pss_nil) (pss_cons (ps_set (i := 16) sc_law_names_right.nd rfl (Or.inl rfl) pe_dnewK) (pss_cons (ps_for PassesOwn.never rfl (pi_range1 (by rfl) md.range (pa_cons (pv 4) pa_nil)) (pg_name (i := 9) sc_law_names_right.nd rfl (Or.inl rfl) (Or.inr rfl)) (pss_cons (ps_if (pt_cmpR op_gt (Nz.pe_c c__law_take hr (by decide) (by rfl) (pa_cons (pv 0) (pa_cons pe_int pa_nil))) pe_int (by rfl)) (pss_cons (ps_dput (hu_of hr) (pv 16) (pv 9) (pe_ifExp (pt_cmpR (op_inK K) (pv 9) (pv 2) (by rfl)) pe_non pe_int) (by rfl)) pss_nil) pss_nil) pss_nil)) (pss_cons (ps_set (i := 14) sc_law_names_right.nd rfl (Or.inr rfl) pe_dnewK) (pss_cons (ps_lk (ps_for PassesOwn.never rfl (pi_keys (pv 16)) (pg_name (i := 9) sc_law_names_right.nd rfl (Or.inl rfl) (Or.inr rfl)) (pss_cons (ps_dput (hu_of hr) (pv 14) (pe_ix (ix_lK K) (pv 6) (pv 9) (fun _ _ => rfl)) (pe_dget (hu_of hr) (pv 16) (pv 9) (fun _ _ => rfl)) (by rfl)) pss_nil))) (pss_cons (ps_if (pt_cmpR op_ne (Nz.pe_c c_takes_cyclic hr (by decide) (by rfl) (pa_cons (pv 1) (pa_cons (pv 2) (pa_cons (pv 16) pa_nil)))) (Nz.pe_c c_takes_cyclic hr (by decide) (by rfl) (pa_cons (pv 8) (pa_cons (pv 12) (pa_cons (pv 14) pa_nil)))) (by rfl)) (pss_cons (ps_ret pe_bl) pss_nil) pss_nil) (pss_cons (ps_asg (pe_tup (pa_cons (Nz.pe_c c_strong_plan hr (by decide) (by rfl) (pa_cons (pv 1) (pa_cons (pv 2) pa_nil))) (pa_cons pe_dnewK pa_nil))) (Nz.pg_tupK K 2 rfl (pgs_cons (pg_name (i := 17) sc_law_names_right.nd rfl (Or.inl rfl) (Or.inr rfl)) (pgs_cons (pg_name (i := 14) sc_law_names_right.nd rfl (Or.inr rfl) (Or.inl rfl)) pgs_nil)))) (pss_cons (ps_lk (ps_for PassesOwn.never rfl (pi_keys (pv 17)) (pg_name (i := 9) sc_law_names_right.nd rfl (Or.inl rfl) (Or.inr rfl)) (pss_cons (ps_dput (hu_of hr) (pv 14) (pe_ix (ix_lK K) (pv 6) (pv 9) (fun _ _ => rfl)) (pe_tup (pa_cons (pe_ifExp (pt_cmpR op_gt (pe_ix (ix_tK K) (pe_dget (hu_of hr) (pv 17) (pv 9) (fun _ _ => rfl)) pe_int (fun _ _ => rfl)) pe_int (by rfl)) (pe_op op_add (pe_ix (ix_tK K) (pe_dget (hu_of hr) (pv 17) (pv 9) (fun _ _ => rfl)) pe_int (fun _ _ => rfl)) pe_int) pe_int) (pa_cons (pe_ix (ix_tK K) (pe_dget (hu_of hr) (pv 17) (pv 9) (fun _ _ => rfl)) pe_int (fun _ _ => rfl)) pa_nil))) (by rfl)) pss_nil))) (pss_cons (ps_ret (pe_cmpR op_isBl (Nz.pe_c c_takes_strong hr (by decide) (by rfl) (pa_cons (pv 8) (pa_cons (pv 12) (pa_cons (pv 14) pa_nil)))) pe_bl (by rfl))) pss_nil)))))))))))))))), ?_⟩
  exact Nz.fnTX (n := 14) (Nz.prm_c (Nz.prm_c Nz.prm_1)) rfl (fun pt c a => (Nz.bj_tup3 (Nz.us_v (Nz.ev_lenS (Nz.rs_t (Nz.rt_ev (Nz.ev_var rfl))))) (Nz.us_l (Nz.el_listRg1 (Nz.ev_lenS (Nz.rs_t (Nz.rt_ev (Nz.ev_var rfl)))))) (Nz.us_l (Nz.el_nil (r := rInt))) (of_decide_eq_true rfl) (of_decide_eq_true rfl) (of_decide_eq_true rfl) (fun many_1 left_2 names_3 => (Nz.bj_for (fS := (fun (s4 : ((List Int) × (List Int))) => [(slAt pt), (slV (rTup (rTup (rTup rInt))) a.1), (slV (rTup rInt) a.2.1), (slV rInt a.2.2), (slV rInt many_1), (slL rInt s4.1), (slL rInt s4.2), slAny, slAny, slAny, slAny, slAny, slAny, slAny, slAny, slAny, slAny, slAny])) (oS := [5, 6]) (s0 := (left_2, names_3)) (Nz.iv_rng1 (Nz.ev_var rfl)) (Nz.wk_k rfl (Nz.wk_k rfl (Nz.wk_k rfl (Nz.wk_k rfl (Nz.wk_k rfl (Nz.wk_o (by decide) (Nz.wk_o (by decide) (Nz.wk_a (Nz.wk_a (Nz.wk_a (Nz.wk_a (Nz.wk_a (Nz.wk_a (Nz.wk_a (Nz.wk_a (Nz.wk_a (Nz.wk_a (Nz.wk_a Nz.Wks.nil)))))))))))))))))) (by decide) (fun s4 => Nz.gt_name) (by decide) (fun s4 y5 => (Nz.bj_appPop (by decide) (by decide) (by decide) rfl rfl (Nz.ev_callTX (Nz.in_tape Pt qL pt c) rfl (Nz.ea_1 (Nz.ev_lenS (Nz.rs_l (Nz.rl_own rfl))))) (fun names_8 left_9 => (Nz.bj_nx (s := (left_9, names_8)) (Nz.wk_k rfl (Nz.wk_k rfl (Nz.wk_k rfl (Nz.wk_k rfl (Nz.wk_k rfl (Nz.wk_o (by decide) (Nz.wk_o (by decide) (Nz.wk_a (Nz.wk_a (Nz.wk_a (Nz.wk_a (Nz.wk_a (Nz.wk_a (Nz.wk_a (Nz.wk_a (Nz.wk_a (Nz.wk_a (Nz.wk_a Nz.Wks.nil)))))))))))))))))) (by decide))))) (fun s4 => (Nz.bj_frzL (i := 6) (by decide) rfl (Nz.bj_asgL (Nz.el_rep (Nz.el_lst (r := (rTup (rTup rInt))) (Nz.as_c (Nz.ev_tup (r := (rTup rInt)) Nz.as_nil) Nz.as_nil)) (Nz.ev_var rfl)) (of_decide_eq_true rfl) (fun other_11 => (Nz.bj_for (fS := (fun (s12 : (List (List (List Int)))) => [(slAt pt), (slV (rTup (rTup (rTup rInt))) a.1), (slV (rTup rInt) a.2.1), (slV rInt a.2.2), (slV rInt many_1), (slL rInt s4.1), (slV (rLst rInt) s4.2), slAny, (slL (rTup (rTup rInt)) s12), slAny, slAny, slAny, slAny, slAny, slAny, slAny, slAny, slAny])) (oS := [5, 8]) (s0 := other_11) (Nz.iv_rng1 (Nz.ev_var rfl)) (Nz.wk_k rfl (Nz.wk_k rfl (Nz.wk_k rfl (Nz.wk_k rfl (Nz.wk_k rfl (Nz.wk_o (by decide) (Nz.wk_k rfl (Nz.wk_a (Nz.wk_o (by decide) (Nz.wk_a (Nz.wk_a (Nz.wk_a (Nz.wk_a (Nz.wk_a (Nz.wk_a (Nz.wk_a (Nz.wk_a (Nz.wk_a Nz.Wks.nil)))))))))))))))))) (by decide) (fun s12 => Nz.gt_name) (by decide) (fun s12 y13 => (Nz.bj_setL (by decide) rfl (Nz.ev_ixL (Nz.rl_ev (Nz.ev_var rfl)) (Nz.ev_var rfl)) (Nz.ev_tupL (Nz.rl_l (Nz.el_lc (Nz.ir_iv (Nz.iv_tup (Nz.ev_ixT (Nz.rt_ev (Nz.ev_var rfl)) (Nz.ev_var rfl)))) Nz.gt_name (by decide) (fun y16 => Nz.et_yes) (fun y16 => (Nz.ev_tupL (Nz.rl_l (Nz.el_sorted (Nz.rl_l (Nz.el_lc (Nz.ir_iv (Nz.iv_tup (Nz.ev_var rfl))) Nz.gt_name (by decide) (fun y17 => Nz.et_yes) (fun y17 => (Nz.ev_ixL (Nz.rl_ev (Nz.ev_var rfl)) (Nz.ev_var rfl)))))))))))) (fun other_14 => (Nz.bj_nx (s := other_14) (Nz.wk_k rfl (Nz.wk_k rfl (Nz.wk_k rfl (Nz.wk_k rfl (Nz.wk_k rfl (Nz.wk_o (by decide) (Nz.wk_k rfl (Nz.wk_a (Nz.wk_o (by decide) (Nz.wk_a (Nz.wk_a (Nz.wk_a (Nz.wk_a (Nz.wk_a (Nz.wk_a (Nz.wk_a (Nz.wk_a (Nz.wk_a Nz.Wks.nil)))))))))))))))))) (by decide))))) (fun s12 => (Nz.bj_frzL (i := 8) (by decide) rfl (Nz.bj_par (Nz.us_v (Nz.ev_tupL (Nz.rl_ev (Nz.ev_var rfl)))) (Nz.us_v (Nz.ev_tupL (Nz.rl_l (Nz.el_sorted (Nz.rl_l (Nz.el_lc (Nz.ir_iv (Nz.iv_tup (Nz.ev_var rfl))) Nz.gt_name (by decide) (fun y24 => Nz.et_yes) (fun y24 => (Nz.ev_ixL (Nz.rl_ev (Nz.ev_var rfl)) (Nz.ev_var rfl))))))))) (of_decide_eq_true rfl) (of_decide_eq_true rfl) (fun other_23 more_27 => (Nz.bj_for (fS := (fun (s36 : Unit) => [(slAt pt), (slV (rTup (rTup (rTup rInt))) a.1), (slV (rTup rInt) a.2.1), (slV rInt a.2.2), (slV rInt many_1), (slL rInt s4.1), (slV (rLst rInt) s4.2), slAny, (slV (rTup (rTup (rTup rInt))) other_23), slAny, slAny, slAny, (slV (rTup rInt) more_27), slAny, slAny, slAny, slAny, slAny])) (oS := [5]) (s0 := ()) (Nz.iv_tup (Nz.ev_tup (r := rSum (rPr (fc (rDk kyI (rPr (fc rInt (f1 (rOpt rInt))))) (f1 (rDk kyI (rPr (fc rInt (f1 (rOpt rInt)))))))) (rPr (fc (rDk kyI (rOpt rInt)) (f1 (rDk kyI (rOpt rInt)))))) (Nz.as_c (Nz.ev_inl (Nz.ev_pr (Nz.ea_c (Nz.ev_call (Nz.ea_c (Nz.ev_var rfl) (Nz.ea_1 (Nz.ev_var rfl)))) (Nz.ea_1 (Nz.ev_call (Nz.ea_c (Nz.ev_var rfl) (Nz.ea_1 (Nz.ev_var rfl)))))))) (Nz.as_c (Nz.ev_inr (Nz.ev_pr (Nz.ea_c (Nz.ev_call (Nz.ea_c (Nz.ev_var rfl) (Nz.ea_1 (Nz.ev_var rfl)))) (Nz.ea_1 (Nz.ev_call (Nz.ea_c (Nz.ev_var rfl) (Nz.ea_1 (Nz.ev_var rfl)))))))) Nz.as_nil)))) (Nz.wk_k rfl (Nz.wk_k rfl (Nz.wk_k rfl (Nz.wk_k rfl (Nz.wk_k rfl (Nz.wk_o (by decide) (Nz.wk_k rfl (Nz.wk_a (Nz.wk_k rfl (Nz.wk_a (Nz.wk_a (Nz.wk_a (Nz.wk_k rfl (Nz.wk_a (Nz.wk_a (Nz.wk_a (Nz.wk_a (Nz.wk_a Nz.Wks.nil)))))))))))))))))) (by decide) (fun s36 => Nz.gt_sum (Nz.gt_tup rfl (Nz.gts_cons Nz.gt_name (fun _ => (Nz.gts_nil Nz.gt_name)))) (Nz.gt_tup rfl (Nz.gts_cons Nz.gt_name (fun _ => (Nz.gts_nil Nz.gt_name))))) (by decide) (fun s36 z => Nz.bj_sum (fun y37 => (Nz.bj_ifD (Nz.et_or (Nz.et_T (Nz.ev_neD (Nz.da_lst Nz.da_int) (Nz.ev_l (Nz.el_sortedD (Nz.rd_ev (Nz.ev_var rfl)))) (Nz.ev_l (Nz.el_sorted (Nz.rl_l (Nz.el_lk Nz.lk_val (i := 13) rfl (Nz.el_lc (Nz.ir_keysF Nz.kyw_int rfl) Nz.gt_name (by decide) (fun y38 => Nz.et_yes) (fun y38 => (Nz.ev_ixL (Nz.rl_ev (Nz.ev_var rfl)) (Nz.ev_var rfl)))))))))) (Nz.et_B (Nz.ev_any (Nz.rl_l (Nz.el_lk Nz.lk_val (i := 13) rfl (Nz.el_lc (Nz.ir_keysF Nz.kyw_int rfl) Nz.gt_name (by decide) (fun y41 => Nz.et_yes) (fun y41 => (Nz.ev_neD (Nz.da_pr (Nz.das_c Nz.da_int (Nz.das_1 (Nz.da_opt Nz.da_int (fun _ h => nomatch h))))) (Nz.ev_dget Nz.kyr_int (Nz.rd_ev (Nz.ev_var rfl)) (Nz.ev_ixL (Nz.rl_ev (Nz.ev_var rfl)) (Nz.ev_var rfl))) (Nz.ev_dget Nz.kyr_int (Nz.rd_fz rfl) (Nz.ev_var rfl)))))))))) (Nz.bj_seq (Nz.bj_ret Nz.ev_bl)) (Nz.bj_seq0 (Nz.bj_nx (s := ()) (Nz.wk_k rfl (Nz.wk_k rfl (Nz.wk_k rfl (Nz.wk_k rfl (Nz.wk_k rfl (Nz.wk_o (by decide) (Nz.wk_k rfl (Nz.wk_a (Nz.wk_k rfl (Nz.wk_a (Nz.wk_a (Nz.wk_a (Nz.wk_k rfl (Nz.wk_a (Nz.wk_a (Nz.wk_a (Nz.wk_a (Nz.wk_a Nz.Wks.nil)))))))))))))))))) (by decide))))) (fun y47 => (Nz.bj_ifD (Nz.et_or (Nz.et_T (Nz.ev_neD (Nz.da_lst Nz.da_int) (Nz.ev_l (Nz.el_sortedD (Nz.rd_ev (Nz.ev_var rfl)))) (Nz.ev_l (Nz.el_sorted (Nz.rl_l (Nz.el_lk Nz.lk_val (i := 13) rfl (Nz.el_lc (Nz.ir_keysF Nz.kyw_int rfl) Nz.gt_name (by decide) (fun y48 => Nz.et_yes) (fun y48 => (Nz.ev_ixL (Nz.rl_ev (Nz.ev_var rfl)) (Nz.ev_var rfl)))))))))) (Nz.et_B (Nz.ev_any (Nz.rl_l (Nz.el_lk Nz.lk_val (i := 13) rfl (Nz.el_lc (Nz.ir_keysF Nz.kyw_int rfl) Nz.gt_name (by decide) (fun y51 => Nz.et_yes) (fun y51 => (Nz.ev_neD (Nz.da_opt Nz.da_int (fun _ h => nomatch h)) (Nz.ev_dget Nz.kyr_int (Nz.rd_ev (Nz.ev_var rfl)) (Nz.ev_ixL (Nz.rl_ev (Nz.ev_var rfl)) (Nz.ev_var rfl))) (Nz.ev_dget Nz.kyr_int (Nz.rd_fz rfl) (Nz.ev_var rfl)))))))))) (Nz.bj_seq (Nz.bj_ret Nz.ev_bl)) (Nz.bj_seq0 (Nz.bj_nx (s := ()) (Nz.wk_k rfl (Nz.wk_k rfl (Nz.wk_k rfl (Nz.wk_k rfl (Nz.wk_k rfl (Nz.wk_o (by decide) (Nz.wk_k rfl (Nz.wk_a (Nz.wk_k rfl (Nz.wk_a (Nz.wk_a (Nz.wk_a (Nz.wk_k rfl (Nz.wk_a (Nz.wk_a (Nz.wk_a (Nz.wk_a (Nz.wk_a Nz.Wks.nil)))))))))))))))))) (by decide))))) z) (fun s36 => (Nz.bj_tup2 (Nz.us_v (Nz.ev_callX (Nz.in_table Pt qL pt c) (Nz.ea_c (Nz.ev_var rfl) (Nz.ea_c (Nz.ev_var rfl) (Nz.ea_1 (Nz.ev_var rfl)))))) (Nz.us_v (Nz.ev_callX (Nz.in_table Pt qL pt c) (Nz.ea_c (Nz.ev_var rfl) (Nz.ea_c (Nz.ev_ixL (Nz.rl_ev (Nz.ev_var rfl)) (Nz.ev_var rfl)) (Nz.ea_1 (Nz.ev_var rfl)))))) (of_decide_eq_true rfl) (of_decide_eq_true rfl) (fun way_58 told_61 => (Nz.bj_ifD (Nz.et_or (Nz.et_T (Nz.ev_neB (Nz.ev_isN (Nz.ev_var rfl)) (Nz.ev_isN (Nz.ev_var rfl)))) (Nz.et_and (Nz.et_B (Nz.ev_notN (Nz.ev_var rfl))) (Nz.et_T (Nz.ev_neI (Nz.ev_lenS (Nz.rs_t (Nz.rt_ev (Nz.ev_get (Nz.ev_var rfl))))) (Nz.ev_lenS (Nz.rs_t (Nz.rt_ev (Nz.ev_get (Nz.ev_var rfl))))))))) (Nz.bj_seq (Nz.bj_ret Nz.ev_bl)) (Nz.bj_seq0 (Nz.bj_asgD (Nz.ed_new (e := kyI) (r := (rOpt rInt))) (of_decide_eq_true rfl) (fun plan_66 => (Nz.bj_for (fS := (fun (s67 : (List (Int × (Option Int)))) => [(slAt pt), (slV (rTup (rTup (rTup rInt))) a.1), (slV (rTup rInt) a.2.1), (slV rInt a.2.2), (slV rInt many_1), (slL rInt s4.1), (slV (rLst rInt) s4.2), slAny, (slV (rTup (rTup (rTup rInt))) other_23), slAny, slAny, slAny, (slV (rTup rInt) more_27), (slV (rOpt (rTup (rPr (fc rInt (f1 rInt))))) told_61), slAny, (slV (rOpt (rTup (rPr (fc rInt (f1 rInt))))) way_58), (slDk kyI (rOpt rInt) s67), slAny])) (oS := [5, 16]) (s0 := plan_66) (Nz.iv_rng1 (Nz.ev_var rfl)) (Nz.wk_k rfl (Nz.wk_k rfl (Nz.wk_k rfl (Nz.wk_k rfl (Nz.wk_k rfl (Nz.wk_o (by decide) (Nz.wk_k rfl (Nz.wk_a (Nz.wk_k rfl (Nz.wk_a (Nz.wk_a (Nz.wk_a (Nz.wk_k rfl (Nz.wk_k rfl (Nz.wk_a (Nz.wk_k rfl (Nz.wk_o (by decide) (Nz.wk_a Nz.Wks.nil)))))))))))))))))) (by decide) (fun s67 => Nz.gt_name) (by decide) (fun s67 y68 => (Nz.bj_if (fM := (fun (s70 : (List (Int × (Option Int)))) => [(slAt pt), (slV (rTup (rTup (rTup rInt))) a.1), (slV (rTup rInt) a.2.1), (slV rInt a.2.2), (slV rInt many_1), (slL rInt s4.1), (slV (rLst rInt) s4.2), slAny, (slV (rTup (rTup (rTup rInt))) other_23), (slV rInt y68), slAny, slAny, (slV (rTup rInt) more_27), (slV (rOpt (rTup (rPr (fc rInt (f1 rInt))))) told_61), slAny, (slV (rOpt (rTup (rPr (fc rInt (f1 rInt))))) way_58), (slDk kyI (rOpt rInt) s70), slAny])) (oM := [5, 16]) (Nz.et_T (Nz.ev_B0 (g := fun i j => decide (j < i)) (Nz.ev_callTX (Nz.in_tape Pt qL pt c) rfl (Nz.ea_1 (Nz.ev_int (i := 3)))) (Nz.ev_int (i := 0)))) (Nz.bj_dput Nz.kyr_int (by decide) rfl (Nz.ev_var rfl) (Nz.ev_if (Nz.et_T (Nz.ev_inS Nz.fe_int (Nz.ev_var rfl) (Nz.rs_t (Nz.rt_ev (Nz.ev_var rfl))))) (Nz.ev_none (r := rInt)) (Nz.ev_some Nz.nn_int (Nz.ev_int (i := 0)))) (fun plan_71 => (Nz.bj_nx (s := plan_71) (Nz.wk_k rfl (Nz.wk_k rfl (Nz.wk_k rfl (Nz.wk_k rfl (Nz.wk_k rfl (Nz.wk_o (by decide) (Nz.wk_k rfl (Nz.wk_a (Nz.wk_k rfl (Nz.wk_k rfl (Nz.wk_a (Nz.wk_a (Nz.wk_k rfl (Nz.wk_k rfl (Nz.wk_a (Nz.wk_k rfl (Nz.wk_o (by decide) (Nz.wk_a Nz.Wks.nil)))))))))))))))))) (by decide)))) (Nz.bj_nx (s := s67) (Nz.wk_k rfl (Nz.wk_k rfl (Nz.wk_k rfl (Nz.wk_k rfl (Nz.wk_k rfl (Nz.wk_o (by decide) (Nz.wk_k rfl (Nz.wk_a (Nz.wk_k rfl (Nz.wk_k rfl (Nz.wk_a (Nz.wk_a (Nz.wk_k rfl (Nz.wk_k rfl (Nz.wk_a (Nz.wk_k rfl (Nz.wk_o (by decide) (Nz.wk_a Nz.Wks.nil)))))))))))))))))) (by decide)) (fun s70 => (Nz.bj_nx (s := s70) (Nz.wk_k rfl (Nz.wk_k rfl (Nz.wk_k rfl (Nz.wk_k rfl (Nz.wk_k rfl (Nz.wk_o (by decide) (Nz.wk_k rfl (Nz.wk_a (Nz.wk_k rfl (Nz.wk_a (Nz.wk_a (Nz.wk_a (Nz.wk_k rfl (Nz.wk_k rfl (Nz.wk_a (Nz.wk_k rfl (Nz.wk_o (by decide) (Nz.wk_a Nz.Wks.nil)))))))))))))))))) (by decide))))) (fun s67 => (Nz.bj_frzD (i := 16) (by decide) rfl (Nz.bj_asgD (Nz.ed_new (e := kyI) (r := (rOpt rInt))) (of_decide_eq_true rfl) (fun bent_73 => (Nz.bj_forK (fS := (fun (s74 : (List (Int × (Option Int)))) => [(slAt pt), (slV (rTup (rTup (rTup rInt))) a.1), (slV (rTup rInt) a.2.1), (slV rInt a.2.2), (slV rInt many_1), (slL rInt s4.1), (slV (rLst rInt) s4.2), slAny, (slV (rTup (rTup (rTup rInt))) other_23), slAny, slAny, slAny, (slV (rTup rInt) more_27), (slV (rOpt (rTup (rPr (fc rInt (f1 rInt))))) told_61), (slDk kyI (rOpt rInt) s74), (slV (rOpt (rTup (rPr (fc rInt (f1 rInt))))) way_58), (slV (rDk kyI (rOpt rInt)) s67), slAny])) (oS := [5, 14]) (s0 := bent_73) rfl (Nz.kw_keys Nz.kyw_int) (Nz.wk_k rfl (Nz.wk_k rfl (Nz.wk_k rfl (Nz.wk_k rfl (Nz.wk_k rfl (Nz.wk_o (by decide) (Nz.wk_k rfl (Nz.wk_a (Nz.wk_k rfl (Nz.wk_a (Nz.wk_a (Nz.wk_a (Nz.wk_k rfl (Nz.wk_k rfl (Nz.wk_o (by decide) (Nz.wk_k rfl (Nz.wk_k rfl (Nz.wk_a Nz.Wks.nil)))))))))))))))))) (by decide) (fun s74 => Nz.gt_name) (by decide) (fun s74 y75 => (Nz.bj_dput Nz.kyr_int (by decide) rfl (Nz.ev_ixL (Nz.rl_ev (Nz.ev_var rfl)) (Nz.ev_var rfl)) (Nz.ev_dget Nz.kyr_int (Nz.rd_ev (Nz.ev_var rfl)) (Nz.ev_var rfl)) (fun bent_76 => (Nz.bj_nx (s := bent_76) (Nz.wk_k rfl (Nz.wk_k rfl (Nz.wk_k rfl (Nz.wk_k rfl (Nz.wk_k rfl (Nz.wk_o (by decide) (Nz.wk_k rfl (Nz.wk_a (Nz.wk_k rfl (Nz.wk_a (Nz.wk_a (Nz.wk_a (Nz.wk_k rfl (Nz.wk_k rfl (Nz.wk_o (by decide) (Nz.wk_k rfl (Nz.wk_k rfl (Nz.wk_a Nz.Wks.nil)))))))))))))))))) (by decide))))) (fun s74 => (Nz.bj_frzD (i := 14) (by decide) rfl (Nz.bj_ifD (Nz.et_T (Nz.ev_neB (Nz.ev_call (Nz.ea_c (Nz.ev_var rfl) (Nz.ea_c (Nz.ev_var rfl) (Nz.ea_1 (Nz.ev_var rfl))))) (Nz.ev_call (Nz.ea_c (Nz.ev_var rfl) (Nz.ea_c (Nz.ev_var rfl) (Nz.ea_1 (Nz.ev_var rfl))))))) (Nz.bj_seq (Nz.bj_ret Nz.ev_bl)) (Nz.bj_seq0 (Nz.bj_tup2 (Nz.us_v (Nz.ev_call (Nz.ea_c (Nz.ev_var rfl) (Nz.ea_1 (Nz.ev_var rfl))))) (Nz.us_d (Nz.ed_new (e := kyI) (r := (rPr (fc rInt (f1 (rOpt rInt))))))) (of_decide_eq_true rfl) (of_decide_eq_true rfl) (fun strong_82 bent_83 => (Nz.bj_forK (fS := (fun (s84 : (List (Int × (Int × (Option Int))))) => [(slAt pt), (slV (rTup (rTup (rTup rInt))) a.1), (slV (rTup rInt) a.2.1), (slV rInt a.2.2), (slV rInt many_1), (slL rInt s4.1), (slV (rLst rInt) s4.2), slAny, (slV (rTup (rTup (rTup rInt))) other_23), slAny, slAny, slAny, (slV (rTup rInt) more_27), (slV (rOpt (rTup (rPr (fc rInt (f1 rInt))))) told_61), (slDk kyI (rPr (fc rInt (f1 (rOpt rInt)))) s84), (slV (rOpt (rTup (rPr (fc rInt (f1 rInt))))) way_58), (slV (rDk kyI (rOpt rInt)) s67), (slV (rDk kyI (rPr (fc rInt (f1 (rOpt rInt))))) strong_82)])) (oS := [5, 14]) (s0 := bent_83) rfl (Nz.kw_keys Nz.kyw_int) (Nz.wk_k rfl (Nz.wk_k rfl (Nz.wk_k rfl (Nz.wk_k rfl (Nz.wk_k rfl (Nz.wk_o (by decide) (Nz.wk_k rfl (Nz.wk_a (Nz.wk_k rfl (Nz.wk_a (Nz.wk_a (Nz.wk_a (Nz.wk_k rfl (Nz.wk_k rfl (Nz.wk_o (by decide) (Nz.wk_k rfl (Nz.wk_k rfl (Nz.wk_k rfl Nz.Wks.nil)))))))))))))))))) (by decide) (fun s84 => Nz.gt_name) (by decide) (fun s84 y85 => (Nz.bj_dput Nz.kyr_int (by decide) rfl (Nz.ev_ixL (Nz.rl_ev (Nz.ev_var rfl)) (Nz.ev_var rfl)) (Nz.ev_pr (Nz.ea_c (Nz.ev_if (Nz.et_T (Nz.ev_B0 (g := fun i j => decide (j < i)) (Nz.ev_fld (i := 0) Nz.fld_0 (Nz.ev_dget Nz.kyr_int (Nz.rd_ev (Nz.ev_var rfl)) (Nz.ev_var rfl))) (Nz.ev_int (i := 0)))) (Nz.ev_I0 (g := fun i j => i + j) (Nz.ev_fld (i := 0) Nz.fld_0 (Nz.ev_dget Nz.kyr_int (Nz.rd_ev (Nz.ev_var rfl)) (Nz.ev_var rfl))) (Nz.ev_int (i := 3))) (Nz.ev_int (i := 0))) (Nz.ea_1 (Nz.ev_fld (i := 1) (Nz.fld_s (n := 0) Nz.fld_one) (Nz.ev_dget Nz.kyr_int (Nz.rd_ev (Nz.ev_var rfl)) (Nz.ev_var rfl)))))) (fun bent_86 => (Nz.bj_nx (s := bent_86) (Nz.wk_k rfl (Nz.wk_k rfl (Nz.wk_k rfl (Nz.wk_k rfl (Nz.wk_k rfl (Nz.wk_o (by decide) (Nz.wk_k rfl (Nz.wk_a (Nz.wk_k rfl (Nz.wk_a (Nz.wk_a (Nz.wk_a (Nz.wk_k rfl (Nz.wk_k rfl (Nz.wk_o (by decide) (Nz.wk_k rfl (Nz.wk_k rfl (Nz.wk_k rfl Nz.Wks.nil)))))))))))))))))) (by decide))))) (fun s84 => (Nz.bj_frzD (i := 14) (by decide) rfl (Nz.bj_ret (Nz.ev_isB (Nz.ev_call (Nz.ea_c (Nz.ev_var rfl) (Nz.ea_c (Nz.ev_var rfl) (Nz.ea_1 (Nz.ev_var rfl))))) Nz.ev_bl)))))))))))))))))))))))))))))))))))))) (fun a k => Eq.mp (by kernel_rfl)) h
abbrev s_take : Stmt := topS 14
theorem sc_take : FnScope ["tape", "many", "drawn", "mixed"] ["tape", "many"] (defScope s_take) := ⟨rfl, rfl, rfl, by decide +kernel, rfl, by decide +kernel, by decide +kernel⟩
abbrev s_tape : Stmt := topS 13
theorem sc_tape : FnScope ["script", "cells", "cell", "seed"] ["script"] (defScope s_tape) := ⟨rfl, rfl, rfl, by decide +kernel, rfl, by decide +kernel, by decide +kernel⟩
set_option maxHeartbeats 4000000 in
theorem cal_law_take (D : Nz.DefK K mg "_law_take" s_take ["tape", "many"]) (md : Md mg) : Nz.Cal P w K mg base 1 "_law_take" (Nz.spTX (K := K) effT (f1 rInt) rInt (fun a => (m_law_take a).wp)) [] := by
  refine D.cal fun f fd F => F.ok sc_take (fun vs H Q E h => Nz.spTX_len h) (fun cdv A outer s H vs Q E hr h => ⟨_, (pss_cons (ps_if (PW.pt (pw_and (pt_cmpR op_eq (pe_dget (hu_of hr) (pv 0) pe_str (fun _ _ => rfl)) pe_int (by rfl)) (pw_and1 (pt_cmpR op_lt (pe_dget (hu_of hr) (pv 0) pe_str (fun _ _ => rfl)) (pe_callB (cr_lenK K) (by rfl) md.len (by decide +kernel) (pa_cons (pe_dget (hu_of hr) (pv 0) pe_str (fun _ _ => rfl)) pa_nil)) (by rfl))))) (pss_cons (ps_dput (hu_of hr) (pv 0) pe_str (pe_ix (ix_lK K) (pe_dget (hu_of hr) (pv 0) pe_str (fun _ _ => rfl)) (pe_dget (hu_of hr) (pv 0) pe_str (fun _ _ => rfl)) (fun _ _ => rfl)) (by rfl)) (pss_cons (ps_dput (hu_of hr) (pv 0) pe_str (pe_op op_add (pe_dget (hu_of hr) (pv 0) pe_str (fun _ _ => rfl)) pe_int) (by rfl)) pss_nil)) pss_nil) (pss_cons (ps_if (pt_cmpR op_gt (pe_dget (hu_of hr) (pv 0) pe_str (fun _ _ => rfl)) pe_int (by rfl)) (pss_cons (ps_set (i := 2) sc_take.nd rfl (Or.inl rfl) (pe_op op_mod (pe_callTy call_int1 (by rfl) md.int (by decide +kernel) (pa_cons (pe_dget (hu_of hr) (pv 0) pe_str (fun _ _ => rfl)) pa_nil)) (pv 1))) (pss_cons (ps_dput (hu_of hr) (pv 0) pe_str (pe_op op_fdiv (pe_dget (hu_of hr) (pv 0) pe_str (fun _ _ => rfl)) (pv 1)) (by rfl)) (pss_cons (ps_ret (pv 2)) pss_nil))) pss_nil) (pss_cons (ps_dput (hu_of hr) (pv 0) pe_str (pe_op op_add (pe_dget (hu_of hr) (pv 0) pe_str (fun _ _ => rfl)) pe_int) (by rfl)) (pss_cons (ps_set (i := 3) sc_take.nd rfl (Or.inl rfl) (pe_op op_mod (pe_callTy call_int1 (by rfl) md.int (by decide +kernel) (pa_cons (pe_op op_add (pe_op op_mul (pe_dget (hu_of hr) (pv 0) pe_str (fun _ _ => rfl)) pe_int) (pe_op op_mul (pe_dget (hu_of hr) (pv 0) pe_str (fun _ _ => rfl)) pe_int)) pa_nil)) pe_int)) (pss_cons (ps_set (i := 3) sc_take.nd rfl (Or.inl rfl) (pe_op op_mod (pe_callTy call_int1 (by rfl) md.int (by decide +kernel) (pa_cons (pe_op op_add (pe_op op_add (pe_op op_mul (pv 3) (pv 3)) (pe_op op_mul (pe_dget (hu_of hr) (pv 0) pe_str (fun _ _ => rfl)) pe_int)) pe_int) pa_nil)) pe_int)) (pss_cons (ps_ret (pe_op op_mod (pe_callTy call_int1 (by rfl) md.int (by decide +kernel) (pa_cons (pv 3) pa_nil)) (pv 1))) pss_nil)))))), ?_⟩)
  exact Nz.take_walk h
set_option maxHeartbeats 4000000 in
theorem cal_law_tape (D : Nz.DefK K mg "_law_tape" s_tape ["script"]) (md : Md mg) : Nz.Cal P w K mg base 1 "_law_tape" (Nz.spMk K) [] := by
  refine D.cal fun f fd F => F.ok sc_tape (fun vs H Q E h => ?_) (fun cdv A outer s H vs Q E hr h => ⟨_, (pss_cons (ps_setLc (i := 1) rfl sc_tape.nd rfl rfl (sw_true rfl rfl rfl rfl) (pi_lK K (pv 0)) (blkOk_by (N := ["script", "cells", "cell", "seed"]) (sc := (defScope s_tape)) (by decide +kernel)) (fun _ _ _ _ _ => (pg_name (i := 2) sc_tape.nd rfl (Or.inl rfl) (Or.inr rfl))) (fun _ _ _ _ _ => pts_nil) (fun _ _ _ _ _ => (pe_callB call_abs (by rfl) md.abs (by decide +kernel) (pa_cons (pe_callTy call_int1 (by rfl) md.int (by decide +kernel) (pa_cons (pv 2) pa_nil)) pa_nil))) (own := [("cell", 2)])) (pss_cons (ps_set (i := 3) sc_tape.nd rfl (Or.inl rfl) pe_int) (pss_cons (ps_for PassesOwn.never rfl (pi_lK K (pv 1)) (pg_name (i := 2) sc_tape.nd rfl (Or.inl rfl) (Or.inr rfl)) (pss_cons (ps_set (i := 3) sc_tape.nd rfl (Or.inl rfl) (pe_op op_mod (pe_callTy call_int1 (by rfl) md.int (by decide +kernel) (pa_cons (pe_op op_add (pe_op op_mul (pv 3) pe_int) (pv 2)) pa_nil)) pe_int)) pss_nil)) (pss_cons (ps_ret (pe_disp (pps_cons pe_str (pv 1) (pps_cons pe_str pe_int (pps_cons pe_str pe_int (pps_cons pe_str (pv 3) (pps_cons pe_str pe_int pps_nil))))) rfl rfl (by simp) (by decide))) pss_nil)))), ?_⟩)
  · obtain ⟨_, _, e, _⟩ := h
    rw [e]
    rfl
  · exact Nz.mk_walk h
abbrev s_law : Stmt := topS 21
theorem sc_law : FnScope ["script", "tape", "many", "moves", "goal", "place", "start"] ["script"] (defScope s_law) := ⟨rfl, rfl, rfl, by decide +kernel, rfl, by decide +kernel, by decide +kernel⟩
def m_law : Pg Bool := Pg.outG (m_law_take (6 : Int) >>= fun r1 => ((pure ((2 : Int) + r1) : Pg Int) >>= fun many_2 => (m_law_draw (many_2, (3 : Int)) >>= fun r3 => ((pure r3 : Pg (List (List (List Int)))) >>= fun moves_4 => (Pg.ask (-100000 ≤ many_2 ∧ many_2 ≤ 100000) >>= fun _ => (Pg.comp (rg many_2) (fun y5 => (m_law_take (4 : Int) >>= fun r6 => pure ((decide (r6 = (0 : Int)))))) (fun y5 => (pure (y5))) >>= fun l7 => ((pure l7 : Pg (List Int)) >>= fun goal_8 => (m_law_take many_2 >>= fun r9 => ((pure r9 : Pg Int) >>= fun start_10 => (Pg.orG (m_law_split_right (moves_4, goal_8, start_10) >>= fun r11 => (pure ((!r11)))) (m_law_names_right (moves_4, goal_8, start_10) >>= fun r12 => (pure ((!r12)))) >>= fun b13 => (Pg.ifG (pure (b13)) (pure (Ctl.rt false)) (m_law_more_right (moves_4, goal_8) >>= fun r14 => (pure (Ctl.rt r14))) : Pg (Ctl Bool Empty Unit))))))))))))
set_option maxHeartbeats 4000000 in
theorem ok_law {f : Addr} {fd : FuncData} (F : L2.Fun K "law" "law" s_law f fd) (md : Md mg) (c__law_tape : Nz.Cal P w K mg base 1 "_law_tape" (Nz.spMk K) []) (c__law_draw : Nz.Cal P w K mg base 2 "_law_draw" (Nz.spTX (K := K) effT (fc rInt (f1 rInt)) (rTup (rTup (rTup rInt))) (fun a => (m_law_draw a).wp)) []) (c__law_more_right : Nz.Cal P w K mg base 4 "_law_more_right" (Nz.spTX (K := K) (effQ Pt qL) (fc (rTup (rTup (rTup rInt))) (f1 (rTup rInt))) rBl (fun a => (m_law_more_right a).wp)) []) (c__law_names_right : Nz.Cal P w K mg base 4 "_law_names_right" (Nz.spTX (K := K) (effQ Pt qL) (fc (rTup (rTup (rTup rInt))) (fc (rTup rInt) (f1 rInt))) rBl (fun a => (m_law_names_right a).wp)) []) (c__law_split_right : Nz.Cal P w K mg base 4 "_law_split_right" (Nz.spX (K := K) (effL Pt qL) (fc (rTup (rTup (rTup rInt))) (fc (rTup rInt) (f1 rInt))) rBl (fun a => (m_law_split_right a).wp)) []) (c__law_take : Nz.Cal P w K mg base 1 "_law_take" (Nz.spTX (K := K) effT (f1 rInt) rInt (fun a => (m_law_take a).wp)) []) (hm : m_law.wp fun b => b = true) : FnOk P w K mg base CX0 6 f fd ["script"] (Nz.spLaw K Pt) :=
  F.ok sc_law (fun vs H Q E h => Nz.spLaw_len h) (fun cdv A outer s H vs Q E hr h => ⟨_, pss_cons (ps_set (i := 1) sc_law.nd rfl (Or.inr rfl) (Nz.pe_c c__law_tape hr (by decide) (by rfl) (pa_cons (pv 0) pa_nil))) (pss_cons (ps_set (i := 2) sc_law.nd rfl (Or.inl rfl) (pe_op op_add pe_int (Nz.pe_c c__law_take hr (by decide) (by rfl) (pa_cons (pv 1) (pa_cons pe_int pa_nil))))) (pss_cons (ps_set (i := 3) sc_law.nd rfl (Or.inl rfl) (Nz.pe_c c__law_draw hr (by decide) (by rfl) (pa_cons (pv 1) (pa_cons (pv 2) (pa_cons pe_int pa_nil))))) (pss_cons (ps_set (i := 4) sc_law.nd rfl (Or.inl rfl) (pe_callTy (cr_tupK K) (by rfl) md.tuple (by decide +kernel) (pa_cons (pe_lc (own := [("place", 5)]) rfl sc_law.nd (pi_range1 (by rfl) md.range (pa_cons (pv 2) pa_nil)) (blkOk_by (N := ["script", "tape", "many", "moves", "goal", "place", "start"]) (sc := (defScope s_law)) (by decide +kernel)) (fun _ _ _ _ _ => (pg_name (i := 5) sc_law.nd rfl (Or.inl rfl) (Or.inr rfl))) (fun _ _ _ _ _ => (pts_one (pt_cmpR op_eq (Nz.pe_c c__law_take hr (by decide) (by rfl) (pa_cons (pv 1) (pa_cons pe_int pa_nil))) pe_int (by rfl)))) (fun _ _ _ _ _ => (pv 5))) pa_nil))) (pss_cons (ps_set (i := 6) sc_law.nd rfl (Or.inl rfl) (Nz.pe_c c__law_take hr (by decide) (by rfl) (pa_cons (pv 1) (pa_cons (pv 2) pa_nil)))) (pss_cons (ps_if (PW.pt (pw_or (pt_not (pt_val (Nz.pe_c c__law_split_right hr (by decide) (by rfl) (pa_cons (pv 3) (pa_cons (pv 4) (pa_cons (pv 6) pa_nil)))))) (pw_or1 (pt_not (pt_val (Nz.pe_c c__law_names_right hr (by decide) (by rfl) (pa_cons (pv 1) (pa_cons (pv 3) (pa_cons (pv 4) (pa_cons (pv 6) pa_nil)))))))))) (pss_cons (ps_ret pe_bl) pss_nil) pss_nil) (pss_cons (ps_ret (Nz.pe_c c__law_more_right hr (by decide) (by rfl) (pa_cons (pv 1) (pa_cons (pv 3) (pa_cons (pv 4) pa_nil))))) pss_nil)))))), Nz.law_run (q := qL) (n := 5) rfl (fun pt c => (Nz.bj_asg (Nz.ev_I0 (g := fun i j => i + j) (Nz.ev_int (i := 2)) (Nz.ev_callTX (Nz.in_tape Pt qL pt c) rfl (Nz.ea_1 (Nz.ev_int (i := 6))))) (fun many_2 => (Nz.bj_asg (Nz.ev_callTX (Nz.in_tape Pt qL pt c) rfl (Nz.ea_c (Nz.ev_var rfl) (Nz.ea_1 (Nz.ev_int (i := 3))))) (fun moves_4 => (Nz.bj_asg (Nz.ev_tupL (Nz.rl_l (Nz.el_lc (Nz.ir_iv (Nz.iv_rng1 (Nz.ev_var rfl))) Nz.gt_name (by decide) (fun y5 => (Nz.et_T (Nz.ev_eqI (Nz.ev_callTX (Nz.in_tape Pt qL pt c) rfl (Nz.ea_1 (Nz.ev_int (i := 4)))) (Nz.ev_int (i := 0))))) (fun y5 => (Nz.ev_var rfl))))) (fun goal_8 => (Nz.bj_asg (Nz.ev_callTX (Nz.in_tape Pt qL pt c) rfl (Nz.ea_1 (Nz.ev_var rfl))) (fun start_10 => (Nz.bj_ifD (Nz.et_or (Nz.et_not (Nz.et_B (Nz.ev_callX (Nz.in_table Pt qL pt c) (Nz.ea_c (Nz.ev_var rfl) (Nz.ea_c (Nz.ev_var rfl) (Nz.ea_1 (Nz.ev_var rfl))))))) (Nz.et_not (Nz.et_B (Nz.ev_callTX (Nz.EffIn.refl _) rfl (Nz.ea_c (Nz.ev_var rfl) (Nz.ea_c (Nz.ev_var rfl) (Nz.ea_1 (Nz.ev_var rfl)))))))) (Nz.bj_seq (Nz.bj_ret Nz.ev_bl)) (Nz.bj_seq0 (Nz.bj_ret (Nz.ev_callTX (Nz.EffIn.refl _) rfl (Nz.ea_c (Nz.ev_var rfl) (Nz.ea_1 (Nz.ev_var rfl)))))))))))))))) (Eq.mp (by kernel_rfl) hm) h⟩)
end
end K42

namespace K42
open PySem PySem.Spec PyProof.Rows L2 Nz
theorem defK_mk {K : PySem.W.Frag} {h : Heap} {mg : Str → Option Value} {x : Str} {st : Stmt} {ps : List Str} {f : Addr} {oc : Value} {od an : Option Addr} {osl : Array (Option Value)} {kV doc pm cdv ct : Value} (X : K.In h) (G : h.Ns mainGlobals mg)
    (b : ∀ (kV doc pm : Value) (an : Option Addr) (cdv ct : Value) (us : List Value), us.length = ps.length → bindArgs (PySem.W.fnOf x x (defArgs st) (defBody st) (defScope st) .none kV doc pm an cdv ct) ⟨us, []⟩ = pure (ps.zip us))
    (a : PySem.W.nsIn K mainGlobals x = some (some (.ref f))) (l : K.lookup f = some ⟨oc, od, .func (PySem.W.fnOf x x (defArgs st) (defBody st) (defScope st) .none kV doc pm an cdv ct), osl⟩) (c : PySem.W.codeIn K cdv x = true) (k : PySem.W.keepIn K (.ref f) = true) : DefK K mg x st ps :=
  have F := fun_mk l c k
  ⟨f, _, F, PySem.W.mg_of X G a, F.binds b⟩
theorem lDef_mk {K : PySem.W.Frag} {h : Heap} {mg : Str → Option Value} {x : Str} {st : Stmt} {ps : List Str} {f cc : Addr} {oc : Value} {od an : Option Addr} {osl : Array (Option Value)} {kV doc pm ct : Value} (X : K.In h) (G : h.Ns mainGlobals mg)
    (b : ∀ (kV doc pm : Value) (an : Option Addr) (cdv ct : Value) (us : List Value), us.length = ps.length → bindArgs (PySem.W.fnOf x x (defArgs st) (defBody st) (defScope st) .none kV doc pm an cdv ct) ⟨us, []⟩ = pure (ps.zip us))
    (a : PySem.W.nsIn K mainGlobals x = some (some (.ref f))) (l : K.lookup f = some ⟨oc, od, .func (PySem.W.fnOf x x (defArgs st) (defBody st) (defScope st) .none kV doc pm an (.ref cc) ct), osl⟩) (c : PySem.W.codeIn K (.ref cc) x = true) (k : PySem.W.keepIn K (.ref f) = true) : LDef K mg x st ps cc :=
  ⟨f, oc, od, an, kV, doc, pm, ct, osl, l, c, PySem.W.mg_of X G a, k, (fun_mk l c k).binds b⟩
theorem mk_check_game {K : PySem.W.Frag} {h : Heap} {mg : Str → Option Value} {f : Addr} {oc : Value} {od an : Option Addr} {osl : Array (Option Value)} {kV doc pm ct : Value} {cdv : Value} (X : K.In h) (G : h.Ns mainGlobals mg)
    (a : PySem.W.nsIn K mainGlobals "check_game" = some (some (.ref f))) (l : K.lookup f = some ⟨oc, od, .func (PySem.W.fnOf "check_game" "check_game" (defArgs s_check_game) (defBody s_check_game) (defScope s_check_game) .none kV doc pm an cdv ct), osl⟩) (c : PySem.W.codeIn K cdv "check_game" = true) (k : PySem.W.keepIn K (.ref f) = true) : DefK K mg "check_game" s_check_game ["moves"] :=
  defK_mk X G (fun _ _ _ _ _ _ us hl => match us, hl with | [_], _ => rfl) a l c k
theorem mk_strong_plan {K : PySem.W.Frag} {h : Heap} {mg : Str → Option Value} {f : Addr} {oc : Value} {od an : Option Addr} {osl : Array (Option Value)} {kV doc pm ct : Value} {cdv : Value} (X : K.In h) (G : h.Ns mainGlobals mg)
    (a : PySem.W.nsIn K mainGlobals "strong_plan" = some (some (.ref f))) (l : K.lookup f = some ⟨oc, od, .func (PySem.W.fnOf "strong_plan" "strong_plan" (defArgs s_strong_plan) (defBody s_strong_plan) (defScope s_strong_plan) .none kV doc pm an cdv ct), osl⟩) (c : PySem.W.codeIn K cdv "strong_plan" = true) (k : PySem.W.keepIn K (.ref f) = true) : DefK K mg "strong_plan" s_strong_plan ["moves", "goal"] :=
  defK_mk X G (fun _ _ _ _ _ _ us hl => match us, hl with | [_, _], _ => rfl) a l c k
theorem mk_good_deed {K : PySem.W.Frag} {h : Heap} {mg : Str → Option Value} {f : Addr} {oc : Value} {od an : Option Addr} {osl : Array (Option Value)} {kV doc pm ct : Value} {cdv : Value} (X : K.In h) (G : h.Ns mainGlobals mg)
    (a : PySem.W.nsIn K mainGlobals "good_deed" = some (some (.ref f))) (l : K.lookup f = some ⟨oc, od, .func (PySem.W.fnOf "good_deed" "good_deed" (defArgs s_good_deed) (defBody s_good_deed) (defScope s_good_deed) .none kV doc pm an cdv ct), osl⟩) (c : PySem.W.codeIn K cdv "good_deed" = true) (k : PySem.W.keepIn K (.ref f) = true) : DefK K mg "good_deed" s_good_deed ["ends", "kept", "near"] :=
  defK_mk X G (fun _ _ _ _ _ _ us hl => match us, hl with | [_, _, _], _ => rfl) a l c k
theorem mk_cyclic_plan {K : PySem.W.Frag} {h : Heap} {mg : Str → Option Value} {f : Addr} {oc : Value} {od an : Option Addr} {osl : Array (Option Value)} {kV doc pm ct : Value} {cdv : Value} (X : K.In h) (G : h.Ns mainGlobals mg)
    (a : PySem.W.nsIn K mainGlobals "cyclic_plan" = some (some (.ref f))) (l : K.lookup f = some ⟨oc, od, .func (PySem.W.fnOf "cyclic_plan" "cyclic_plan" (defArgs s_cyclic_plan) (defBody s_cyclic_plan) (defScope s_cyclic_plan) .none kV doc pm an cdv ct), osl⟩) (c : PySem.W.codeIn K cdv "cyclic_plan" = true) (k : PySem.W.keepIn K (.ref f) = true) : DefK K mg "cyclic_plan" s_cyclic_plan ["moves", "goal"] :=
  defK_mk X G (fun _ _ _ _ _ _ us hl => match us, hl with | [_, _], _ => rfl) a l c k
theorem mk_takes_strong {K : PySem.W.Frag} {h : Heap} {mg : Str → Option Value} {f : Addr} {oc : Value} {od an : Option Addr} {osl : Array (Option Value)} {kV doc pm ct : Value} {cdv : Value} (X : K.In h) (G : h.Ns mainGlobals mg)
    (a : PySem.W.nsIn K mainGlobals "takes_strong" = some (some (.ref f))) (l : K.lookup f = some ⟨oc, od, .func (PySem.W.fnOf "takes_strong" "takes_strong" (defArgs s_takes_strong) (defBody s_takes_strong) (defScope s_takes_strong) .none kV doc pm an cdv ct), osl⟩) (c : PySem.W.codeIn K cdv "takes_strong" = true) (k : PySem.W.keepIn K (.ref f) = true) : DefK K mg "takes_strong" s_takes_strong ["moves", "goal", "plan"] :=
  defK_mk X G (fun _ _ _ _ _ _ us hl => match us, hl with | [_, _, _], _ => rfl) a l c k
theorem mk_takes_cyclic {K : PySem.W.Frag} {h : Heap} {mg : Str → Option Value} {f : Addr} {oc : Value} {od an : Option Addr} {osl : Array (Option Value)} {kV doc pm ct : Value} {cdv : Value} (X : K.In h) (G : h.Ns mainGlobals mg)
    (a : PySem.W.nsIn K mainGlobals "takes_cyclic" = some (some (.ref f))) (l : K.lookup f = some ⟨oc, od, .func (PySem.W.fnOf "takes_cyclic" "takes_cyclic" (defArgs s_takes_cyclic) (defBody s_takes_cyclic) (defScope s_takes_cyclic) .none kV doc pm an cdv ct), osl⟩) (c : PySem.W.codeIn K cdv "takes_cyclic" = true) (k : PySem.W.keepIn K (.ref f) = true) : DefK K mg "takes_cyclic" s_takes_cyclic ["moves", "goal", "plan"] :=
  defK_mk X G (fun _ _ _ _ _ _ us hl => match us, hl with | [_, _, _], _ => rfl) a l c k
theorem mk__law_draw {K : PySem.W.Frag} {h : Heap} {mg : Str → Option Value} {f : Addr} {oc : Value} {od an : Option Addr} {osl : Array (Option Value)} {kV doc pm ct : Value} {cdv : Value} (X : K.In h) (G : h.Ns mainGlobals mg)
    (a : PySem.W.nsIn K mainGlobals "_law_draw" = some (some (.ref f))) (l : K.lookup f = some ⟨oc, od, .func (PySem.W.fnOf "_law_draw" "_law_draw" (defArgs s_law_draw) (defBody s_law_draw) (defScope s_law_draw) .none kV doc pm an cdv ct), osl⟩) (c : PySem.W.codeIn K cdv "_law_draw" = true) (k : PySem.W.keepIn K (.ref f) = true) : DefK K mg "_law_draw" s_law_draw ["tape", "many", "most"] :=
  defK_mk X G (fun _ _ _ _ _ _ us hl => match us, hl with | [_, _, _], _ => rfl) a l c k
theorem mk__law_split {K : PySem.W.Frag} {h : Heap} {mg : Str → Option Value} {f : Addr} {oc : Value} {od an : Option Addr} {osl : Array (Option Value)} {kV doc pm ct : Value} {cdv : Value} (X : K.In h) (G : h.Ns mainGlobals mg)
    (a : PySem.W.nsIn K mainGlobals "_law_split" = some (some (.ref f))) (l : K.lookup f = some ⟨oc, od, .func (PySem.W.fnOf "_law_split" "_law_split" (defArgs s_law_split) (defBody s_law_split) (defScope s_law_split) .none kV doc pm an cdv ct), osl⟩) (c : PySem.W.codeIn K cdv "_law_split" = true) (k : PySem.W.keepIn K (.ref f) = true) : DefK K mg "_law_split" s_law_split ["moves"] :=
  defK_mk X G (fun _ _ _ _ _ _ us hl => match us, hl with | [_], _ => rfl) a l c k
theorem mk__law_between {K : PySem.W.Frag} {h : Heap} {mg : Str → Option Value} {f : Addr} {oc : Value} {od an : Option Addr} {osl : Array (Option Value)} {kV doc pm ct : Value} {cdv : Value} (X : K.In h) (G : h.Ns mainGlobals mg)
    (a : PySem.W.nsIn K mainGlobals "_law_between" = some (some (.ref f))) (l : K.lookup f = some ⟨oc, od, .func (PySem.W.fnOf "_law_between" "_law_between" (defArgs s_law_between) (defBody s_law_between) (defScope s_law_between) .none kV doc pm an cdv ct), osl⟩) (c : PySem.W.codeIn K cdv "_law_between" = true) (k : PySem.W.keepIn K (.ref f) = true) : DefK K mg "_law_between" s_law_between ["moves"] :=
  defK_mk X G (fun _ _ _ _ _ _ us hl => match us, hl with | [_], _ => rfl) a l c k
theorem mk_weak_plan {K : PySem.W.Frag} {h : Heap} {mg : Str → Option Value} {f : Addr} {oc : Value} {od an : Option Addr} {osl : Array (Option Value)} {kV doc pm ct : Value} {cc : Addr} (X : K.In h) (G : h.Ns mainGlobals mg)
    (a : PySem.W.nsIn K mainGlobals "weak_plan" = some (some (.ref f))) (l : K.lookup f = some ⟨oc, od, .func (PySem.W.fnOf "weak_plan" "weak_plan" (defArgs s_weak_plan) (defBody s_weak_plan) (defScope s_weak_plan) .none kV doc pm an (.ref cc) ct), osl⟩) (c : PySem.W.codeIn K (.ref cc) "weak_plan" = true) (k : PySem.W.keepIn K (.ref f) = true) : LDef K mg "weak_plan" s_weak_plan ["moves", "start", "goal"] cc :=
  lDef_mk X G (fun _ _ _ _ _ _ us hl => match us, hl with | [_, _, _], _ => rfl) a l c k
theorem mk__law_split_right {K : PySem.W.Frag} {h : Heap} {mg : Str → Option Value} {f : Addr} {oc : Value} {od an : Option Addr} {osl : Array (Option Value)} {kV doc pm ct : Value} {cdv : Value} (X : K.In h) (G : h.Ns mainGlobals mg)
    (a : PySem.W.nsIn K mainGlobals "_law_split_right" = some (some (.ref f))) (l : K.lookup f = some ⟨oc, od, .func (PySem.W.fnOf "_law_split_right" "_law_split_right" (defArgs s_law_split_right) (defBody s_law_split_right) (defScope s_law_split_right) .none kV doc pm an cdv ct), osl⟩) (c : PySem.W.codeIn K cdv "_law_split_right" = true) (k : PySem.W.keepIn K (.ref f) = true) : DefK K mg "_law_split_right" s_law_split_right ["moves", "goal", "start"] :=
  defK_mk X G (fun _ _ _ _ _ _ us hl => match us, hl with | [_, _, _], _ => rfl) a l c k
theorem mk__law_more_right {K : PySem.W.Frag} {h : Heap} {mg : Str → Option Value} {f : Addr} {oc : Value} {od an : Option Addr} {osl : Array (Option Value)} {kV doc pm ct : Value} {cdv : Value} (X : K.In h) (G : h.Ns mainGlobals mg)
    (a : PySem.W.nsIn K mainGlobals "_law_more_right" = some (some (.ref f))) (l : K.lookup f = some ⟨oc, od, .func (PySem.W.fnOf "_law_more_right" "_law_more_right" (defArgs s_law_more_right) (defBody s_law_more_right) (defScope s_law_more_right) .none kV doc pm an cdv ct), osl⟩) (c : PySem.W.codeIn K cdv "_law_more_right" = true) (k : PySem.W.keepIn K (.ref f) = true) : DefK K mg "_law_more_right" s_law_more_right ["tape", "moves", "goal"] :=
  defK_mk X G (fun _ _ _ _ _ _ us hl => match us, hl with | [_, _, _], _ => rfl) a l c k
theorem mk__law_names_right {K : PySem.W.Frag} {h : Heap} {mg : Str → Option Value} {f : Addr} {oc : Value} {od an : Option Addr} {osl : Array (Option Value)} {kV doc pm ct : Value} {cdv : Value} (X : K.In h) (G : h.Ns mainGlobals mg)
    (a : PySem.W.nsIn K mainGlobals "_law_names_right" = some (some (.ref f))) (l : K.lookup f = some ⟨oc, od, .func (PySem.W.fnOf "_law_names_right" "_law_names_right" (defArgs s_law_names_right) (defBody s_law_names_right) (defScope s_law_names_right) .none kV doc pm an cdv ct), osl⟩) (c : PySem.W.codeIn K cdv "_law_names_right" = true) (k : PySem.W.keepIn K (.ref f) = true) : DefK K mg "_law_names_right" s_law_names_right ["tape", "moves", "goal", "start"] :=
  defK_mk X G (fun _ _ _ _ _ _ us hl => match us, hl with | [_, _, _, _], _ => rfl) a l c k
theorem mk__law_take {K : PySem.W.Frag} {h : Heap} {mg : Str → Option Value} {f : Addr} {oc : Value} {od an : Option Addr} {osl : Array (Option Value)} {kV doc pm ct : Value} {cdv : Value} (X : K.In h) (G : h.Ns mainGlobals mg)
    (a : PySem.W.nsIn K mainGlobals "_law_take" = some (some (.ref f))) (l : K.lookup f = some ⟨oc, od, .func (PySem.W.fnOf "_law_take" "_law_take" (defArgs s_take) (defBody s_take) (defScope s_take) .none kV doc pm an cdv ct), osl⟩) (c : PySem.W.codeIn K cdv "_law_take" = true) (k : PySem.W.keepIn K (.ref f) = true) : DefK K mg "_law_take" s_take ["tape", "many"] :=
  defK_mk X G (fun _ _ _ _ _ _ us hl => match us, hl with | [_, _], _ => rfl) a l c k
theorem mk__law_tape {K : PySem.W.Frag} {h : Heap} {mg : Str → Option Value} {f : Addr} {oc : Value} {od an : Option Addr} {osl : Array (Option Value)} {kV doc pm ct : Value} {cdv : Value} (X : K.In h) (G : h.Ns mainGlobals mg)
    (a : PySem.W.nsIn K mainGlobals "_law_tape" = some (some (.ref f))) (l : K.lookup f = some ⟨oc, od, .func (PySem.W.fnOf "_law_tape" "_law_tape" (defArgs s_tape) (defBody s_tape) (defScope s_tape) .none kV doc pm an cdv ct), osl⟩) (c : PySem.W.codeIn K cdv "_law_tape" = true) (k : PySem.W.keepIn K (.ref f) = true) : DefK K mg "_law_tape" s_tape ["script"] :=
  defK_mk X G (fun _ _ _ _ _ _ us hl => match us, hl with | [_], _ => rfl) a l c k
theorem md_mk {K : PySem.W.Frag} {h : Heap} {mg : Str → Option Value} {t30 : Tok} (X : K.In h) (G : h.Ns mainGlobals mg) (z_abs : PySem.W.nsIn K mainGlobals "abs" = some none) (z_all : PySem.W.nsIn K mainGlobals "all" = some none) (z_any : PySem.W.nsIn K mainGlobals "any" = some none) (z_enumerate : PySem.W.nsIn K mainGlobals "enumerate" = some none) (z_int : PySem.W.nsIn K mainGlobals "int" = some none) (z_len : PySem.W.nsIn K mainGlobals "len" = some none) (z_list : PySem.W.nsIn K mainGlobals "list" = some none) (z_max : PySem.W.nsIn K mainGlobals "max" = some none) (z_range : PySem.W.nsIn K mainGlobals "range" = some none) (z_set : PySem.W.nsIn K mainGlobals "set" = some none) (z_sorted : PySem.W.nsIn K mainGlobals "sorted" = some none) (z_tuple : PySem.W.nsIn K mainGlobals "tuple" = some none) (z_zip : PySem.W.nsIn K mainGlobals "zip" = some none) (zM : PySem.W.nsIn K mainGlobals "MOST_PLACES" = some (some (.int 30 t30))) : Md mg :=
  ⟨PySem.W.mg_none_of X G z_abs, PySem.W.mg_none_of X G z_all, PySem.W.mg_none_of X G z_any, PySem.W.mg_none_of X G z_enumerate, PySem.W.mg_none_of X G z_int, PySem.W.mg_none_of X G z_len, PySem.W.mg_none_of X G z_list, PySem.W.mg_none_of X G z_max, PySem.W.mg_none_of X G z_range, PySem.W.mg_none_of X G z_set, PySem.W.mg_none_of X G z_sorted, PySem.W.mg_none_of X G z_tuple, PySem.W.mg_none_of X G z_zip, ⟨_, PySem.W.mg_of X G zM, _, rfl⟩⟩
theorem all_mk {l : PySem.W.OpenLaw} {w : World} {K : PySem.W.Frag} {h : Heap} {mg : Str → Option Value} {fa f Pt cc : Addr} {oc : Value} {od an : Option Addr} {osl : Array (Option Value)} {kV doc pm cdv ct : Value} (X : K.In h) (G : h.Ns mainGlobals mg) (hfa : mg "law" = some (.ref fa)) (hm : m_law.wp fun b => b = true) (hP : h.get? Pt = some { cls := .none, data := .fields #[] })
    (D_check_game : DefK K mg "check_game" s_check_game ["moves"])
    (D_strong_plan : DefK K mg "strong_plan" s_strong_plan ["moves", "goal"])
    (D_good_deed : DefK K mg "good_deed" s_good_deed ["ends", "kept", "near"])
    (D_cyclic_plan : DefK K mg "cyclic_plan" s_cyclic_plan ["moves", "goal"])
    (D_takes_strong : DefK K mg "takes_strong" s_takes_strong ["moves", "goal", "plan"])
    (D_takes_cyclic : DefK K mg "takes_cyclic" s_takes_cyclic ["moves", "goal", "plan"])
    (D__law_draw : DefK K mg "_law_draw" s_law_draw ["tape", "many", "most"])
    (D__law_split : DefK K mg "_law_split" s_law_split ["moves"])
    (D__law_between : DefK K mg "_law_between" s_law_between ["moves"])
    (D_weak_plan : LDef K mg "weak_plan" s_weak_plan ["moves", "start", "goal"] cc)
    (D__law_split_right : DefK K mg "_law_split_right" s_law_split_right ["moves", "goal", "start"])
    (D__law_more_right : DefK K mg "_law_more_right" s_law_more_right ["tape", "moves", "goal"])
    (D__law_names_right : DefK K mg "_law_names_right" s_law_names_right ["tape", "moves", "goal", "start"])
    (D__law_take : DefK K mg "_law_take" s_take ["tape", "many"])
    (D__law_tape : DefK K mg "_law_tape" s_tape ["script"])
    (md : Md mg) (nP : K.lookup Pt = none) (hC : PySem.W.CodeHd h cc Pt)
    (a : PySem.W.nsIn K mainGlobals "law" = some (some (.ref f))) (lk : K.lookup f = some ⟨oc, od, .func (PySem.W.fnOf "law" "law" (defArgs s_law) (defBody s_law) (defScope s_law) .none kV doc pm an cdv ct), osl⟩) (c : PySem.W.codeIn K cdv "law" = true) (k : PySem.W.keepIn K (.ref f) = true) :
    LamX.LawAtS l w K CX0 6 63 "script" mg fa h := by
  have e := hfa.symm.trans (PySem.W.mg_of X G a)
  cases e
  have F := fun_mk (st := s_law) lk c k
  have one : ∀ {A : Addr × Addr → Prop}, A (cc, Pt) → ∀ p ∈ [(cc, Pt)], A p := fun h p hp => by
    have e : p = (cc, Pt) := List.mem_singleton.mp hp
    subst e
    exact h
  refine ⟨PySem.W.fnOf "law" "law" (defArgs s_law) (defBody s_law) (defScope s_law) .none kV doc pm an cdv ct, [(cc, Pt)], spLaw K Pt, one hP, one nP, one hC, fun s u => .of_eq rfl, fun H a ns hl _ hT hS => ⟨a, ns, rfl, hS, hl, hT (cc, Pt) (List.mem_singleton.mpr rfl), fun _ => rfl⟩, fun base _ _ hTB => ?_⟩
  have TB : LamX.TabB base mg cc Pt := hTB (cc, Pt) (List.mem_singleton.mpr rfl)
  have c__law_tape := cal_law_tape (P := l.prog) (w := w) (base := base) D__law_tape md 
  have c__law_take := cal_law_take (P := l.prog) (w := w) (base := base) D__law_take md 
  have c__law_draw := cal_law_draw (P := l.prog) (w := w) (base := base) D__law_draw md c__law_take
  have c_check_game := cal_check_game (P := l.prog) (w := w) (base := base) D_check_game md 
  have c_good_deed := fun {γ : Type} (rg : R K γ) => cal_good_deed (P := l.prog) (w := w) (base := base) rg D_good_deed md
  have c_cyclic_plan := cal_cyclic_plan (P := l.prog) (w := w) (base := base) D_cyclic_plan md c_check_game c_good_deed
  have c_strong_plan := cal_strong_plan (P := l.prog) (w := w) (base := base) D_strong_plan md c_check_game
  have c_weak_plan := cal_weak_plan (P := l.prog) (w := w) (base := base) D_weak_plan TB md c_check_game
  have c__law_more_right := cal_law_more_right (P := l.prog) (w := w) (base := base) (Pt := Pt) D__law_more_right md c__law_take c_cyclic_plan c_strong_plan c_weak_plan
  have c_takes_cyclic := cal_takes_cyclic (P := l.prog) (w := w) (base := base) D_takes_cyclic md c_check_game
  have c_takes_strong := cal_takes_strong (P := l.prog) (w := w) (base := base) D_takes_strong md c_check_game
  have c__law_names_right := cal_law_names_right (P := l.prog) (w := w) (base := base) (Pt := Pt) D__law_names_right md c__law_take c_cyclic_plan c_strong_plan c_takes_cyclic c_takes_strong c_weak_plan
  have c__law_between := cal_law_between (P := l.prog) (w := w) (base := base) D__law_between md 
  have c__law_split := cal_law_split (P := l.prog) (w := w) (base := base) D__law_split md 
  have c__law_split_right := cal_law_split_right (P := l.prog) (w := w) (base := base) (Pt := Pt) D__law_split_right md c__law_between c__law_split c_cyclic_plan c_strong_plan c_takes_cyclic c_takes_strong c_weak_plan
  exact ok_law F md c__law_tape c__law_draw c__law_more_right c__law_names_right c__law_split_right c__law_take hm
end K42

/-! M1: rules for programs, by what is wanted of the result. -/
namespace Nz
namespace Pg
variable {α β L M N S T : Type}
theorem cons {c : Pg α} {p k : α → Prop} (h : c.wp p) (q : ∀ a, p a → k a) : c.wp k := c.mono q h
theorem bnd_of {c : Pg α} {f : α → Pg β} {p : α → Prop} {k : β → Prop} (h : c.wp p) (q : ∀ a, p a → (f a).wp k) : (c >>= f).wp k := c.mono q h
theorem ask_of {p : Prop} {f : Unit → Pg β} {k : β → Prop} (h : p) (q : (f ()).wp k) : (ask p >>= f).wp k := ⟨h, q⟩
theorem opt_of {o : Option α} {f : α → Pg β} {k : β → Prop} {a : α} (h : o = some a) (q : (f a).wp k) : (opt o >>= f).wp k := ⟨a, h, q⟩
theorem if_of {c : Pg Bool} {x y : Pg α} {k : α → Prop} {b : Bool} (h : c.wp fun z => z = b) (q : if b = true then x.wp k else y.wp k) : (ifG c x y).wp k := c.mono (fun z e => by subst e; exact q) h
theorem and_of {c d : Pg Bool} {b1 b2 : Bool} (h : c.wp fun z => z = b1) (q : b1 = true → d.wp fun z => z = b2) : (andG c d).wp fun z => z = (b1 && b2) := c.mono (fun z e => by
  subst e
  cases z with
  | true => rw [if_pos rfl]; exact q rfl
  | false => rw [if_neg Bool.false_ne_true]; rfl) h
theorem or_of {c d : Pg Bool} {b1 b2 : Bool} (h : c.wp fun z => z = b1) (q : b1 = false → d.wp fun z => z = b2) : (orG c d).wp fun z => z = (b1 || b2) := c.mono (fun z e => by
  subst e
  cases z with
  | true => rw [if_pos rfl]; rfl
  | false => rw [if_neg Bool.false_ne_true]; exact q rfl) h
theorem ite_of {c : Pg Bool} {a b : Pg (Ctl β L M)} {m : M → Pg (Ctl β L N)} {k : Ctl β L N → Prop} {v : Bool} (h : c.wp fun z => z = v) (q : if v = true then a.wp (seqK (fun s => (m s).wp) k) else b.wp (seqK (fun s => (m s).wp) k)) : (iteG c a b m).wp k := c.mono (fun z e => by subst e; exact q) h
theorem out_of {m : Pg (Ctl β Empty Unit)} {k : β → Prop} (h : m.wp fun c => match c with | .rt b => k b | _ => False) : (outG m).wp k := m.mono (fun c hc => by
  cases c with
  | rt b => exact hc
  | nx _ => exact hc.elim
  | bk l => exact nomatch l
  | ct l => exact nomatch l) h
theorem comp_of {t : α → Pg Bool} {f : α → Pg β} (tv : α → Bool) (fv : α → β) : ∀ (xs : List α), (∀ x ∈ xs, (t x).wp fun z => z = tv x) → (∀ x ∈ xs, tv x = true → (f x).wp fun z => z = fv x) → (comp xs t f).wp fun z => z = (xs.filter tv).map fv
  | [], _, _ => rfl
  | x :: xs, ht, hf => by
    show (t x).wp _
    refine (t x).mono ?_ (ht x (List.mem_cons_self ..))
    intro b e
    subst e
    have ih := comp_of tv fv xs (fun y hy => ht y (List.mem_cons_of_mem _ hy)) fun y hy => hf y (List.mem_cons_of_mem _ hy)
    cases h : tv x with
    | true =>
      rw [if_pos rfl]
      refine (f x).mono ?_ (hf x (List.mem_cons_self ..) h)
      intro y e
      subst e
      refine (comp xs t f).mono (k := fun z => z = (xs.filter tv).map fv) ?_ ih
      intro ys e
      subst e
      simp [List.filter_cons, h]
    | false =>
      rw [if_neg Bool.false_ne_true]
      refine (comp xs t f).mono (k := fun z => z = (xs.filter tv).map fv) ?_ ih
      intro ys e
      subst e
      simp [List.filter_cons, h]
/-- a loop over items: an invariant of what is done, or a return -/
theorem forc_of {f : α → S → Pg (Ctl β S S)} {k : Ctl β L S → Prop} {xs : List α} {s : S} (I : List α → S → Prop) (h0 : I [] s)
    (hb : ∀ pre x post s, xs = pre ++ x :: post → I pre s → (f x s).wp fun c => match c with | .nx s' => I (pre ++ [x]) s' | .rt b => k (.rt b) | _ => False) (hk : ∀ s, I xs s → k (.nx s)) : (forc xs s f).wp k := by
  have go : ∀ (post pre : List α) (s : S), xs = pre ++ post → I pre s → forC post s (fun x s => (f x s).wp) k := by
    intro post
    induction post with
    | nil =>
      intro pre s e h
      rw [List.append_nil] at e
      subst e
      exact hk s h
    | cons x post ih =>
      intro pre s e h
      refine (f x s).mono ?_ (hb pre x post s e h)
      intro c hc
      cases c with
      | nx s' => exact ih (pre ++ [x]) s' (by rw [e]; simp) hc
      | rt b => exact hc
      | bk s' => exact hc.elim
      | ct s' => exact hc.elim
  exact go xs [] s rfl h0
/-- .. that counts as a fold -/
theorem forc_fold {f : α → S → Pg (Ctl β S S)} {k : Ctl β L S → Prop} {xs : List α} {s : S} (g : S → α → S) (J : S → Prop) (h0 : J s)
    (hb : ∀ x ∈ xs, ∀ s, J s → J (g s x) ∧ (f x s).wp fun c => c = .nx (g s x)) (hk : k (.nx (xs.foldl g s))) : (forc xs s f).wp k := by
  refine forc_of (fun pre t => t = pre.foldl g s ∧ J t) ⟨rfl, h0⟩ (fun pre x post t e h => ?_) (fun t h => by rw [h.1]; exact hk)
  obtain ⟨a, b⟩ := hb x (by rw [e]; simp) t h.2
  refine (f x t).mono ?_ b
  intro c hc
  subst hc
  exact ⟨by rw [List.foldl_append, ← h.1]; rfl, a⟩
theorem while_of {t : S → Pg Bool} {f : S → Pg (Ctl β S S)} {k : Ctl β L S → Prop} {s : S} (I : S → Prop) (m : S → Nat) (tv : S → Bool) (h0 : I s) (ht : ∀ s, I s → (t s).wp fun z => z = tv s)
    (hb : ∀ s, I s → tv s = true → (f s).wp fun c => match c with | .nx s' => I s' ∧ m s' < m s | .rt b => k (.rt b) | _ => False) (hk : ∀ s, I s → tv s = false → k (.nx s)) : (while' s t f).wp k := by
  have go : ∀ (n : Nat) (s : S), m s < n → I s → whileN n s (fun s => (t s).wp) (fun s => (f s).wp) k := by
    intro n
    induction n with
    | zero => intro s h; exact absurd h (Nat.not_lt_zero _)
    | succ n ih =>
      intro s h hI
      refine (t s).mono ?_ (ht s hI)
      intro b e
      subst e
      cases hv : tv s with
      | true =>
        rw [if_pos rfl]
        refine (f s).mono ?_ (hb s hI hv)
        intro c hc
        cases c with
        | nx s' => exact ih s' (by have := hc.2; omega) hc.1
        | rt b => exact hc
        | bk s' => exact hc.elim
        | ct s' => exact hc.elim
      | false =>
        rw [if_neg Bool.false_ne_true]
        exact hk s hI hv
  exact ⟨m s + 1, go _ s (Nat.lt_succ_self _) h0⟩
theorem whileb_of {f : S → Pg (Ctl β T S)} {k : Ctl β L T → Prop} {s : S} (I : S → Prop) (m : S → Nat) (h0 : I s)
    (hb : ∀ s, I s → (f s).wp fun c => match c with | .nx s' => I s' ∧ m s' < m s | .rt b => k (.rt b) | .bk b => k (.nx b) | _ => False) : (whileb s f).wp k := by
  have go : ∀ (n : Nat) (s : S), m s < n → I s → whileB n s (fun s => (f s).wp) k := by
    intro n
    induction n with
    | zero => intro s h; exact absurd h (Nat.not_lt_zero _)
    | succ n ih =>
      intro s h hI
      refine (f s).mono ?_ (hb s hI)
      intro c hc
      cases c with
      | nx s' => exact ih s' (by have := hc.2; omega) hc.1
      | rt b => exact hc
      | bk s' => exact hc
      | ct s' => exact hc.elim
  exact ⟨m s + 1, go _ s (Nat.lt_succ_self _) h0⟩
theorem dict_of {γ κ : Type} [DecidableEq κ] {t : γ → Pg Bool} {fk : γ → Pg κ} {fv : γ → Pg α} (tv : γ → Bool) (kv : γ → κ) (vv : γ → α) {xs : List γ} (ht : ∀ x ∈ xs, (t x).wp fun z => z = tv x) (hk : ∀ x ∈ xs, tv x = true → (fk x).wp fun z => z = kv x) (hv : ∀ x ∈ xs, tv x = true → (fv x).wp fun z => z = vv x) :
    (dict xs t fk fv).wp fun z => z = (xs.filter tv).foldl (fun d x => dput d (kv x) (vv x)) [] := by
  have go : ∀ (xs : List γ) (d : List (κ × α)), (∀ x ∈ xs, (t x).wp fun z => z = tv x) → (∀ x ∈ xs, tv x = true → (fk x).wp fun z => z = kv x) → (∀ x ∈ xs, tv x = true → (fv x).wp fun z => z = vv x) → dictT xs (fun x => (t x).wp) (fun x => (fk x).wp) (fun x => (fv x).wp) d fun z => z = (xs.filter tv).foldl (fun d x => dput d (kv x) (vv x)) d := by
    intro xs
    induction xs with
    | nil => intro d _ _ _; rfl
    | cons x xs ih =>
      intro d ht hk hv
      have ih' := fun d => ih d (fun y hy => ht y (List.mem_cons_of_mem _ hy)) (fun y hy => hk y (List.mem_cons_of_mem _ hy)) fun y hy => hv y (List.mem_cons_of_mem _ hy)
      refine (t x).mono ?_ (ht x (List.mem_cons_self ..))
      intro b e
      subst e
      cases h : tv x with
      | true =>
        rw [if_pos rfl]
        refine (fk x).mono ?_ (hk x (List.mem_cons_self ..) h)
        intro y e
        subst e
        refine (fv x).mono ?_ (hv x (List.mem_cons_self ..) h)
        intro v e
        subst e
        have := ih' (dput d (kv x) (vv x))
        simp only [List.filter_cons, h, if_true, List.foldl_cons]
        exact this
      | false =>
        rw [if_neg Bool.false_ne_true]
        have := ih' d
        simp only [List.filter_cons, h, Bool.false_eq_true, if_false]
        exact this
  exact go xs [] ht hk hv
end Pg
section
variable {κ α : Type} [DecidableEq κ]
theorem dget_none {d : List (κ × α)} {k : κ} : dget d k = none ↔ k ∉ d.map (·.1) := by
  induction d with
  | nil => simp [dget]
  | cons p d ih =>
    by_cases h : p.1 = k
    · simp [dget, h]
    · simp only [dget, h, if_false, ih, List.map_cons, List.mem_cons, not_or]
      exact ⟨fun q => ⟨fun e => h e.symm, q⟩, fun q => q.2⟩
theorem dget_isSome {d : List (κ × α)} {k : κ} : (dget d k).isSome = true ↔ k ∈ d.map (·.1) := by
  cases h : dget d k with
  | none => simpa using dget_none.mp h
  | some v =>
    simp only [Option.isSome_some, true_iff]
    exact Classical.byContradiction fun q => by rw [dget_none.mpr q] at h; cases h
theorem dget_map {d : List (κ × α)} {k k' : κ} {v : α} : dget (d.map fun p => if p.1 = k then (p.1, v) else p) k' = if k' = k then (dget d k').map (fun _ => v) else dget d k' := by
  induction d with
  | nil => simp [dget]
  | cons p d ih =>
    by_cases h : p.1 = k
    · by_cases h2 : k' = k
      · subst h2
        simp [dget, h]
      · have h3 : ¬ k = k' := fun e => h2 e.symm
        simp [dget, h, h2, h3, ih]
    · by_cases h2 : k' = k
      · subst h2
        simp [dget, h, ih]
      · simp [dget, h, h2, ih]
theorem dget_append {d e : List (κ × α)} {k : κ} : dget (d ++ e) k = (dget d k).or (dget e k) := by
  induction d with
  | nil => simp [dget]
  | cons p d ih =>
    by_cases h : p.1 = k
    · simp [dget, h]
    · simp [dget, h, ih]
theorem any_key {d : List (κ × α)} {k : κ} : (d.any fun p => decide (p.1 = k)) = true ↔ k ∈ d.map (·.1) := by
  simp [List.any_eq_true]
theorem dget_dput (d : List (κ × α)) (k k' : κ) (v : α) : dget (dput d k v) k' = if k' = k then some v else dget d k' := by
  unfold dput
  by_cases h : (d.any fun p => decide (p.1 = k)) = true
  · rw [if_pos h, dget_map]
    by_cases e : k' = k
    · subst e
      rw [if_pos rfl, if_pos rfl]
      have := dget_isSome.mpr (any_key.mp h)
      cases h' : dget d k' with
      | none => rw [h'] at this; cases this
      | some _ => rfl
    · rw [if_neg e, if_neg e]
  · rw [if_neg h, dget_append]
    have hn : dget d k = none := dget_none.mpr fun q => h (any_key.mpr q)
    by_cases e : k' = k
    · subst e
      simp [hn, dget]
    · have e' : ¬ k = k' := fun q => e q.symm
      simp [dget, e, e']
theorem keys_dput (d : List (κ × α)) (k : κ) (v : α) : (dput d k v).map (·.1) = if k ∈ d.map (·.1) then d.map (·.1) else d.map (·.1) ++ [k] := by
  unfold dput
  by_cases h : (d.any fun p => decide (p.1 = k)) = true
  · rw [if_pos h, if_pos (any_key.mp h), List.map_map]
    congr 1
    funext p
    by_cases e : p.1 = k <;> simp [e]
  · rw [if_neg h, if_neg fun q => h (any_key.mpr q)]
    simp
def NdK (d : List (κ × α)) : Prop := (d.map (·.1)).Nodup
theorem NdK.dput {d : List (κ × α)} (h : NdK d) (k : κ) (v : α) : NdK (dput d k v) := by
  unfold NdK
  rw [keys_dput]
  split
  · exact h
  · rename_i q
    rw [List.nodup_append]
    refine ⟨h, by simp, fun a ha b hb => ?_⟩
    simp at hb
    subst hb
    exact fun e => q (e ▸ ha)
theorem mem_keys_dput {d : List (κ × α)} {k k' : κ} {v : α} : k' ∈ (dput d k v).map (·.1) ↔ k' = k ∨ k' ∈ d.map (·.1) := by
  rw [keys_dput]
  split
  · rename_i q
    exact ⟨.inr, fun h => h.elim (fun e => e ▸ q) id⟩
  · simp [or_comm]
theorem dget_dputs : ∀ (e d : List (κ × α)) (k : κ), NdK e → dget (dputs d e) k = (dget e k).or (dget d k)
  | [], d, k, _ => by simp [dputs, dget]
  | p :: e, d, k, h => by
    have h' : NdK e := (List.nodup_cons.mp h).2
    have hp : p.1 ∉ e.map (·.1) := (List.nodup_cons.mp h).1
    show dget (dputs (dput d p.1 p.2) e) k = _
    rw [dget_dputs e _ k h', dget_dput]
    by_cases q : k = p.1
    · subst q
      rw [dget_none.mpr hp]
      simp [dget]
    · have q' : ¬ p.1 = k := fun z => q z.symm
      simp [dget, q, q']
theorem NdK.dputs : ∀ (e : List (κ × α)) {d : List (κ × α)}, NdK d → NdK (dputs d e)
  | [], _, h => h
  | p :: e, _, h => NdK.dputs e (h.dput p.1 p.2)
theorem mem_keys_dputs : ∀ (e d : List (κ × α)) {k : κ}, k ∈ (dputs d e).map (·.1) ↔ k ∈ e.map (·.1) ∨ k ∈ d.map (·.1)
  | [], d, k => by simp [dputs]
  | p :: e, d, k => by
    show k ∈ (dputs (dput d p.1 p.2) e).map (·.1) ↔ _
    rw [mem_keys_dputs e, mem_keys_dput, List.map_cons, List.mem_cons]
    exact ⟨fun h => h.elim (fun a => .inl (.inr a)) fun h => h.elim (fun a => .inl (.inl a)) .inr, fun h => h.elim (fun h => h.elim (fun a => .inr (.inl a)) .inl) fun a => .inr (.inr a)⟩
end
end Nz

/-! M2: the game, strong plans. -/
namespace K42
open PySem L2 Nz
abbrev Game := List (List (List Int))
/-- a game as the programs take it -/
structure OkG (g : Game) : Prop where
  lo : 1 ≤ g.length
  hi : g.length ≤ 30
  ok : ∀ row ∈ g, ∀ ends ∈ row, ends ≠ [] ∧ (∀ e ∈ ends, 0 ≤ e ∧ e < (g.length : Int)) ∧ ends.Pairwise (· < ·)
theorem cut_head (l : List Int) : cut l none (some (-1)) = l.take (l.length - 1) := by
  unfold cut
  have e1 : HT.sIx l.length 0 none = 0 := rfl
  have e2 : HT.sIx l.length l.length (some (-1)) = l.length - 1 := by
    show (if (-1 : Int) < 0 then (-1 + (l.length : Int)).toNat else min (-1 : Int).toNat l.length) = _
    rw [if_pos (by omega)]
    omega
  rw [e1, e2]
  simp
theorem cut_tail (l : List Int) : cut l (some 1) none = l.drop 1 := by
  unfold cut
  have e1 : HT.sIx l.length 0 (some 1) = min 1 l.length := by
    show (if (1 : Int) < 0 then (1 + (l.length : Int)).toNat else min (1 : Int).toNat l.length) = _
    rw [if_neg (by omega)]
    rfl
  have e2 : HT.sIx l.length l.length none = l.length := rfl
  rw [e1, e2]
  cases l with
  | nil => rfl
  | cons x l =>
    have : min 1 (x :: l).length = 1 := by simp
    rw [this, List.take_of_length_le (by simp)]
theorem zip_rises {l : List Int} (h : l.Pairwise (· < ·)) : ∀ p ∈ List.zip (cut l none (some (-1))) (cut l (some 1) none), p.1 < p.2 := by
  rw [cut_head, cut_tail]
  intro p hp
  obtain ⟨i, hi, e⟩ := List.mem_iff_getElem.mp hp
  rw [List.getElem_zip] at e
  subst e
  simp only [List.getElem_take, List.getElem_drop]
  exact List.pairwise_iff_getElem.mp h _ _ _ _ (by omega)
theorem check_of {g : Game} (h : OkG g) {k : Unit → Prop} (q : k ()) : (m_check_game g).wp k := by
  have lo : (1 : Int) ≤ (g.length : Int) := by have := h.lo; omega
  have hi : (g.length : Int) ≤ 30 := by have := h.hi; omega
  unfold m_check_game
  simp only [Pg.andG_pure, lo, hi, decide_true, Bool.and_self, Pg.pure_bnd, Bool.not_true, Pg.ifG_pure, Bool.false_eq_true, if_false]
  refine Pg.forc_of (L := Empty) (fun _ _ => True) trivial (fun pre row post s e _ => ?_) (fun _ _ => q)
  have hr : row ∈ g := by rw [e]; simp
  refine Pg.forc_of (L := Unit) (fun _ _ => True) trivial (fun pre ends post s e _ => ?_) (fun _ _ => trivial)
  obtain ⟨hne, hb, hp⟩ := h.ok row hr ends (by rw [e]; simp)
  simp only [Pg.comp_pure, Pg.pure_bnd, Pg.andG_pure, Pg.orG_pure, Pg.ifG_pure]
  rw [if_neg]
  · exact trivial
  · have h1 : ends.isEmpty = false := by cases ends with
      | nil => exact absurd rfl hne
      | cons _ _ => rfl
    have h2 : ((List.filter (fun x => true) ends).map fun x => decide (0 ≤ x) && decide (x < (g.length : Int))).all id = true := by
      rw [List.all_eq_true]
      intro b hb'
      obtain ⟨x, hx, e⟩ := List.mem_map.mp hb'
      have := hb x (List.mem_filter.mp hx).1
      subst e
      simp [this.1, this.2]
    have h3 : ((List.filter (fun x => true) (List.zip (cut ends none (some (-1))) (cut ends (some 1) none))).map fun x => decide (x.1 < x.2)).all id = true := by
      rw [List.all_eq_true]
      intro b hb'
      obtain ⟨x, hx, e⟩ := List.mem_map.mp hb'
      have := zip_rises hp x (List.mem_filter.mp hx).1
      subst e
      simp [this]
    rw [h1, h2, h3]
    simp
end K42

/-! V1: layers by rounds: who is reached at which round, and by which deed first. -/
namespace K42
abbrev Rows := Int → List (List Int)
abbrev Tst := (Int → Bool) → List Int → Bool
def V (rw : Rows) (b : Int → Bool) (t : Tst) : Nat → Int → Option (Nat × Option Nat)
  | 0, p => if b p = true then some (0, none) else none
  | n + 1, p => (V rw b t n p).or (((rw p).findIdx? (t fun q => (V rw b t n q).isSome)).map fun k => (n + 1, some k))
def G (rw : Rows) (b : Int → Bool) (t : Tst) (n : Nat) (p : Int) : Bool := (V rw b t n p).isSome
section
variable {rw : Rows} {b : Int → Bool} {t : Tst}
theorem V_succ (n : Nat) (p : Int) : V rw b t (n + 1) p = (V rw b t n p).or (((rw p).findIdx? (t (G rw b t n))).map fun k => (n + 1, some k)) := rfl
theorem V_step {n : Nat} {p : Int} {v} (h : V rw b t n p = some v) : V rw b t (n + 1) p = some v := by rw [V_succ, h]; rfl
theorem V_mono {n m : Nat} {p : Int} {v} (h : V rw b t n p = some v) (l : n ≤ m) : V rw b t m p = some v := by
  induction l with
  | refl => exact h
  | step _ ih => exact V_step ih
theorem G_zero (p : Int) : G rw b t 0 p = b p := by
  unfold G V
  cases h : b p <;> simp
theorem G_succ (n : Nat) (p : Int) : G rw b t (n + 1) p = (G rw b t n p || (rw p).any (t (G rw b t n))) := by
  unfold G
  rw [V_succ]
  cases h : V rw b t n p with
  | some v => simp
  | none =>
    simp only [Option.none_or, Option.isSome_map, Option.isSome_none, Bool.false_or]
    rw [List.findIdx?_isSome]
    rfl
theorem G_mono {n m : Nat} {p : Int} (h : G rw b t n p = true) (l : n ≤ m) : G rw b t m p = true := by
  obtain ⟨v, e⟩ := Option.isSome_iff_exists.mp h
  unfold G
  rw [V_mono e l]; rfl
/-- the round and the deed are those of the first round that has it -/
theorem V_rank {n : Nat} {p : Int} {r : Nat} {k : Option Nat} (h : V rw b t n p = some (r, k)) :
    r ≤ n ∧ V rw b t r p = some (r, k) ∧ (∀ m, m < r → V rw b t m p = none) ∧ (r = 0 → b p = true ∧ k = none) ∧ (∀ m, r = m + 1 → ∃ j, k = some j ∧ (rw p).findIdx? (t (G rw b t m)) = some j) := by
  induction n with
  | zero =>
    unfold V at h
    split at h
    · rename_i hb
      cases h
      exact ⟨Nat.le_refl _, by unfold V; rw [if_pos hb], fun m hm => absurd hm (Nat.not_lt_zero _), fun _ => ⟨hb, rfl⟩, fun m e => by cases e⟩
    · cases h
  | succ n ih =>
    cases hv : V rw b t n p with
    | some v =>
      have h' := V_step (rw := rw) (b := b) (t := t) hv
      rw [h] at h'
      cases h'
      obtain ⟨a, c⟩ := ih hv
      exact ⟨Nat.le_succ_of_le a, c⟩
    | none =>
      have h0 := h
      rw [V_succ, hv, Option.none_or, Option.map_eq_some_iff] at h
      obtain ⟨j, hj, e⟩ := h
      cases e
      refine ⟨Nat.le_refl _, h0, fun m hm => ?_, fun e => (by cases e), fun m e => by cases e; exact ⟨j, rfl, hj⟩⟩
      cases hm' : V rw b t m p with
      | none => rfl
      | some v => rw [V_mono hm' (Nat.le_of_lt_succ hm)] at hv; cases hv
theorem V_of_G {n : Nat} {p : Int} (h : G rw b t n p = true) : ∃ r k, V rw b t n p = some (r, k) := by
  obtain ⟨⟨r, k⟩, e⟩ := Option.isSome_iff_exists.mp h
  exact ⟨r, k, e⟩
/-- a round that brings nothing is the last -/
theorem V_fix {n : Nat} (h : ∀ p, G rw b t (n + 1) p = G rw b t n p) {m : Nat} (l : n ≤ m) (p : Int) : V rw b t m p = V rw b t n p := by
  have hg : ∀ m, n ≤ m → (∀ p, G rw b t m p = G rw b t n p) → ∀ p, V rw b t (m + 1) p = V rw b t m p := by
    intro m l e p
    have e1 : G rw b t m = G rw b t n := funext e
    have h1 := h p
    rw [G_succ] at h1
    cases hv : V rw b t m p with
    | some v => exact V_step hv
    | none =>
      rw [V_succ, hv, Option.none_or]
      have hn : G rw b t n p = false := by rw [← e1]; unfold G; rw [hv]; rfl
      rw [hn, Bool.false_or] at h1
      rw [e1, List.findIdx?_eq_none_iff.mpr (by simpa using h1)]
      rfl
  induction l with
  | refl => rfl
  | step l ih =>
    rename_i m
    have e : ∀ p, G rw b t m p = G rw b t n p := by
      have : ∀ m, n ≤ m → ∀ p, V rw b t m p = V rw b t n p := by
        intro m l
        induction l with
        | refl => intro p; rfl
        | step l ih2 => intro p; rw [hg _ l (fun p => by unfold G; rw [ih2 p]) p, ih2 p]
      intro p; unfold G; rw [this m l p]
    rw [hg m l e p]
    unfold G at e
    exact ih
/-- stable from n on -/
def Stab (rw : Rows) (b : Int → Bool) (t : Tst) (n : Nat) : Prop := ∀ m, n ≤ m → ∀ p, V rw b t m p = V rw b t n p
theorem Stab.le {n m : Nat} (h : Stab rw b t n) (l : n ≤ m) : Stab rw b t m := fun k hk p => by rw [h k (Nat.le_trans l hk), h m l]
theorem Stab.some {n m : Nat} {p : Int} {v} (h : Stab rw b t n) (e : V rw b t m p = some v) : V rw b t n p = some v := by
  have := h (max n m) (Nat.le_max_left ..) p
  rw [← this]
  exact V_mono e (Nat.le_max_right ..)
theorem Stab.g {n m : Nat} {p : Int} (h : Stab rw b t n) (e : G rw b t m p = true) : G rw b t n p = true := by
  obtain ⟨v, e⟩ := Option.isSome_iff_exists.mp e
  unfold G; rw [h.some e]; rfl
/-- two systems with the same rounds -/
theorem V_congr {rw' : Rows} {b' : Int → Bool} {t' : Tst} (hb : ∀ p, b' p = b p) (hs : ∀ n p, (∀ q, V rw' b' t' n q = V rw b t n q) → V rw b t n p = none → (rw' p).findIdx? (t' (G rw b t n)) = (rw p).findIdx? (t (G rw b t n))) : ∀ n p, V rw' b' t' n p = V rw b t n p
  | 0, p => by unfold V; rw [hb]
  | n + 1, p => by
    have ih := V_congr hb hs n
    have e : G rw' b' t' n = G rw b t n := funext fun q => by unfold G; rw [ih q]
    rw [V_succ, V_succ, ih p]
    cases hv : V rw b t n p with
    | some v => simp
    | none => rw [e, hs n p ih hv]
/-- who is reached in one system is in another -/
theorem G_sub {rw' : Rows} {b' : Int → Bool} {t' : Tst} {P : Int → Prop} (hb : ∀ p, P p → b p = true → b' p = true) (hs : ∀ n p, P p → (∀ q, P q → G rw b t n q = true → G rw' b' t' n q = true) → (rw p).any (t (G rw b t n)) = true → (rw' p).any (t' (G rw' b' t' n)) = true) : ∀ n p, P p → G rw b t n p = true → G rw' b' t' n p = true
  | 0, p, hp, h => by
    rw [G_zero] at h ⊢
    exact hb p hp h
  | n + 1, p, hp, h => by
    have ih := G_sub hb hs n
    rw [G_succ, Bool.or_eq_true] at h ⊢
    rcases h with h | h
    · exact .inl (ih p hp h)
    · exact .inr (hs n p hp ih h)
theorem rank_le {rw' : Rows} {b' : Int → Bool} {t' : Tst} (hs : ∀ n p, G rw b t n p = true → G rw' b' t' n p = true) {n m : Nat} {p : Int} {r r' : Nat} {k k' : Option Nat} (h : V rw b t n p = some (r, k)) (h' : V rw' b' t' m p = some (r', k')) : r' ≤ r := by
  obtain ⟨_, h1, _⟩ := V_rank h
  obtain ⟨_, _, h2, _⟩ := V_rank h'
  have := hs r p (by unfold G; rw [h1]; rfl)
  apply Classical.byContradiction
  intro q
  have := h2 r (by omega)
  unfold G at *
  simp_all
end
/-- names -/
theorem V_names {rw rw' : Rows} {b b' : Int → Bool} {t t' : Tst} {P : Int → Prop} (σ : Int → Int) (hb : ∀ p, P p → b' (σ p) = b p) (hs : ∀ n p, P p → (∀ q, P q → V rw' b' t' n (σ q) = V rw b t n q) → (rw' (σ p)).findIdx? (t' (G rw' b' t' n)) = (rw p).findIdx? (t (G rw b t n))) : ∀ n p, P p → V rw' b' t' n (σ p) = V rw b t n p
  | 0, p, hp => by unfold V; rw [hb p hp]
  | n + 1, p, hp => by
    have ih := V_names σ hb hs n
    rw [V_succ, V_succ, ih p hp, hs n p hp ih]
/-! ### in two steps -/
/-- the first round, below n, at which a deed's ends pass -/
def En (u : Nat → Bool) : Nat → Option Nat
  | 0 => none
  | n + 1 => (En u n).or (if u n = true then some n else none)
theorem En_some {u : Nat → Bool} : ∀ {n m : Nat}, En u n = some m → m < n ∧ u m = true ∧ ∀ j, j < m → u j = false
  | 0, m, h => by cases h
  | n + 1, m, h => by
    unfold En at h
    cases e : En u n with
    | some j =>
      rw [e] at h
      cases h
      obtain ⟨a, c, d⟩ := En_some e
      exact ⟨by omega, c, d⟩
    | none =>
      rw [e, Option.none_or] at h
      split at h
      · rename_i hu
        have e0 := Option.some.inj h
        subst e0
        refine ⟨by omega, hu, fun j hj => ?_⟩
        have : ∀ n j, En u n = none → j < n → u j = false := by
          intro n
          induction n with
          | zero => intro j _ h; omega
          | succ n ih =>
            intro j e hj
            unfold En at e
            rw [Option.or_eq_none_iff] at e
            by_cases q : j = n
            · subst q
              cases hq : u j with
              | true => rw [hq] at e; simp at e
              | false => rfl
            · exact ih j e.1 (by omega)
        exact this _ j e hj
      · cases h
theorem En_isSome {u : Nat → Bool} (hm : ∀ n, u n = true → u (n + 1) = true) : ∀ n, (En u (n + 1)).isSome = u n
  | 0 => by unfold En En; cases h : u 0 <;> simp
  | n + 1 => by
    have ih := En_isSome hm n
    rw [En]
    cases h : u (n + 1) with
    | true => cases En u (n + 1) <;> simp
    | false =>
      have : u n = false := by
        cases hq : u n with
        | false => rfl
        | true => rw [hm n hq] at h; cases h
      rw [this] at ih
      cases e : En u (n + 1) with
      | none => rfl
      | some v => rw [e] at ih; cases ih
def dbl (v : Nat × Option Nat) : Nat × Option Nat := (2 * v.1, v.2)
structure Split (rw rw' : Rows) (b b' : Int → Bool) (t t' : Tst) (B : Int → Prop) (at_ : Int → Nat → Int) : Prop where
  hb : ∀ p, B p → b' p = b p
  hb0 : ∀ p k, B p → k < (rw p).length → b' (at_ p k) = false
  row : ∀ p, B p → rw' p = (List.range (rw p).length).map fun k => [at_ p k]
  one : ∀ p k, B p → (h : k < (rw p).length) → rw' (at_ p k) = [(rw p)[k]]
  ends : ∀ p k, B p → (h : k < (rw p).length) → ∀ e ∈ (rw p)[k], B e
  t1 : ∀ n p k, B p → k < (rw p).length → t' (G rw' b' t' n) [at_ p k] = G rw' b' t' n (at_ p k)
  t2 : ∀ n m p k, B p → (h : k < (rw p).length) → (∀ e ∈ (rw p)[k], G rw' b' t' m e = G rw b t n e) → t' (G rw' b' t' m) (rw p)[k] = t (G rw b t n) (rw p)[k]
  tm : ∀ n p k, B p → (h : k < (rw p).length) → t (G rw b t n) (rw p)[k] = true → t (G rw b t (n + 1)) (rw p)[k] = true
section
variable {rw rw' : Rows} {b b' : Int → Bool} {t t' : Tst} {B : Int → Prop} {at_ : Int → Nat → Int}
theorem findIdx_range {α : Type} (l : List α) (f : Nat → List Int) (u : List Int → Bool) (v : α → Bool) (h : ∀ k (hk : k < l.length), u (f k) = v l[k]) : ((List.range l.length).map f).findIdx? u = l.findIdx? v := by
  induction l generalizing f with
  | nil => rfl
  | cons x l ih =>
    rw [List.length_cons, List.range_succ_eq_map, List.map_cons, List.findIdx?_cons, List.findIdx?_cons, List.map_map]
    have h0 := h 0 (by simp)
    simp only [List.getElem_cons_zero] at h0
    rw [h0, ih (f ∘ Nat.succ) fun k hk => by
      have := h (k + 1) (by simpa using hk)
      simpa using this]
theorem Split.at' (S : Split rw rw' b b' t t' B at_) (n : Nat) :
    (∀ p, B p → V rw' b' t' (2 * n) p = (V rw b t n p).map dbl) ∧ (∀ p, B p → V rw' b' t' (2 * n + 1) p = (V rw b t n p).map dbl) ∧
    (∀ p k, B p → (h : k < (rw p).length) → V rw' b' t' (2 * n) (at_ p k) = (En (fun m => t (G rw b t m) (rw p)[k]) n).map fun m => (2 * m + 1, some 0)) ∧
    (∀ p k, B p → (h : k < (rw p).length) → V rw' b' t' (2 * n + 1) (at_ p k) = (En (fun m => t (G rw b t m) (rw p)[k]) (n + 1)).map fun m => (2 * m + 1, some 0)) := by
  have even : ∀ n, (∀ p, B p → V rw' b' t' (2 * n) p = (V rw b t n p).map dbl) → (∀ p k, B p → (h : k < (rw p).length) → V rw' b' t' (2 * n) (at_ p k) = (En (fun m => t (G rw b t m) (rw p)[k]) n).map fun m => (2 * m + 1, some 0)) →
      (∀ p, B p → V rw' b' t' (2 * n + 1) p = (V rw b t n p).map dbl) ∧ (∀ p k, B p → (h : k < (rw p).length) → V rw' b' t' (2 * n + 1) (at_ p k) = (En (fun m => t (G rw b t m) (rw p)[k]) (n + 1)).map fun m => (2 * m + 1, some 0)) := by
    intro n h1 h2
    constructor
    · intro p hp
      rw [V_succ, h1 p hp]
      cases hv : V rw b t n p with
      | some v => rfl
      | none =>
        rw [Option.map_none, Option.none_or, S.row p hp]
        rw [List.findIdx?_eq_none_iff.mpr]
        · rfl
        · intro x hx
          obtain ⟨k, hk, e⟩ := List.mem_map.mp hx
          have hk := List.mem_range.mp hk
          subst e
          rw [S.t1 _ p k hp hk]
          unfold G
          rw [h2 p k hp hk, Option.isSome_map]
          cases n with
          | zero => rfl
          | succ n =>
            rw [En_isSome (u := fun m => t (G rw b t m) (rw p)[k]) fun n => S.tm n p k hp hk]
            have : V rw b t (n + 1) p = none := hv
            rw [V_succ, Option.or_eq_none_iff, Option.map_eq_none_iff] at this
            have := List.findIdx?_eq_none_iff.mp this.2 (rw p)[k] (List.getElem_mem hk)
            simpa using this
    · intro p k hp hk
      rw [V_succ, h2 p k hp hk, S.one p k hp hk]
      have e := S.t2 n (2 * n) p k hp hk fun e he => by unfold G; rw [h1 e (S.ends p k hp hk e he), Option.isSome_map]
      rw [List.findIdx?_cons, e, List.findIdx?_nil, En]
      cases En (fun m => t (G rw b t m) (rw p)[k]) n with
      | some v => simp
      | none => cases t (G rw b t n) (rw p)[k] <;> simp
  induction n with
  | zero =>
    have a1 : ∀ p, B p → V rw' b' t' (2 * 0) p = (V rw b t 0 p).map dbl := fun p hp => by
      show V rw' b' t' 0 p = _
      unfold V
      rw [S.hb p hp]
      cases b p <;> rfl
    have a2 : ∀ p k, B p → (h : k < (rw p).length) → V rw' b' t' (2 * 0) (at_ p k) = (En (fun m => t (G rw b t m) (rw p)[k]) 0).map fun m => (2 * m + 1, some 0) := fun p k hp hk => by
      show V rw' b' t' 0 (at_ p k) = _
      unfold V
      rw [S.hb0 p k hp hk]
      rfl
    have := even 0 a1 a2
    exact ⟨a1, this.1, a2, this.2⟩
  | succ n ih =>
    obtain ⟨i1, i2, i3, i4⟩ := ih
    have a1 : ∀ p, B p → V rw' b' t' (2 * (n + 1)) p = (V rw b t (n + 1) p).map dbl := fun p hp => by
      show V rw' b' t' (2 * n + 1 + 1) p = _
      rw [V_succ (2 * n + 1), V_succ n, i2 p hp]
      cases hv : V rw b t n p with
      | some v => rfl
      | none =>
        rw [Option.map_none, Option.none_or, Option.none_or, S.row p hp]
        rw [findIdx_range (rw p) (fun k => [at_ p k]) _ (t (G rw b t n)) fun k hk => by
          rw [S.t1 _ p k hp hk]
          unfold G
          rw [i4 p k hp hk, Option.isSome_map]
          exact En_isSome (u := fun m => t (G rw b t m) (rw p)[k]) (fun n => S.tm n p k hp hk) n]
        rw [Option.map_map]
        rfl
    have a2 : ∀ p k, B p → (h : k < (rw p).length) → V rw' b' t' (2 * (n + 1)) (at_ p k) = (En (fun m => t (G rw b t m) (rw p)[k]) (n + 1)).map fun m => (2 * m + 1, some 0) := fun p k hp hk => by
      show V rw' b' t' (2 * n + 1 + 1) (at_ p k) = _
      rw [V_succ (2 * n + 1), i4 p k hp hk, S.one p k hp hk]
      have e := S.t2 n (2 * n + 1) p k hp hk fun e he => by unfold G; rw [i2 e (S.ends p k hp hk e he), Option.isSome_map]
      rw [List.findIdx?_cons, e, List.findIdx?_nil]
      have e2 := En_isSome (u := fun m => t (G rw b t m) (rw p)[k]) (fun n => S.tm n p k hp hk) n
      cases h : En (fun m => t (G rw b t m) (rw p)[k]) (n + 1) with
      | some v => simp
      | none =>
        rw [h] at e2
        have e3 : t (G rw b t n) (rw p)[k] = false := e2.symm
        rw [e3]
        rfl
    have := even (n + 1) a1 a2
    exact ⟨a1, this.1, a2, this.2⟩
end
end K42

/-! W1: ways, level by level. -/
namespace K42
open Nz
abbrev Way := List (Int × Int)
abbrev Lv := List (Int × Way)
def kids (rw : Rows) (x : Int × Way) : Lv := (enumZ (rw x.1)).flatMap fun ke => ke.2.map fun o => (o, x.2 ++ [(x.1, ke.1)])
def cands (rw : Rows) (l : Lv) : Lv := l.flatMap (kids rw)
def add (s : List Int × Lv) (c : Int × Way) : List Int × Lv := if c.1 ∈ s.1 then s else (s.1 ++ [c.1], s.2 ++ [c])
def nxt (rw : Rows) (s : List Int × Lv) : List Int × Lv := (cands rw s.2).foldl add (s.1, [])
def lv (rw : Rows) (start : Int) : Nat → List Int × Lv
  | 0 => ([start], [(start, [])])
  | n + 1 => nxt rw (lv rw start n)
theorem mem_enum {α : Type} {xs : List α} {k : Int} {e : α} : (k, e) ∈ enumZ xs ↔ ∃ i : Nat, k = i ∧ xs[i]? = some e := by
  unfold enumZ
  constructor
  · intro h
    obtain ⟨⟨i, a⟩, h1, h2⟩ := List.mem_map.mp h
    cases h2
    obtain ⟨j, hj, h3⟩ := List.mem_iff_getElem.mp h1
    rw [List.getElem_zip] at h3
    cases h3
    simp only [List.length_zip, List.length_range] at hj
    refine ⟨j, by simp, ?_⟩
    rw [List.getElem?_eq_getElem]
  · rintro ⟨i, rfl, h⟩
    obtain ⟨h1, h2⟩ := List.getElem?_eq_some_iff.mp h
    refine List.mem_map.mpr ⟨(i, e), ?_, rfl⟩
    rw [List.mem_iff_getElem]
    exact ⟨i, by simpa using h1, by simp [List.getElem_zip, h2]⟩
theorem mem_kids {rw : Rows} {x c : Int × Way} : c ∈ kids rw x ↔ ∃ (i : Nat) (e : List Int), (rw x.1)[i]? = some e ∧ c.1 ∈ e ∧ c.2 = x.2 ++ [(x.1, (i : Int))] := by
  unfold kids
  rw [List.mem_flatMap]
  constructor
  · rintro ⟨⟨k, e⟩, h1, h2⟩
    obtain ⟨i, rfl, h3⟩ := mem_enum.mp h1
    obtain ⟨o, ho, rfl⟩ := List.mem_map.mp h2
    exact ⟨i, e, h3, ho, rfl⟩
  · rintro ⟨i, e, h3, ho, h⟩
    refine ⟨(i, e), mem_enum.mpr ⟨i, rfl, h3⟩, List.mem_map.mpr ⟨c.1, ho, ?_⟩⟩
    rw [← h]
theorem mem_cands {rw : Rows} {l : Lv} {c : Int × Way} : c ∈ cands rw l ↔ ∃ x ∈ l, ∃ (i : Nat) (e : List Int), (rw x.1)[i]? = some e ∧ c.1 ∈ e ∧ c.2 = x.2 ++ [(x.1, (i : Int))] := by
  unfold cands
  rw [List.mem_flatMap]
  simp only [mem_kids]
/-! #### what adding keeps -/
theorem adds_sub {cs : Lv} : ∀ {s : List Int × Lv}, ∃ l : Lv, l.Sublist cs ∧ (cs.foldl add s).2 = s.2 ++ l ∧ (cs.foldl add s).1 = s.1 ++ l.map (·.1) ∧ (∀ c ∈ l, c.1 ∉ s.1) ∧ (l.map (·.1)).Nodup ∧ ∀ c ∈ cs, c.1 ∈ s.1 ∨ c.1 ∈ l.map (·.1) := by
  induction cs with
  | nil => intro s; exact ⟨[], List.Sublist.refl _, by simp, by simp, by simp, by simp, by simp⟩
  | cons c cs ih =>
    intro s
    rw [List.foldl_cons]
    by_cases h : c.1 ∈ s.1
    · have e : add s c = s := if_pos h
      rw [e]
      obtain ⟨l, a1, a2, a3, a4, a5, a6⟩ := ih (s := s)
      refine ⟨l, a1.cons _, a2, a3, a4, a5, fun x hx => ?_⟩
      rcases List.mem_cons.mp hx with rfl | hx
      · exact .inl h
      · exact a6 x hx
    · have e : add s c = (s.1 ++ [c.1], s.2 ++ [c]) := if_neg h
      rw [e]
      obtain ⟨l, a1, a2, a3, a4, a5, a6⟩ := ih (s := (s.1 ++ [c.1], s.2 ++ [c]))
      refine ⟨c :: l, a1.cons_cons _, by rw [a2]; simp, by rw [a3]; simp, fun x hx => ?_, ?_, fun x hx => ?_⟩
      · rcases List.mem_cons.mp hx with rfl | hx
        · exact h
        · intro q
          exact a4 x hx (List.mem_append_left _ q)
      · rw [List.map_cons, List.nodup_cons]
        refine ⟨fun q => ?_, a5⟩
        obtain ⟨y, hy, e⟩ := List.mem_map.mp q
        exact a4 y hy (by rw [e]; simp)
      · rcases List.mem_cons.mp hx with rfl | hx
        · exact .inr (by simp)
        · rcases a6 x hx with q | q
          · rcases List.mem_append.mp q with q | q
            · exact .inl q
            · simp at q; exact .inr (by simp [q])
          · exact .inr (by rw [List.map_cons]; exact List.mem_cons_of_mem _ q)
/-! #### order -/
def ltP (a b : Int × Int) : Prop := a.1 < b.1 ∨ a.1 = b.1 ∧ a.2 < b.2
def ltW (a b : Way) : Prop := ∃ pre x y s s', a = pre ++ x :: s ∧ b = pre ++ y :: s' ∧ ltP x y
def ltL (x y : Int × Way) : Prop := ltW x.2 y.2 ∨ x.2 = y.2 ∧ x.1 < y.1
theorem ltW.app {a b : Way} (h : ltW a b) (c d : Way) : ltW (a ++ c) (b ++ d) := by
  obtain ⟨pre, x, y, s, s', rfl, rfl, q⟩ := h
  exact ⟨pre, x, y, s ++ c, s' ++ d, by simp, by simp, q⟩
def RowsOk (rw : Rows) : Prop := ∀ p, ∀ e ∈ rw p, e.Pairwise (· < ·)
theorem enumZ_pw {α : Type} (xs : List α) : (enumZ xs).Pairwise fun a b => a.1 < b.1 := by
  unfold enumZ
  rw [List.pairwise_map, List.pairwise_iff_getElem]
  intro i j hi hj h
  simp only [List.getElem_zip, List.getElem_range]
  omega
theorem kids_pw {rw : Rows} (ok : RowsOk rw) (x : Int × Way) : (kids rw x).Pairwise ltL := by
  unfold kids
  rw [List.pairwise_flatMap]
  constructor
  · intro ke hk
    obtain ⟨i, _, h⟩ := mem_enum.mp (show (ke.1, ke.2) ∈ _ from hk)
    rw [List.pairwise_map]
    exact (ok x.1 ke.2 (List.mem_of_getElem? h)).imp fun q => .inr ⟨rfl, q⟩
  · refine (enumZ_pw _).imp ?_
    intro a b hab c hc d hd
    obtain ⟨o, _, rfl⟩ := List.mem_map.mp hc
    obtain ⟨o', _, rfl⟩ := List.mem_map.mp hd
    exact .inl ⟨x.2, (x.1, a.1), (x.1, b.1), [], [], rfl, rfl, .inr ⟨rfl, hab⟩⟩
theorem cands_pw {rw : Rows} (ok : RowsOk rw) {l : Lv} (h : l.Pairwise ltL) : (cands rw l).Pairwise ltL := by
  unfold cands
  rw [List.pairwise_flatMap]
  refine ⟨fun x _ => kids_pw ok x, h.imp ?_⟩
  intro x y hxy c hc d hd
  obtain ⟨i, e, _, _, h1⟩ := mem_kids.mp hc
  obtain ⟨j, e', _, _, h2⟩ := mem_kids.mp hd
  left
  rw [h1, h2]
  rcases hxy with q | ⟨q1, q2⟩
  · exact q.app _ _
  · rw [q1]
    exact ⟨y.2, (x.1, i), (y.1, j), [], [], rfl, rfl, .inl q2⟩
structure LvOk (n : Nat) (s : List Int × Lv) : Prop where
  len : ∀ x ∈ s.2, x.2.length = n
  pw : s.2.Pairwise ltL
  nd : s.1.Nodup
  sub : ∀ x ∈ s.2, x.1 ∈ s.1
theorem LvOk.nxt {rw : Rows} (ok : RowsOk rw) {n : Nat} {s : List Int × Lv} (h : LvOk n s) : LvOk (n + 1) (nxt rw s) := by
  obtain ⟨l, a1, a2, a3, a4, a5, a6⟩ := adds_sub (cs := cands rw s.2) (s := (s.1, []))
  rw [show K42.nxt rw s = (cands rw s.2).foldl add (s.1, []) from rfl]
  rw [List.nil_append] at a2
  refine ⟨fun x hx => ?_, ?_, ?_, fun x hx => ?_⟩
  · rw [a2] at hx
    obtain ⟨y, hy, i, e, _, _, q⟩ := mem_cands.mp (a1.subset hx)
    rw [q, List.length_append, h.len y hy]; rfl
  · rw [a2]
    exact (cands_pw ok h.pw).sublist a1
  · rw [a3, List.nodup_append]
    refine ⟨h.nd, a5, fun a ha b hb e => ?_⟩
    obtain ⟨c, hc, e2⟩ := List.mem_map.mp hb
    exact a4 c hc (by rw [e2, ← e]; exact ha)
  · rw [a2] at hx
    rw [a3]
    exact List.mem_append_right _ (List.mem_map_of_mem hx)
theorem lv_ok {rw : Rows} (ok : RowsOk rw) (start : Int) : ∀ n, LvOk n (lv rw start n)
  | 0 => ⟨by simp [lv], by simp [lv], by simp [lv], by simp [lv]⟩
  | n + 1 => (lv_ok ok start n).nxt ok
/-! #### ways and rounds -/
def Path (rw : Rows) : Nat → Int → Int → Prop
  | 0, a, b => a = b
  | n + 1, a, b => ∃ e ∈ rw a, ∃ c ∈ e, Path rw n c b
theorem Path.snoc {rw : Rows} : ∀ {n : Nat} {a b c : Int}, Path rw n a b → (∃ e ∈ rw b, c ∈ e) → Path rw (n + 1) a c
  | 0, a, b, c, h, ⟨e, he, hc⟩ => by
    have h : a = b := h
    subst h
    exact ⟨e, he, c, hc, rfl⟩
  | n + 1, a, b, c, ⟨e, he, d, hd, h⟩, q => ⟨e, he, d, hd, Path.snoc h q⟩
theorem Path.last {rw : Rows} : ∀ {n : Nat} {a c : Int}, Path rw (n + 1) a c → ∃ b, Path rw n a b ∧ ∃ e ∈ rw b, c ∈ e
  | 0, a, c, ⟨e, he, d, hd, h⟩ => ⟨a, rfl, e, he, by have h : d = c := h; rw [← h]; exact hd⟩
  | n + 1, a, c, ⟨e, he, d, hd, h⟩ => by
    obtain ⟨b, hb, q⟩ := Path.last h
    exact ⟨b, ⟨e, he, d, hd, hb⟩, q⟩
abbrev anyT : Tst := fun L e => e.any L
theorem G_path {rw : Rows} {b : Int → Bool} : ∀ n a, G rw b anyT n a = true ↔ ∃ j, j ≤ n ∧ ∃ c, b c = true ∧ Path rw j a c
  | 0, a => by
    rw [G_zero]
    constructor
    · intro h; exact ⟨0, Nat.le_refl _, a, h, rfl⟩
    · rintro ⟨j, hj, c, hc, hp⟩
      have : j = 0 := by omega
      subst this
      have hp : a = c := hp
      rw [hp]; exact hc
  | n + 1, a => by
    rw [G_succ, Bool.or_eq_true, G_path n a, List.any_eq_true]
    constructor
    · rintro (⟨j, hj, q⟩ | ⟨e, he, h⟩)
      · exact ⟨j, by omega, q⟩
      · obtain ⟨d, hd, h⟩ := List.any_eq_true.mp h
        obtain ⟨j, hj, c, hc, hp⟩ := (G_path n d).mp h
        exact ⟨j + 1, by omega, c, hc, e, he, d, hd, hp⟩
    · rintro ⟨j, hj, c, hc, hp⟩
      cases j with
      | zero => exact .inl ⟨0, by omega, c, hc, hp⟩
      | succ j =>
        obtain ⟨e, he, d, hd, hp⟩ := hp
        exact .inr ⟨e, he, List.any_eq_true.mpr ⟨d, hd, (G_path n d).mpr ⟨j, by omega, c, hc, hp⟩⟩⟩
theorem lv_path {rw : Rows} {start : Int} : ∀ n, ∀ x ∈ (lv rw start n).2, Path rw n start x.1
  | 0, x, h => by
    simp [lv] at h
    subst h
    rfl
  | n + 1, x, h => by
    obtain ⟨l, a1, a2, _⟩ := adds_sub (cs := cands rw (lv rw start n).2) (s := ((lv rw start n).1, []))
    have h : x ∈ ((cands rw (lv rw start n).2).foldl add ((lv rw start n).1, [])).2 := h
    rw [a2, List.nil_append] at h
    obtain ⟨y, hy, i, e, he, hx, _⟩ := mem_cands.mp (a1.subset h)
    exact (lv_path n y hy).snoc ⟨e, List.mem_of_getElem? he, hx⟩
theorem lv_seen_step {rw : Rows} {start : Int} (n : Nat) : (∀ q ∈ (lv rw start n).1, q ∈ (lv rw start (n + 1)).1) ∧ (∀ x ∈ (lv rw start n).2, ∀ e ∈ rw x.1, ∀ c ∈ e, c ∈ (lv rw start (n + 1)).1) ∧ (∀ q ∈ (lv rw start (n + 1)).1, q ∈ (lv rw start n).1 ∨ ∃ x ∈ (lv rw start (n + 1)).2, x.1 = q) := by
  obtain ⟨l, a1, a2, a3, a4, a5, a6⟩ := adds_sub (cs := cands rw (lv rw start n).2) (s := ((lv rw start n).1, []))
  rw [show lv rw start (n + 1) = (cands rw (lv rw start n).2).foldl add ((lv rw start n).1, []) from rfl, a2, a3]
  refine ⟨fun q hq => List.mem_append_left _ hq, fun x hx e he c hc => ?_, fun q hq => ?_⟩
  · obtain ⟨i, hi, e2⟩ := List.mem_iff_getElem.mp he
    have := a6 (c, x.2 ++ [(x.1, (i : Int))]) (mem_cands.mpr ⟨x, hx, i, e, by rw [List.getElem?_eq_getElem hi, e2], hc, rfl⟩)
    exact List.mem_append.mpr this
  · rcases List.mem_append.mp hq with q | q
    · exact .inl q
    · obtain ⟨y, hy, e⟩ := List.mem_map.mp q
      exact .inr ⟨y, by simpa using hy, e⟩
theorem lv_level {rw : Rows} {start : Int} : ∀ n, ∀ q ∈ (lv rw start n).1, ∃ i, i ≤ n ∧ ∃ x ∈ (lv rw start i).2, x.1 = q
  | 0, q, h => by
    simp [lv] at h
    exact ⟨0, Nat.le_refl _, (start, []), by simp [lv], h.symm⟩
  | n + 1, q, h => by
    rcases (lv_seen_step n).2.2 q h with h | h
    · obtain ⟨i, hi, r⟩ := lv_level n q h
      exact ⟨i, by omega, r⟩
    · exact ⟨n + 1, Nat.le_refl _, h⟩
theorem lv_seen {rw : Rows} {start : Int} : ∀ n m q, m ≤ n → q ∈ (lv rw start m).1 → q ∈ (lv rw start n).1 := by
  intro n m q l h
  induction l with
  | refl => exact h
  | step _ ih => exact (lv_seen_step _).1 q ih
theorem path_seen {rw : Rows} {start : Int} : ∀ n q, Path rw n start q → q ∈ (lv rw start n).1
  | 0, q, h => by
    have h : start = q := h
    simp [lv, h]
  | n + 1, q, h => by
    obtain ⟨b, hb, e, he, hq⟩ := h.last
    obtain ⟨i, hi, x, hx, e2⟩ := lv_level n b (path_seen n b hb)
    subst e2
    exact lv_seen (n + 1) (i + 1) q (by omega) ((lv_seen_step i).2.1 x hx e he q hq)
theorem lv_empty {rw : Rows} {start : Int} {n : Nat} (h : (lv rw start n).2 = []) {m : Nat} (l : n ≤ m) : (lv rw start m).2 = [] := by
  induction l with
  | refl => exact h
  | step _ ih =>
    show (nxt rw _).2 = []
    unfold nxt
    rw [ih]
    rfl
/-- what weak_plan returns -/
def WkR (rw : Rows) (b : Int → Bool) (start : Int) (res : Option Way) : Prop :=
  ∃ n, (∀ m, m < n → (lv rw start m).2 ≠ [] ∧ ∀ x ∈ (lv rw start m).2, b x.1 = false) ∧ (((lv rw start n).2 = [] ∧ res = none) ∨ ∃ x, (lv rw start n).2.find? (fun x => b x.1) = some x ∧ res = some x.2)
theorem WkR.no {rw : Rows} {b : Int → Bool} {start : Int} (h : WkR rw b start none) : ∀ n, G rw b anyT n start = false := by
  obtain ⟨n, h1, h2⟩ := h
  intro m
  cases hg : G rw b anyT m start with
  | false => rfl
  | true =>
    obtain ⟨j, hj, c, hc, hp⟩ := (G_path m start).mp hg
    obtain ⟨i, hi, x, hx, e⟩ := lv_level j c (path_seen j c hp)
    rcases h2 with ⟨h2, _⟩ | ⟨_, _, h2⟩
    · by_cases q : i < n
      · have := (h1 i q).2 x hx
        rw [e, hc] at this; cases this
      · rw [lv_empty h2 (Nat.le_of_not_lt q)] at hx; cases hx
    · cases h2
theorem WkR.yes {rw : Rows} {b : Int → Bool} {start : Int} (ok : RowsOk rw) {w : Way} (h : WkR rw b start (some w)) : G rw b anyT w.length start = true ∧ ∀ m, m < w.length → G rw b anyT m start = false := by
  obtain ⟨n, h1, h2⟩ := h
  rcases h2 with ⟨_, h2⟩ | ⟨x, hf, h2⟩
  · cases h2
  · cases h2
    have hx := List.mem_of_find?_eq_some hf
    have hb := List.find?_some hf
    rw [(lv_ok ok start n).len x hx]
    refine ⟨(G_path n start).mpr ⟨n, Nat.le_refl _, x.1, hb, lv_path n x hx⟩, fun m hm => ?_⟩
    cases hg : G rw b anyT m start with
    | false => rfl
    | true =>
      obtain ⟨j, hj, c, hc, hp⟩ := (G_path m start).mp hg
      obtain ⟨i, hi, y, hy, e⟩ := lv_level j c (path_seen j c hp)
      have := (h1 i (by omega)).2 y hy
      rw [e, hc] at this; cases this
theorem WkR.rank {rw : Rows} {b : Int → Bool} {start : Int} (ok : RowsOk rw) {w : Way} (h : WkR rw b start (some w)) : ∃ k, V rw b anyT w.length start = some (w.length, k) := by
  obtain ⟨h1, h2⟩ := h.yes ok
  obtain ⟨r, k, e⟩ := V_of_G h1
  obtain ⟨a, c, d, _⟩ := V_rank e
  have : r = w.length := by
    apply Classical.byContradiction
    intro q
    have := h2 r (by omega)
    unfold G at this
    rw [c] at this
    cases this
  exact ⟨k, by rw [e, this]⟩
end K42

/-! W2: ways in two steps. -/
namespace K42
open Nz
theorem adds_all : ∀ (cs : Lv) (s : List Int × Lv), (cs.map (·.1)).Nodup → (∀ c ∈ cs, c.1 ∉ s.1) → cs.foldl add s = (s.1 ++ cs.map (·.1), s.2 ++ cs)
  | [], s, _, _ => by simp
  | c :: cs, s, nd, h => by
    rw [List.map_cons, List.nodup_cons] at nd
    have e : add s c = (s.1 ++ [c.1], s.2 ++ [c]) := if_neg (h c (by simp))
    rw [List.foldl_cons, e, adds_all cs _ nd.2 fun d hd q => ?_]
    · simp
    · rcases List.mem_append.mp q with q | q
      · exact h d (by simp [hd]) q
      · simp at q
        exact nd.1 (List.mem_map.mpr ⟨d, hd, q⟩)
def dway (at_ : Int → Nat → Int) (w : Way) : Way := w.flatMap fun pk => [pk, (at_ pk.1 pk.2.toNat, 0)]
def dw (at_ : Int → Nat → Int) (x : Int × Way) : Int × Way := (x.1, dway at_ x.2)
structure Two (rw rw' : Rows) (b b' : Int → Bool) (B : Int → Prop) (at_ : Int → Nat → Int) : Prop where
  hb : ∀ p, B p → b' p = b p
  hb0 : ∀ p k, B p → k < (rw p).length → b' (at_ p k) = false
  row : ∀ p, B p → rw' p = (List.range (rw p).length).map fun k => [at_ p k]
  one : ∀ p k, B p → (h : k < (rw p).length) → rw' (at_ p k) = [(rw p)[k]]
  ends : ∀ p k, B p → (h : k < (rw p).length) → ∀ e ∈ (rw p)[k], B e
  inj : ∀ p k p' k', B p → B p' → k < (rw p).length → k' < (rw p').length → at_ p k = at_ p' k' → p = p' ∧ k = k'
  out : ∀ p k, B p → k < (rw p).length → ¬ B (at_ p k)
section
variable {rw rw' : Rows} {b b' : Int → Bool} {B : Int → Prop} {at_ : Int → Nat → Int}
def mids (rw : Rows) (at_ : Int → Nat → Int) (x : Int × Way) : Lv := (List.range (rw x.1).length).map fun k => (at_ x.1 k, dway at_ x.2 ++ [(x.1, (k : Int))])
theorem enumZ_map {α β : Type} (f : α → β) (xs : List α) : enumZ (xs.map f) = (enumZ xs).map fun p => (p.1, f p.2) := by
  unfold enumZ
  rw [List.length_map, List.zip_map_right, List.map_map, List.map_map]
  rfl
theorem enumZ_range (n : Nat) : enumZ (List.range n) = (List.range n).map fun (k : Nat) => ((k : Int), k) := by
  unfold enumZ
  rw [List.length_range]
  apply List.ext_getElem
  · simp
  · intro i h1 h2
    simp
theorem kids1 (T : Two rw rw' b b' B at_) (x : Int × Way) (hx : B x.1) : kids rw' (dw at_ x) = mids rw at_ x := by
  unfold kids mids
  show ((enumZ (rw' x.1)).flatMap _) = _
  rw [T.row x.1 hx, enumZ_map, enumZ_range, List.map_map, List.flatMap_map, List.map_eq_flatMap]
  rfl
theorem dway_snoc (w : Way) (p : Int) (k : Nat) : dway at_ (w ++ [(p, (k : Int))]) = dway at_ w ++ [(p, (k : Int))] ++ [(at_ p k, 0)] := by
  unfold dway
  rw [List.flatMap_append]
  simp
theorem enumZ_eq {α : Type} (xs : List α) : enumZ xs = (List.range xs.length).attach.map fun k => ((k.1 : Int), xs[k.1]'(List.mem_range.mp k.2)) := by
  unfold enumZ
  apply List.ext_getElem
  · simp
  · intro i h1 h2
    simp
theorem kids2 (T : Two rw rw' b b' B at_) (x : Int × Way) (hx : B x.1) : (mids rw at_ x).flatMap (kids rw') = (kids rw x).map (dw at_) := by
  unfold mids
  rw [List.flatMap_map]
  unfold kids
  rw [List.map_flatMap, enumZ_eq (rw x.1), List.flatMap_map]
  rw [show (List.range (rw x.1).length).flatMap _ = ((List.range (rw x.1).length).attach.map (·.1)).flatMap _ from by rw [List.attach_map_subtype_val], List.flatMap_map]
  congr 1
  funext k
  have hk := List.mem_range.mp k.2
  show (enumZ (rw' (at_ x.1 k.1))).flatMap _ = _
  rw [T.one x.1 k.1 hx hk]
  show List.flatMap _ [((0 : Int), _)] = _
  rw [List.flatMap_cons, List.flatMap_nil, List.append_nil, List.map_map]
  apply List.map_congr_left
  intro o _
  show (o, _) = (o, dway at_ (x.2 ++ [(x.1, (k.1 : Int))]))
  rw [dway_snoc]
theorem adds_two {cs : Lv} : ∀ {s s' : List Int × Lv}, (∀ c ∈ cs, B c.1) → (∀ q, B q → (q ∈ s'.1 ↔ q ∈ s.1)) → s'.2 = s.2.map (dw at_) →
    (∀ q, B q → (q ∈ ((cs.map (dw at_)).foldl add s').1 ↔ q ∈ (cs.foldl add s).1)) ∧ ((cs.map (dw at_)).foldl add s').2 = (cs.foldl add s).2.map (dw at_) ∧ (∀ q, ¬ B q → q ∈ ((cs.map (dw at_)).foldl add s').1 → q ∈ s'.1) := by
  induction cs with
  | nil => intro s s' _ h1 h2; exact ⟨h1, h2, fun _ _ h => h⟩
  | cons c cs ih =>
    intro s s' hB h1 h2
    have hc := hB c (by simp)
    rw [List.map_cons, List.foldl_cons, List.foldl_cons]
    by_cases q : c.1 ∈ s.1
    · have e : add s c = s := if_pos q
      have e' : add s' (dw at_ c) = s' := if_pos ((h1 c.1 hc).mpr q)
      rw [e, e']
      exact ih (fun d hd => hB d (by simp [hd])) h1 h2
    · have e : add s c = (s.1 ++ [c.1], s.2 ++ [c]) := if_neg q
      have e' : add s' (dw at_ c) = (s'.1 ++ [c.1], s'.2 ++ [dw at_ c]) := if_neg fun z => q ((h1 c.1 hc).mp z)
      rw [e, e']
      obtain ⟨a1, a2, a3⟩ := ih (s := (s.1 ++ [c.1], s.2 ++ [c])) (s' := (s'.1 ++ [c.1], s'.2 ++ [dw at_ c])) (fun d hd => hB d (by simp [hd])) (fun q hq => by rw [List.mem_append, List.mem_append, h1 q hq]) (by simp [h2])
      refine ⟨a1, a2, fun z hz hm => ?_⟩
      rcases List.mem_append.mp (a3 z hz hm) with h | h
      · exact h
      · simp at h
        subst h
        exact (hz hc).elim
structure Even (rw : Rows) (B : Int → Prop) (at_ : Int → Nat → Int) (s s' : List Int × Lv) : Prop where
  lev : s'.2 = s.2.map (dw at_)
  seen : ∀ q, B q → (q ∈ s'.1 ↔ q ∈ s.1)
  inB : ∀ x ∈ s.2, B x.1
  old : ∀ p k, B p → k < (rw p).length → at_ p k ∈ s'.1 → p ∈ s.1 ∧ ∀ x ∈ s.2, x.1 ≠ p
theorem Even.mid (T : Two rw rw' b b' B at_) {s s' : List Int × Lv} (E : Even rw B at_ s s') (nd : (s.2.map (·.1)).Nodup) : nxt rw' s' = (s'.1 ++ (s.2.flatMap (mids rw at_)).map (·.1), s.2.flatMap (mids rw at_)) := by
  have e : cands rw' s'.2 = s.2.flatMap (mids rw at_) := by
    unfold cands
    rw [E.lev, List.flatMap_map]
    have : ∀ l : Lv, (∀ x ∈ l, B x.1) → l.flatMap (fun x => kids rw' (dw at_ x)) = l.flatMap (mids rw at_) := by
      intro l
      induction l with
      | nil => intro _; rfl
      | cons x l ih => intro h; rw [List.flatMap_cons, List.flatMap_cons, kids1 T x (h x (by simp)), ih fun y hy => h y (by simp [hy])]
    exact this s.2 E.inB
  unfold nxt
  rw [e, adds_all]
  · simp
  · rw [List.map_flatMap]
    unfold List.Nodup
    rw [List.pairwise_flatMap]
    constructor
    · intro x hx
      unfold mids
      rw [List.map_map, List.pairwise_map]
      have : (List.range (rw x.1).length).Pairwise fun a b => a ∈ List.range (rw x.1).length ∧ b ∈ List.range (rw x.1).length ∧ a ≠ b := by
        rw [List.pairwise_iff_getElem]
        intro i j hi hj h
        simp only [List.length_range] at hi hj
        simp only [List.getElem_range, List.mem_range]
        omega
      refine this.imp ?_
      rintro a c ⟨ha, hc, hn⟩ e
      exact hn (T.inj x.1 a x.1 c (E.inB x hx) (E.inB x hx) (List.mem_range.mp ha) (List.mem_range.mp hc) e).2
    · have nd : s.2.Pairwise fun x y => x ∈ s.2 ∧ y ∈ s.2 ∧ x.1 ≠ y.1 := by
        unfold List.Nodup at nd
        rw [List.pairwise_map] at nd
        rw [List.pairwise_iff_getElem] at nd ⊢
        intro i j hi hj h
        exact ⟨List.getElem_mem _, List.getElem_mem _, nd i j hi hj h⟩
      refine nd.imp ?_
      rintro x y ⟨hx, hy, hn⟩ a ha c hc e
      obtain ⟨u, hu, rfl⟩ := List.mem_map.mp ha
      obtain ⟨v, hv, rfl⟩ := List.mem_map.mp hc
      obtain ⟨k, hk, rfl⟩ := List.mem_map.mp hu
      obtain ⟨j, hj, rfl⟩ := List.mem_map.mp hv
      exact hn (T.inj x.1 k y.1 j (E.inB x hx) (E.inB y hy) (List.mem_range.mp hk) (List.mem_range.mp hj) e).1
  · intro c hc q
    obtain ⟨x, hx, h⟩ := List.mem_flatMap.mp hc
    obtain ⟨k, hk, rfl⟩ := List.mem_map.mp h
    exact (E.old x.1 k (E.inB x hx) (List.mem_range.mp hk) q).2 x hx rfl
theorem Even.step (T : Two rw rw' b b' B at_) {s s' : List Int × Lv} (E : Even rw B at_ s s') (nd : (s.2.map (·.1)).Nodup) (sub : ∀ x ∈ s.2, x.1 ∈ s.1) : Even rw B at_ (nxt rw s) (nxt rw' (nxt rw' s')) := by
  have m := E.mid T nd
  have e : cands rw' (s.2.flatMap (mids rw at_)) = (cands rw s.2).map (dw at_) := by
    unfold cands
    rw [List.flatMap_assoc, List.map_flatMap]
    have : ∀ l : Lv, (∀ x ∈ l, B x.1) → l.flatMap (fun x => (mids rw at_ x).flatMap (kids rw')) = l.flatMap (fun x => (kids rw x).map (dw at_)) := by
      intro l
      induction l with
      | nil => intro _; rfl
      | cons x l ih => intro h; rw [List.flatMap_cons, List.flatMap_cons, kids2 T x (h x (by simp)), ih fun y hy => h y (by simp [hy])]
    exact this s.2 E.inB
  have hcB : ∀ c ∈ cands rw s.2, B c.1 := by
    intro c hc
    obtain ⟨x, hx, i, e, he, hm, _⟩ := mem_cands.mp hc
    obtain ⟨hi, e2⟩ := List.getElem?_eq_some_iff.mp he
    subst e2
    exact T.ends x.1 i (E.inB x hx) hi c.1 hm
  have hmid : ∀ q, q ∈ (s.2.flatMap (mids rw at_)).map (·.1) → ∃ x ∈ s.2, ∃ k, k < (rw x.1).length ∧ q = at_ x.1 k := by
    intro q hq
    obtain ⟨c, hc, rfl⟩ := List.mem_map.mp hq
    obtain ⟨x, hx, h⟩ := List.mem_flatMap.mp hc
    obtain ⟨k, hk, rfl⟩ := List.mem_map.mp h
    exact ⟨x, hx, k, List.mem_range.mp hk, rfl⟩
  obtain ⟨a1, a2, a3⟩ := adds_two (B := B) (at_ := at_) (cs := cands rw s.2) (s := (s.1, [])) (s' := (s'.1 ++ (s.2.flatMap (mids rw at_)).map (·.1), [])) hcB (fun q hq => by
    rw [List.mem_append]
    constructor
    · rintro (h | h)
      · exact (E.seen q hq).mp h
      · obtain ⟨x, hx, k, hk, rfl⟩ := hmid q h
        exact (T.out x.1 k (E.inB x hx) hk hq).elim
    · intro h; exact .inl ((E.seen q hq).mpr h)) rfl
  rw [m]
  unfold nxt
  rw [e]
  obtain ⟨l, b1, b2, b3, b4, _⟩ := adds_sub (cs := cands rw s.2) (s := (s.1, []))
  refine ⟨a2, a1, fun x hx => ?_, fun p k hp hk h => ?_⟩
  · rw [b2, List.nil_append] at hx
    exact hcB x (b1.subset hx)
  · have h := a3 (at_ p k) (T.out p k hp hk) h
    have hp1 : p ∈ s.1 := by
      rcases List.mem_append.mp h with h | h
      · exact (E.old p k hp hk h).1
      · obtain ⟨x, hx, j, hj, e⟩ := hmid _ h
        have := (T.inj p k x.1 j hp (E.inB x hx) hk hj e).1
        rw [this]
        exact sub x hx
    refine ⟨by rw [b3]; exact List.mem_append_left _ hp1, fun x hx e => ?_⟩
    rw [b2, List.nil_append] at hx
    exact b4 x hx (by rw [e]; exact hp1)
theorem lv_nd {rw : Rows} (start : Int) : ∀ n, ((lv rw start n).2.map (·.1)).Nodup
  | 0 => by simp [lv]
  | n + 1 => by
    obtain ⟨l, b1, b2, b3, b4, b5, _⟩ := adds_sub (cs := cands rw (lv rw start n).2) (s := ((lv rw start n).1, []))
    rw [show lv rw start (n + 1) = (cands rw (lv rw start n).2).foldl add ((lv rw start n).1, []) from rfl, b2]
    exact b5
theorem lv_sub {rw : Rows} (start : Int) : ∀ n, ∀ x ∈ (lv rw start n).2, x.1 ∈ (lv rw start n).1
  | 0 => by simp [lv]
  | n + 1 => by
    obtain ⟨l, b1, b2, b3, b4, b5, _⟩ := adds_sub (cs := cands rw (lv rw start n).2) (s := ((lv rw start n).1, []))
    rw [show lv rw start (n + 1) = (cands rw (lv rw start n).2).foldl add ((lv rw start n).1, []) from rfl, b2, b3]
    intro x hx
    exact List.mem_append_right _ (List.mem_map_of_mem (by simpa using hx))
theorem lv_two (T : Two rw rw' b b' B at_) {start : Int} (hs : B start) : ∀ n, Even rw B at_ (lv rw start n) (lv rw' start (2 * n))
  | 0 => ⟨rfl, fun q hq => Iff.rfl, by simp [lv, hs], fun p k hp hk h => by
    simp [lv] at h
    exact (T.out p k hp hk (by rw [h]; exact hs)).elim⟩
  | n + 1 => (lv_two T hs n).step T (lv_nd start n) (lv_sub start n)
theorem lv_mid (T : Two rw rw' b b' B at_) {start : Int} (hs : B start) (n : Nat) : (lv rw' start (2 * n + 1)).2 = (lv rw start n).2.flatMap (mids rw at_) := by
  have := (lv_two T hs n).mid T (lv_nd start n)
  show (nxt rw' (lv rw' start (2 * n))).2 = _
  rw [this]
theorem wk_uniq {start : Int} {r r' : Option Way} (h : WkR rw b start r) (h' : WkR rw b start r') : r = r' := by
  obtain ⟨n, h1, h2⟩ := h
  obtain ⟨m, g1, g2⟩ := h'
  have stop : ∀ {n} {r : Option Way}, (((lv rw start n).2 = [] ∧ r = none) ∨ ∃ x, (lv rw start n).2.find? (fun x => b x.1) = some x ∧ r = some x.2) → ¬ ((lv rw start n).2 ≠ [] ∧ ∀ x ∈ (lv rw start n).2, b x.1 = false) := by
    rintro n r (⟨a, _⟩ | ⟨x, a, _⟩) ⟨q1, q2⟩
    · exact q1 a
    · have h3 := q2 x (List.mem_of_find?_eq_some a)
      have h4 := List.find?_some a
      rw [h3] at h4
      cases h4
  have e : n = m := by
    apply Classical.byContradiction
    intro q
    rcases Nat.lt_or_gt_of_ne q with q | q
    · exact stop h2 (g1 n q)
    · exact stop g2 (h1 m q)
  subst e
  rcases h2 with ⟨a, e⟩ | ⟨x, a, e⟩ <;> rcases g2 with ⟨a', e'⟩ | ⟨x', a', e'⟩
  · rw [e, e']
  · rw [a] at a'; cases a'
  · rw [a'] at a; cases a
  · rw [a] at a'; cases a'; rw [e, e']
theorem wk_two (T : Two rw rw' b b' B at_) {start : Int} (hs : B start) {r : Option Way} (h : WkR rw b start r) : WkR rw' b' start (r.map (dway at_)) := by
  obtain ⟨n, h1, h2⟩ := h
  have ev : ∀ m, m < n → (lv rw' start (2 * m)).2 ≠ [] ∧ ∀ x ∈ (lv rw' start (2 * m)).2, b' x.1 = false := by
    intro m hm
    have E := lv_two T hs m
    rw [E.lev]
    refine ⟨fun q => (h1 m hm).1 (List.map_eq_nil_iff.mp q), fun x hx => ?_⟩
    obtain ⟨y, hy, rfl⟩ := List.mem_map.mp hx
    show b' y.1 = false
    rw [T.hb y.1 (E.inB y hy), (h1 m hm).2 y hy]
  have od : ∀ m, ∀ x ∈ (lv rw' start (2 * m + 1)).2, b' x.1 = false := by
    intro m x hx
    rw [lv_mid T hs] at hx
    obtain ⟨y, hy, h⟩ := List.mem_flatMap.mp hx
    obtain ⟨k, hk, rfl⟩ := List.mem_map.mp h
    exact T.hb0 y.1 k ((lv_two T hs m).inB y hy) (List.mem_range.mp hk)
  have odn : ∀ m, (lv rw start (m + 1)).2 ≠ [] → (lv rw' start (2 * m + 1)).2 ≠ [] := by
    intro m hm q
    have E := lv_two T hs (m + 1)
    have : (lv rw' start (2 * (m + 1))).2 = [] := lv_empty q (by omega)
    rw [E.lev] at this
    exact hm (List.map_eq_nil_iff.mp this)
  have below : ∀ j, j < 2 * n → j + 1 < 2 * n ∨ (lv rw' start (2 * (n - 1) + 1)).2 ≠ [] → (lv rw' start j).2 ≠ [] ∧ ∀ x ∈ (lv rw' start j).2, b' x.1 = false := by
    intro j hj hq
    rcases Nat.mod_two_eq_zero_or_one j with e | e
    · have : j = 2 * (j / 2) := by omega
      rw [this]
      exact ev (j / 2) (by omega)
    · have hj2 : j = 2 * (j / 2) + 1 := by omega
      rw [hj2]
      refine ⟨?_, od _⟩
      rcases hq with hq | hq
      · exact odn _ (h1 (j / 2 + 1) (by omega)).1
      · by_cases z : j / 2 + 1 = n
        · have : j / 2 = n - 1 := by omega
          rw [this]; exact hq
        · exact odn _ (h1 (j / 2 + 1) (by omega)).1
  rcases h2 with ⟨a, e⟩ | ⟨x, a, e⟩
  · subst e
    cases n with
    | zero => simp [lv] at a
    | succ n =>
      by_cases z : (lv rw' start (2 * n + 1)).2 = []
      · exact ⟨2 * n + 1, fun j hj => below j (by omega) (.inl (by omega)), .inl ⟨z, rfl⟩⟩
      · exact ⟨2 * (n + 1), fun j hj => below j hj (.inr z), .inl ⟨by rw [(lv_two T hs (n + 1)).lev, a]; rfl, rfl⟩⟩
  · subst e
    have E := lv_two T hs n
    refine ⟨2 * n, fun j hj => below j hj (.inr ?_), .inr ⟨dw at_ x, ?_, rfl⟩⟩
    · cases n with
      | zero => omega
      | succ n =>
        exact odn n fun q => by rw [q] at a; cases a
    · rw [E.lev, List.find?_map]
      have : ((lv rw start n).2.find? ((fun x => b' x.1) ∘ dw at_)) = (lv rw start n).2.find? fun x => b x.1 := by
        have : ∀ l : Lv, (∀ x ∈ l, B x.1) → l.find? ((fun x => b' x.1) ∘ dw at_) = l.find? fun x => b x.1 := by
          intro l
          induction l with
          | nil => intro _; rfl
          | cons y l ih =>
            intro h
            rw [List.find?_cons, List.find?_cons, ih fun z hz => h z (by simp [hz])]
            show (match b' y.1 with | true => _ | false => _) = _
            rw [T.hb y.1 (h y (by simp))]
            cases b y.1 <;> rfl
        exact this _ E.inB
      rw [this, a]
      rfl
end
end K42

/-! V3: strong and cyclic tests. -/
namespace K42
abbrev sT : Tst := fun L e => e.all L
def cT (S : Int → Bool) : Tst := fun L e => e.all S && e.any L
structure Sys (rw : Rows) (b : Int → Bool) (I : Int → Prop) : Prop where
  bI : ∀ p, b p = true → I p
  rI : ∀ p, rw p ≠ [] → I p
  ne : ∀ p, ∀ e ∈ rw p, e ≠ []
  eI : ∀ p, ∀ e ∈ rw p, ∀ q ∈ e, I q
def Closed (rw : Rows) (b : Int → Bool) (I : Int → Prop) (T : Int → Bool) : Prop := ∀ p, T p = true → I p ∧ ∃ n, G rw b (cT T) n p = true
structure Great (rw : Rows) (b : Int → Bool) (I : Int → Prop) (S : Int → Bool) : Prop where
  cl : Closed rw b I S
  gr : ∀ T, Closed rw b I T → ∀ p, T p = true → S p = true
section
variable {rw rw' : Rows} {b b' : Int → Bool} {I I' : Int → Prop} {S S' : Int → Bool}
theorem any_of {e : List Int} {L : Int → Bool} (hne : e ≠ []) (h : ∀ q ∈ e, L q = true) : e.any L = true := by
  cases e with
  | nil => exact absurd rfl hne
  | cons x e => exact List.any_eq_true.mpr ⟨x, by simp, h x (by simp)⟩
theorem cT_iff {S L : Int → Bool} {e : List Int} : cT S L e = true ↔ (∀ q ∈ e, S q = true) ∧ ∃ q ∈ e, L q = true := by
  unfold cT
  rw [Bool.and_eq_true, List.all_eq_true, List.any_eq_true]
theorem sT_iff {L : Int → Bool} {e : List Int} : sT L e = true ↔ ∀ q ∈ e, L q = true := List.all_eq_true
theorem G_I (Y : Sys rw b I) {t : Tst} : ∀ {n p}, G rw b t n p = true → I p
  | 0, p, h => by rw [G_zero] at h; exact Y.bI p h
  | n + 1, p, h => by
    rw [G_succ, Bool.or_eq_true, List.any_eq_true] at h
    rcases h with h | ⟨e, he, _⟩
    · exact G_I Y h
    · exact Y.rI p fun q => by rw [q] at he; cases he
/-- who keeps to T, keeps to a greater set -/
theorem G_cT {T T' : Int → Bool} (h : ∀ p, T p = true → T' p = true) : ∀ n p, G rw b (cT T) n p = true → G rw b (cT T') n p = true := fun n p q =>
  G_sub (P := fun _ => True) (fun _ _ h => h) (fun n p _ ih q => by
    obtain ⟨e, he, hc⟩ := List.any_eq_true.mp q
    obtain ⟨h1, x, hx, h2⟩ := cT_iff.mp hc
    exact List.any_eq_true.mpr ⟨e, he, cT_iff.mpr ⟨fun y hy => h y (h1 y hy), x, hx, ih x trivial h2⟩⟩) n p trivial q
theorem Great.all (Y : Sys rw b I) (g : Great rw b I S) {n : Nat} {p : Int} (h : G rw b (cT S) n p = true) : S p = true := by
  have hd : ∀ p, (∃ n, G rw b (cT S) n p = true) → @decide (∃ n, G rw b (cT S) n p = true) (Classical.propDecidable _) = true := fun p h => @decide_eq_true _ (Classical.propDecidable _) h
  refine g.gr (fun p => @decide (∃ n, G rw b (cT S) n p = true) (Classical.propDecidable _)) (fun q hq => ?_) p (hd p ⟨n, h⟩)
  obtain ⟨m, hm⟩ := @of_decide_eq_true _ (Classical.propDecidable _) hq
  exact ⟨G_I Y hm, m, G_cT (fun r hr => hd r (g.cl r hr).2) m q hm⟩
theorem Great.uniq (g : Great rw b I S) (g' : Great rw b I S') : S = S' := funext fun p => by
  cases h : S p with
  | true => rw [g'.gr S g.cl p h]
  | false =>
    cases h' : S' p with
    | true => rw [g.gr S' g'.cl p h'] at h; cases h
    | false => rfl
theorem Great.iff (Y : Sys rw b I) (g : Great rw b I S) {p : Int} : S p = true ↔ ∃ n, G rw b (cT S) n p = true := ⟨fun h => (g.cl p h).2, fun ⟨_, h⟩ => g.all Y h⟩
theorem strong_cyclic (Y : Sys rw b I) (g : Great rw b I S) {n : Nat} {p : Int} (h : G rw b sT n p = true) : S p = true := by
  have hd : ∀ p, (∃ n, G rw b sT n p = true) → @decide (∃ n, G rw b sT n p = true) (Classical.propDecidable _) = true := fun p h => @decide_eq_true _ (Classical.propDecidable _) h
  refine g.gr (fun p => @decide (∃ n, G rw b sT n p = true) (Classical.propDecidable _)) (fun q hq => ?_) p (hd p ⟨n, h⟩)
  obtain ⟨m, hm⟩ := @of_decide_eq_true _ (Classical.propDecidable _) hq
  refine ⟨G_I Y hm, m, G_sub (P := fun _ => True) (fun _ _ h => h) (fun n p _ ih q => ?_) m q trivial hm⟩
  obtain ⟨e, he, hc⟩ := List.any_eq_true.mp q
  have hc := sT_iff.mp hc
  refine List.any_eq_true.mpr ⟨e, he, cT_iff.mpr ⟨fun y hy => hd y ⟨n, hc y hy⟩, ?_⟩⟩
  obtain ⟨x, hx, h⟩ := List.any_eq_true.mp (any_of (Y.ne p e he) hc)
  exact ⟨x, hx, ih x trivial h⟩
/-! #### more goals, more picks -/
theorem more_strong (hb : ∀ p, b p = true → b' p = true) : ∀ n p, G rw b sT n p = true → G rw b' sT n p = true := fun n p q =>
  G_sub (P := fun _ => True) (fun p _ h => hb p h) (fun n p _ ih q => by
    obtain ⟨e, he, hc⟩ := List.any_eq_true.mp q
    exact List.any_eq_true.mpr ⟨e, he, sT_iff.mpr fun y hy => ih y trivial (sT_iff.mp hc y hy)⟩) n p trivial q
theorem more_cT (hb : ∀ p, b p = true → b' p = true) : ∀ n p, G rw b (cT S) n p = true → G rw b' (cT S) n p = true := fun n p q =>
  G_sub (P := fun _ => True) (fun p _ h => hb p h) (fun n p _ ih q => by
    obtain ⟨e, he, hc⟩ := List.any_eq_true.mp q
    obtain ⟨h1, x, hx, h2⟩ := cT_iff.mp hc
    exact List.any_eq_true.mpr ⟨e, he, cT_iff.mpr ⟨h1, x, hx, ih x trivial h2⟩⟩) n p trivial q
theorem more_cyclic (hb : ∀ p, b p = true → b' p = true) (g : Great rw b I S) (g' : Great rw b' I S') {p : Int} (h : S p = true) : S' p = true :=
  g'.gr S (fun q hq => ⟨(g.cl q hq).1, by obtain ⟨n, hn⟩ := (g.cl q hq).2; exact ⟨n, more_cT hb n q hn⟩⟩) p h
theorem extra_strong (hr : ∀ p, ∀ e' ∈ rw' p, ∃ e ∈ rw p, ∀ q ∈ e, q ∈ e') : ∀ n p, G rw' b sT n p = true → G rw b sT n p = true := fun n p q =>
  G_sub (P := fun _ => True) (fun p _ h => h) (fun n p _ ih q => by
    obtain ⟨e', he', hc⟩ := List.any_eq_true.mp q
    obtain ⟨e, he, hs⟩ := hr p e' he'
    exact List.any_eq_true.mpr ⟨e, he, sT_iff.mpr fun y hy => ih y trivial (sT_iff.mp hc y (hs y hy))⟩) n p trivial q
theorem longer_strong (hr : ∀ p, rw' p = rw p ∨ ∃ x l e', rw p = x :: l ∧ rw' p = rw p ++ [e'] ∧ ∀ q ∈ x, q ∈ e') : ∀ n p, V rw' b sT n p = V rw b sT n p :=
  V_congr (fun _ => rfl) fun n p _ _ => by
    rcases hr p with e | ⟨x, l, e', e1, e2, hs⟩
    · rw [e]
    · rw [e2, List.findIdx?_append, List.findIdx?_cons, List.findIdx?_nil]
      cases h : (rw p).findIdx? (sT (G rw b sT n)) with
      | some v => simp
      | none =>
        rw [e1, List.findIdx?_cons] at h
        have : sT (G rw b sT n) e' = false := by
          cases hq : sT (G rw b sT n) e' with
          | false => rfl
          | true =>
            have : sT (G rw b sT n) x = true := sT_iff.mpr fun y hy => sT_iff.mp hq y (hs y hy)
            rw [this] at h
            cases h
        rw [this]
        simp
/-! #### one end alone -/
def Plain (rw : Rows) : Prop := ∀ p, ∀ e ∈ rw p, ∃ x, e = [x]
theorem findIdx_congr {l : List (List Int)} {u v : List Int → Bool} (h : ∀ e ∈ l, u e = v e) : l.findIdx? u = l.findIdx? v := by
  induction l with
  | nil => rfl
  | cons x l ih => rw [List.findIdx?_cons, List.findIdx?_cons, h x (by simp), ih fun e he => h e (by simp [he])]
theorem plain_cyclic (hp : Plain rw) (Y : Sys rw b I) (g : Great rw b I S) : ∀ n p, V rw b (cT S) n p = V rw b sT n p := by
  refine V_congr (fun _ => rfl) fun n p _ _ => findIdx_congr fun e he => ?_
  obtain ⟨x, rfl⟩ := hp p e he
  unfold cT
  simp only [List.all_cons, List.all_nil, List.any_cons, List.any_nil, Bool.and_true, Bool.or_false, sT]
  cases h : G rw b sT n x with
  | false => simp
  | true => rw [strong_cyclic Y g h]; rfl
theorem plain_weak (hp : Plain rw) : ∀ n p, V rw b anyT n p = V rw b sT n p := by
  refine V_congr (fun _ => rfl) fun n p _ _ => findIdx_congr fun e he => ?_
  obtain ⟨x, rfl⟩ := hp p e he
  simp
/-! #### two steps -/
variable {B : Int → Prop} {at_ : Int → Nat → Int}
theorem split_strong (T : Two rw rw' b b' B at_) : Split rw rw' b b' sT sT B at_ where
  hb := T.hb
  hb0 := T.hb0
  row := T.row
  one := T.one
  ends := T.ends
  t1 := fun n p k _ _ => by simp
  t2 := fun n m p k hp hk h => by
    apply Bool.eq_iff_iff.mpr
    rw [sT_iff, sT_iff]
    exact ⟨fun q x hx => by rw [← h x hx]; exact q x hx, fun q x hx => by rw [h x hx]; exact q x hx⟩
  tm := fun n p k hp hk h => sT_iff.mpr fun x hx => G_mono (sT_iff.mp h x hx) (Nat.le_succ n)
/-- what the set becomes -/
def SxP (rw : Rows) (S : Int → Bool) (B : Int → Prop) (at_ : Int → Nat → Int) (q : Int) : Prop := (B q ∧ S q = true) ∨ ∃ p k, ∃ h : k < (rw p).length, B p ∧ q = at_ p k ∧ (rw p)[k].all S = true
noncomputable def Sx (rw : Rows) (S : Int → Bool) (B : Int → Prop) (at_ : Int → Nat → Int) (q : Int) : Bool := @decide (SxP rw S B at_ q) (Classical.propDecidable _)
theorem Sx_iff {q : Int} : Sx rw S B at_ q = true ↔ SxP rw S B at_ q := ⟨@of_decide_eq_true _ (Classical.propDecidable _), @decide_eq_true _ (Classical.propDecidable _)⟩
theorem Sx_base (T : Two rw rw' b b' B at_) {p : Int} (hp : B p) : Sx rw S B at_ p = S p := by
  apply Bool.eq_iff_iff.mpr
  rw [Sx_iff]
  constructor
  · rintro (⟨_, h⟩ | ⟨p', k, hk, hp', e, _⟩)
    · exact h
    · subst e
      exact (T.out p' k hp' hk hp).elim
  · intro h
    exact .inl ⟨hp, h⟩
theorem Sx_mid (T : Two rw rw' b b' B at_) {p : Int} {k : Nat} (hp : B p) (hk : k < (rw p).length) : Sx rw S B at_ (at_ p k) = (rw p)[k].all S := by
  apply Bool.eq_iff_iff.mpr
  rw [Sx_iff]
  constructor
  · rintro (⟨h, _⟩ | ⟨p', k', hk', hp', e, h⟩)
    · exact (T.out p k hp hk h).elim
    · obtain ⟨e1, e2⟩ := T.inj p k p' k' hp hp' hk hk' e
      subst e1 e2
      exact h
  · intro h
    exact .inr ⟨p, k, hk, hp, rfl, h⟩
theorem split_cyclic (T : Two rw rw' b b' B at_) (S : Int → Bool) : Split rw rw' b b' (cT S) (cT (Sx rw S B at_)) B at_ where
  hb := T.hb
  hb0 := T.hb0
  row := T.row
  one := T.one
  ends := T.ends
  t1 := fun n p k hp hk => by
    unfold cT
    simp only [List.all_cons, List.all_nil, List.any_cons, List.any_nil, Bool.and_true, Bool.or_false]
    show (Sx rw S B at_ (at_ p k) && G rw' b' (cT (Sx rw S B at_)) n (at_ p k)) = G rw' b' (cT (Sx rw S B at_)) n (at_ p k)
    cases h : G rw' b' (cT (Sx rw S B at_)) n (at_ p k) with
    | false => simp
    | true =>
      have : ∀ n, G rw' b' (cT (Sx rw S B at_)) n (at_ p k) = true → Sx rw S B at_ (at_ p k) = true := by
        intro n
        induction n with
        | zero => intro h; rw [G_zero, T.hb0 p k hp hk] at h; cases h
        | succ n ih =>
          intro h
          rw [G_succ, Bool.or_eq_true] at h
          rcases h with h | h
          · exact ih h
          · rw [T.one p k hp hk] at h
            simp only [List.any_cons, List.any_nil, Bool.or_false] at h
            rw [Sx_mid T hp hk]
            refine List.all_eq_true.mpr fun x hx => ?_
            rw [← Sx_base (S := S) T (T.ends p k hp hk x hx)]
            exact (cT_iff.mp h).1 x hx
      rw [this n h]
      rfl
  t2 := fun n m p k hp hk h => by
    apply Bool.eq_iff_iff.mpr
    rw [cT_iff, cT_iff]
    constructor
    · rintro ⟨h1, x, hx, h2⟩
      exact ⟨fun y hy => by rw [← Sx_base (S := S) T (T.ends p k hp hk y hy)]; exact h1 y hy, x, hx, by rw [← h x hx]; exact h2⟩
    · rintro ⟨h1, x, hx, h2⟩
      exact ⟨fun y hy => by rw [Sx_base T (T.ends p k hp hk y hy)]; exact h1 y hy, x, hx, by rw [h x hx]; exact h2⟩
  tm := fun n p k hp hk h => by
    obtain ⟨h1, x, hx, h2⟩ := cT_iff.mp h
    exact cT_iff.mpr ⟨h1, x, hx, G_mono h2 (Nat.le_succ n)⟩
theorem great_split (T : Two rw rw' b b' B at_) (Y : Sys rw b B) (g : Great rw b B S) (hI : ∀ q, I' q ↔ B q ∨ ∃ p k, B p ∧ k < (rw p).length ∧ q = at_ p k) : Great rw' b' I' (Sx rw S B at_) := by
  have P := split_cyclic T S
  constructor
  · intro q hq
    rcases Sx_iff.mp hq with ⟨hB, hS⟩ | ⟨p, k, hk, hp, rfl, ha⟩
    · obtain ⟨n, hn⟩ := (g.cl q hS).2
      refine ⟨(hI q).mpr (.inl hB), 2 * n, ?_⟩
      unfold G at hn ⊢
      rw [(P.at' n).1 q hB, Option.isSome_map]
      exact hn
    · refine ⟨(hI _).mpr (.inr ⟨p, k, hp, hk, rfl⟩), ?_⟩
      have ha := List.all_eq_true.mp ha
      obtain ⟨x, hx, _⟩ := List.any_eq_true.mp (any_of (Y.ne p _ (List.getElem_mem hk)) ha)
      obtain ⟨n, hn⟩ := (g.cl x (ha x hx)).2
      refine ⟨2 * n + 1, ?_⟩
      unfold G
      rw [(P.at' n).2.2.2 p k hp hk, Option.isSome_map]
      rw [En_isSome (u := fun m => cT S (G rw b (cT S) m) (rw p)[k]) fun n => P.tm n p k hp hk]
      exact cT_iff.mpr ⟨ha, x, hx, hn⟩
  · intro T' hT' q hq
    let Tb : Int → Bool := fun p => @decide (B p ∧ T' p = true) (Classical.propDecidable _)
    have hTb : ∀ p, Tb p = true ↔ B p ∧ T' p = true := fun p => ⟨@of_decide_eq_true _ (Classical.propDecidable _), @decide_eq_true _ (Classical.propDecidable _)⟩
    have key : ∀ n, (∀ p, B p → G rw' b' (cT T') n p = true → G rw b (cT Tb) n p = true) ∧ (∀ p k, B p → (hk : k < (rw p).length) → G rw' b' (cT T') n (at_ p k) = true → (rw p)[k].all Tb = true ∧ ∃ e ∈ (rw p)[k], G rw b (cT Tb) n e = true) := by
      intro n
      induction n with
      | zero =>
        refine ⟨fun p hp h => ?_, fun p k hp hk h => ?_⟩
        · rw [G_zero] at h ⊢
          rw [← T.hb p hp]; exact h
        · rw [G_zero, T.hb0 p k hp hk] at h; cases h
      | succ n ih =>
        refine ⟨fun p hp h => ?_, fun p k hp hk h => ?_⟩
        · rw [G_succ, Bool.or_eq_true] at h
          rcases h with h | h
          · exact G_mono (ih.1 p hp h) (Nat.le_succ n)
          · rw [G_succ, Bool.or_eq_true]
            right
            rw [T.row p hp] at h
            obtain ⟨e, he, hc⟩ := List.any_eq_true.mp h
            obtain ⟨k, hk, rfl⟩ := List.mem_map.mp he
            have hk := List.mem_range.mp hk
            obtain ⟨_, x, hx, h2⟩ := cT_iff.mp hc
            simp at hx
            subst hx
            obtain ⟨a1, e, he, a2⟩ := ih.2 p k hp hk h2
            exact List.any_eq_true.mpr ⟨_, List.getElem_mem hk, cT_iff.mpr ⟨List.all_eq_true.mp a1, e, he, a2⟩⟩
        · rw [G_succ, Bool.or_eq_true] at h
          rcases h with h | h
          · obtain ⟨a1, e, he, a2⟩ := ih.2 p k hp hk h
            exact ⟨a1, e, he, G_mono a2 (Nat.le_succ n)⟩
          · rw [T.one p k hp hk] at h
            simp only [List.any_cons, List.any_nil, Bool.or_false] at h
            obtain ⟨h1, x, hx, h2⟩ := cT_iff.mp h
            exact ⟨List.all_eq_true.mpr fun y hy => (hTb y).mpr ⟨T.ends p k hp hk y hy, h1 y hy⟩, x, hx, G_mono (ih.1 x (T.ends p k hp hk x hx) h2) (Nat.le_succ n)⟩
    have hcl : Closed rw b B Tb := fun p hp => by
      obtain ⟨hB, hT⟩ := (hTb p).mp hp
      obtain ⟨_, n, hn⟩ := hT' p hT
      exact ⟨hB, n, (key n).1 p hB hn⟩
    have sub := g.gr Tb hcl
    rcases (hI q).mp (hT' q hq).1 with hB | ⟨p, k, hp, hk, rfl⟩
    · exact Sx_iff.mpr (.inl ⟨hB, sub q ((hTb q).mpr ⟨hB, hq⟩)⟩)
    · obtain ⟨_, n, hn⟩ := hT' _ hq
      obtain ⟨a1, _⟩ := (key n).2 p k hp hk hn
      exact Sx_iff.mpr (.inr ⟨p, k, hk, hp, rfl, List.all_eq_true.mpr fun x hx => sub x (List.all_eq_true.mp a1 x hx)⟩)
/-! #### names -/
structure Nam (rw rw' : Rows) (b b' : Int → Bool) (B : Int → Prop) (σ : Int → Int) : Prop where
  hb : ∀ p, B p → b' (σ p) = b p
  row : ∀ p, B p → ∃ f : List Int → List Int, rw' (σ p) = (rw p).map f ∧ ∀ e ∈ rw p, ∀ x, x ∈ f e ↔ ∃ q ∈ e, σ q = x
  ends : ∀ p, B p → ∀ e ∈ rw p, ∀ q ∈ e, B q
  im : ∀ p, B p → B (σ p)
  inj : ∀ p q, B p → B q → σ p = σ q → p = q
  sur : ∀ q, B q → ∃ p, B p ∧ σ p = q
variable {σ : Int → Int}
theorem findIdx_map {l : List (List Int)} {f : List Int → List Int} {u v : List Int → Bool} (h : ∀ e ∈ l, u (f e) = v e) : (l.map f).findIdx? u = l.findIdx? v := by
  induction l with
  | nil => rfl
  | cons x l ih => rw [List.map_cons, List.findIdx?_cons, List.findIdx?_cons, h x (by simp), ih fun e he => h e (by simp [he])]
theorem names_of (N : Nam rw rw' b b' B σ) (t t' : Tst) (ht : ∀ (L L' : Int → Bool) (e e' : List Int), (∀ q ∈ e, B q) → (∀ q, B q → L' (σ q) = L q) → (∀ x, x ∈ e' ↔ ∃ q ∈ e, σ q = x) → t' L' e' = t L e) : ∀ n p, B p → V rw' b' t' n (σ p) = V rw b t n p :=
  V_names σ N.hb fun n p hp ih => by
    obtain ⟨f, hf, hm⟩ := N.row p hp
    rw [hf]
    exact findIdx_map fun e he => ht _ _ e (f e) (N.ends p hp e he) (fun q hq => by unfold G; rw [ih q hq]) (hm e he)
theorem names_all {L L' : Int → Bool} {e e' : List Int} (hB : ∀ q ∈ e, B q) (h : ∀ q, B q → L' (σ q) = L q) (hm : ∀ x, x ∈ e' ↔ ∃ q ∈ e, σ q = x) : e'.all L' = e.all L := by
  apply Bool.eq_iff_iff.mpr
  rw [List.all_eq_true, List.all_eq_true]
  exact ⟨fun q x hx => by rw [← h x (hB x hx)]; exact q _ ((hm _).mpr ⟨x, hx, rfl⟩), fun q x hx => by
    obtain ⟨y, hy, rfl⟩ := (hm x).mp hx
    rw [h y (hB y hy)]; exact q y hy⟩
theorem names_any {L L' : Int → Bool} {e e' : List Int} (hB : ∀ q ∈ e, B q) (h : ∀ q, B q → L' (σ q) = L q) (hm : ∀ x, x ∈ e' ↔ ∃ q ∈ e, σ q = x) : e'.any L' = e.any L := by
  apply Bool.eq_iff_iff.mpr
  rw [List.any_eq_true, List.any_eq_true]
  exact ⟨fun ⟨x, hx, q⟩ => by
    obtain ⟨y, hy, rfl⟩ := (hm x).mp hx
    exact ⟨y, hy, by rw [← h y (hB y hy)]; exact q⟩, fun ⟨x, hx, q⟩ => ⟨σ x, (hm _).mpr ⟨x, hx, rfl⟩, by rw [h x (hB x hx)]; exact q⟩⟩
theorem names_strong (N : Nam rw rw' b b' B σ) : ∀ n p, B p → V rw' b' sT n (σ p) = V rw b sT n p := names_of N _ _ fun L L' e e' hB h hm => names_all hB h hm
theorem names_weak (N : Nam rw rw' b b' B σ) : ∀ n p, B p → V rw' b' anyT n (σ p) = V rw b anyT n p := names_of N _ _ fun L L' e e' hB h hm => names_any hB h hm
theorem names_cT (N : Nam rw rw' b b' B σ) (hS : ∀ p, B p → S' (σ p) = S p) : ∀ n p, B p → V rw' b' (cT S') n (σ p) = V rw b (cT S) n p := names_of N _ _ fun L L' e e' hB h hm => by
  unfold cT
  rw [names_all hB hS hm, names_any hB h hm]
theorem names_great (N : Nam rw rw' b b' B σ) (g : Great rw b B S) (g' : Great rw' b' B S') : ∀ p, B p → S' (σ p) = S p := by
  intro p hp
  have fwd : S p = true → S' (σ p) = true := by
    intro h
    let T : Int → Bool := fun x => @decide (∃ q, B q ∧ σ q = x ∧ S q = true) (Classical.propDecidable _)
    have hT : ∀ x, T x = true ↔ ∃ q, B q ∧ σ q = x ∧ S q = true := fun p => ⟨@of_decide_eq_true _ (Classical.propDecidable _), @decide_eq_true _ (Classical.propDecidable _)⟩
    have e : ∀ q, B q → T (σ q) = S q := fun q hq => by
      apply Bool.eq_iff_iff.mpr
      rw [hT]
      exact ⟨fun ⟨r, hr, e, h⟩ => by rw [← N.inj r q hr hq e]; exact h, fun h => ⟨q, hq, rfl, h⟩⟩
    refine g'.gr T (fun x hx => ?_) _ ((hT _).mpr ⟨p, hp, rfl, h⟩)
    obtain ⟨q, hq, rfl, h⟩ := (hT x).mp hx
    obtain ⟨n, hn⟩ := (g.cl q h).2
    refine ⟨N.im q hq, n, ?_⟩
    unfold G at hn ⊢
    rw [names_cT N e n q hq]
    exact hn
  have bwd : S' (σ p) = true → S p = true := by
    intro h
    let T : Int → Bool := fun q => @decide (B q ∧ S' (σ q) = true) (Classical.propDecidable _)
    have hT : ∀ q, T q = true ↔ B q ∧ S' (σ q) = true := fun p => ⟨@of_decide_eq_true _ (Classical.propDecidable _), @decide_eq_true _ (Classical.propDecidable _)⟩
    have e : ∀ q, B q → S' (σ q) = T q := fun q hq => by
      apply Bool.eq_iff_iff.mpr
      rw [hT]
      exact ⟨fun h => ⟨hq, h⟩, fun h => h.2⟩
    refine g.gr T (fun q hq => ?_) p ((hT p).mpr ⟨hp, h⟩)
    obtain ⟨hB, h⟩ := (hT q).mp hq
    obtain ⟨n, hn⟩ := (g'.cl _ h).2
    refine ⟨hB, n, ?_⟩
    unfold G at hn ⊢
    rw [← names_cT N e n q hB]
    exact hn
  cases h : S p with
  | true => exact fwd h
  | false =>
    cases h' : S' (σ p) with
    | true => rw [bwd h'] at h; cases h
    | false => rfl
end
end K42

/-! M3: dicts; plans of rounds; strong plans. -/
namespace K42
open PySem L2 Nz
section
variable {α : Type}
theorem enumZ_nil : enumZ ([] : List α) = [] := rfl
theorem enumZ_cons (x : α) (xs : List α) : enumZ (x :: xs) = (0, x) :: (enumZ xs).map fun p => (p.1 + 1, p.2) := by
  refine List.ext_getElem? fun i => ?_
  cases i with
  | zero => exact enumZ_get _ 0 x rfl
  | succ i =>
    rw [List.getElem?_cons_succ, List.getElem?_map]
    cases h : xs[i]? with
    | none =>
      have h1 : xs.length ≤ i := List.getElem?_eq_none_iff.mp h
      rw [List.getElem?_eq_none_iff.mpr (by rw [enumZ_len]; simpa using h1), List.getElem?_eq_none_iff.mpr (by rw [enumZ_len]; exact h1)]
      rfl
    | some y =>
      rw [enumZ_get (x :: xs) (i + 1) y (by simpa using h), enumZ_get xs i y h]
      simp
theorem mem_enumZ {xs : List α} {p : Int × α} : p ∈ enumZ xs ↔ 0 ≤ p.1 ∧ xs[p.1.toNat]? = some p.2 := by
  constructor
  · intro h
    obtain ⟨i, hi, e⟩ := List.mem_iff_getElem.mp h
    have hi' : i < xs.length := by rw [enumZ_len] at hi; exact hi
    have := enumZ_get xs i xs[i] (List.getElem?_eq_getElem hi')
    rw [List.getElem?_eq_getElem hi, e] at this
    have e2 := Option.some.inj this
    subst e2
    exact ⟨by simp, by simp⟩
  · intro h
    have := enumZ_get xs p.1.toNat p.2 h.2
    rw [Int.toNat_of_nonneg h.1] at this
    exact List.mem_of_getElem? this
theorem enum_first (t : α → Bool) : ∀ xs : List α, atI (((enumZ xs).filter fun y => t y.2).map Prod.fst) 0 = (xs.findIdx? t).map fun k => (k : Int)
  | [] => rfl
  | x :: xs => by
    have at0 : ∀ l : List Int, atI l 0 = l.head? := fun l => by
      unfold atI ixN
      cases l with
      | nil => rfl
      | cons a l => simp
    rw [at0]
    rw [enumZ_cons, List.findIdx?_cons]
    cases h : t x with
    | true => simp [h]
    | false =>
      have ih := enum_first t xs
      rw [at0] at ih
      simp only [List.filter_cons, h, Bool.false_eq_true, if_false, List.filter_map, List.map_map]
      have : ((fun (y : Int × α) => t y.2) ∘ fun p : Int × α => (p.1 + 1, p.2)) = fun y => t y.2 := rfl
      rw [this]
      have e2 : ((fun (p : Int × α) => p.1) ∘ fun p : Int × α => (p.1 + 1, p.2)) = (fun z : Int => z + 1) ∘ (fun p : Int × α => p.1) := rfl
      rw [e2, ← List.map_map, List.head?_map, ih]
      cases xs.findIdx? t <;> simp
theorem enum_empty (t : α → Bool) (xs : List α) : (((enumZ xs).filter fun y => t y.2).map Prod.fst).isEmpty = (xs.findIdx? t).isNone := by
  have h := enum_first t xs
  have at0 : ∀ l : List Int, atI l 0 = l.head? := fun l => by
    unfold atI ixN
    cases l with
    | nil => rfl
    | cons a l => simp
  rw [at0] at h
  cases hl : ((enumZ xs).filter fun y => t y.2).map Prod.fst with
  | nil => rw [hl] at h; cases hq : xs.findIdx? t with
    | none => rfl
    | some k => rw [hq] at h; cases h
  | cons a l => rw [hl] at h; cases hq : xs.findIdx? t with
    | none => rw [hq] at h; cases h
    | some k => rfl
end
theorem enum_firstA (L : Int → Bool) (xs : List (List Int)) : atI (((enumZ xs).filter fun y => y.2.all L).map Prod.fst) 0 = (xs.findIdx? fun ends => ends.all L).map fun k => (k : Int) := enum_first (fun ends => ends.all L) xs
theorem enum_emptyA (L : Int → Bool) (xs : List (List Int)) : (((enumZ xs).filter fun y => y.2.all L).map Prod.fst).isEmpty = (xs.findIdx? fun ends => ends.all L).isNone := enum_empty (fun ends => ends.all L) xs

/-- the deeds of a place -/
def rwg (g : Game) (p : Int) : List (List Int) := if 0 ≤ p then (g[p.toNat]?).getD [] else []
abbrev inb (goal : List Int) (p : Int) : Bool := decide (p ∈ goal)
theorem rwg_get {g : Game} {p : Int} {row : List (List Int)} (h0 : 0 ≤ p) (h : g[p.toNat]? = some row) : rwg g p = row := by unfold rwg; rw [if_pos h0, h]; rfl
theorem rwg_at {g : Game} {p : Int} (h0 : 0 ≤ p) (h1 : p < (g.length : Int)) : atI g p = some (rwg g p) := by
  have : p.toNat < g.length := by omega
  unfold atI ixN
  rw [if_pos h0, if_pos h1]
  show g[p.toNat]? = _
  rw [rwg_get h0 (List.getElem?_eq_getElem this), List.getElem?_eq_getElem this]
theorem rwg_mem {g : Game} {p : Int} (h : rwg g p ≠ []) : 0 ≤ p ∧ p < (g.length : Int) ∧ rwg g p ∈ g := by
  unfold rwg at h ⊢
  split at h
  · rename_i h0
    cases e : g[p.toNat]? with
    | none => rw [e] at h; exact absurd rfl h
    | some row =>
      obtain ⟨h1, h2⟩ := List.getElem?_eq_some_iff.mp e
      refine ⟨h0, by omega, ?_⟩
      rw [if_pos h0]
      exact List.mem_of_getElem? e
  · exact absurd rfl h
section
variable {κ α : Type} [DecidableEq κ]
theorem dget_puts (v : κ → α) : ∀ (xs : List κ) (d : List (κ × α)) (p : κ), dget (xs.foldl (fun d x => dput d x (v x)) d) p = if p ∈ xs then some (v p) else dget d p
  | [], d, p => by simp
  | x :: xs, d, p => by
    rw [List.foldl_cons, dget_puts v xs, dget_dput]
    by_cases h : p ∈ xs
    · simp [h]
    · by_cases e : p = x
      · subst e; simp [h]
      · simp [h, e]
theorem ndk_puts (v : κ → α) : ∀ (xs : List κ) (d : List (κ × α)), NdK d → NdK (xs.foldl (fun d x => dput d x (v x)) d)
  | [], d, h => h
  | x :: xs, d, h => ndk_puts v xs _ (h.dput x (v x))
theorem keys_puts (v : κ → α) : ∀ (xs : List κ) (d : List (κ × α)), xs.Nodup → (∀ x ∈ xs, x ∉ d.map (·.1)) → (xs.foldl (fun d x => dput d x (v x)) d).map (·.1) = d.map (·.1) ++ xs
  | [], d, _, _ => by simp
  | x :: xs, d, nd, h => by
    rw [List.nodup_cons] at nd
    have hx := h x (by simp)
    have e : (dput d x (v x)).map (·.1) = d.map (·.1) ++ [x] := by rw [keys_dput, if_neg hx]
    rw [List.foldl_cons, keys_puts v xs _ nd.2 fun y hy q => ?_, e]
    · simp
    · rw [e] at q
      rcases List.mem_append.mp q with q | q
      · exact h y (by simp [hy]) q
      · simp at q
        subst q
        exact nd.1 hy
theorem nodup_len {l m : List κ} (h : l.Nodup) (s : ∀ x ∈ l, x ∈ m) : l.length ≤ m.length := by
  induction l generalizing m with
  | nil => simp
  | cons x l ih =>
    rw [List.nodup_cons] at h
    have hx : x ∈ m := s x (by simp)
    have := ih (m := m.erase x) h.2 fun y hy => by
      have e : y ≠ x := fun e => h.1 (e ▸ hy)
      exact (List.mem_erase_of_ne e).mpr (s y (by simp [hy]))
    have e := List.length_erase_of_mem hx
    have : 0 < m.length := List.length_pos_of_mem hx
    simp only [List.length_cons]
    omega
theorem nodup_sub_all {l m : List κ} (h : l.Nodup) (s : ∀ x ∈ l, x ∈ m) (e : m.Nodup) (q : m.length ≤ l.length) : ∀ x ∈ m, x ∈ l := by
  intro x hx
  apply Classical.byContradiction
  intro n
  have := nodup_len (l := x :: l) (m := m) (List.nodup_cons.mpr ⟨n, h⟩) (fun y hy => by
    rcases List.mem_cons.mp hy with rfl | hy
    · exact hx
    · exact s y hy)
  simp only [List.length_cons] at this
  omega
theorem _root_.Nz.NdK.len {d : List (Int × α)} (h : NdK d) {N : Nat} (s : ∀ p ∈ d.map (·.1), 0 ≤ p ∧ p < (N : Int)) : d.length ≤ N := by
  have := nodup_len (l := d.map (fun x : Int × α => x.1)) (m := (List.range N).map fun i => ((i : Nat) : Int)) h fun x hx => by
    have := s x hx
    exact List.mem_map.mpr ⟨x.toNat, List.mem_range.mpr (by omega), by omega⟩
  simpa using this
theorem dget_mem {d : List (κ × α)} {k : κ} {v : α} (h : dget d k = some v) : (k, v) ∈ d := by
  induction d with
  | nil => cases h
  | cons p d ih =>
    unfold dget at h
    split at h
    · rename_i e
      cases h
      rw [← e]
      exact List.mem_cons_self
    · exact List.mem_cons_of_mem _ (ih h)
theorem _root_.Nz.NdK.get {d : List (κ × α)} (h : NdK d) {p : κ × α} (hp : p ∈ d) : dget d p.1 = some p.2 := by
  induction d with
  | nil => cases hp
  | cons x d ih =>
    have h1 : x.1 ∉ d.map (·.1) := (List.nodup_cons.mp h).1
    have h2 : NdK d := (List.nodup_cons.mp h).2
    unfold dget
    rcases List.mem_cons.mp hp with rfl | hp
    · rw [if_pos rfl]
    · rw [if_neg fun e => h1 (by rw [e]; exact List.mem_map_of_mem hp)]
      exact ih h2 hp
end
theorem sortI_lt {l : List Int} (h : l.Nodup) : (sortI l).Pairwise (· < ·) := by
  have h1 := pw_sortI l
  have h2 : (sortI l).Nodup := (perm_sortI l).nodup_iff.mpr h
  exact List.pairwise_iff_getElem.mpr fun i j hi hj hij => by
    have a := List.pairwise_iff_getElem.mp h1 i j hi hj hij
    have b := List.pairwise_iff_getElem.mp h2 i j hi hj hij
    omega
theorem mem_sortI {l : List Int} {x : Int} : x ∈ sortI l ↔ x ∈ l := (perm_sortI l).mem_iff
theorem nodup_of_lt {l : List Int} (h : l.Pairwise (· < ·)) : l.Nodup := h.imp fun h => Int.ne_of_lt h
/-- a dict that tells the rounds -/
structure Plan {α : Type} (rw : Rows) (b : Int → Bool) (t : Tst) (f : Nat × Option Nat → α) (d : List (Int × α)) : Prop where
  srt : (d.map (·.1)).Pairwise (· < ·)
  get : ∃ n, Stab rw b t n ∧ ∀ p, dget d p = (V rw b t n p).map f
structure RInv {α : Type} (rw : Rows) (b : Int → Bool) (t : Tst) (f : Nat × Option Nat → α) (n : Nat) (d : List (Int × α)) : Prop where
  nd : NdK d
  get : ∀ p, dget d p = (V rw b t n p).map f
section
variable {α : Type} {rw : Rows} {b : Int → Bool} {t : Tst} {f : Nat × Option Nat → α} {n : Nat} {d : List (Int × α)}
theorem RInv.isSome (h : RInv rw b t f n d) (p : Int) : (dget d p).isSome = G rw b t n p := by rw [h.get p, Option.isSome_map]; rfl
theorem RInv.key (h : RInv rw b t f n d) {p : Int} : p ∈ d.map (·.1) ↔ G rw b t n p = true := by rw [← dget_isSome, h.isSome]
theorem RInv.next (h : RInv rw b t f n d) {e : List (Int × α)} (ne : NdK e) (he : ∀ p, dget e p = if G rw b t n p = true then none else ((rw p).findIdx? (t (G rw b t n))).map fun k => f (n + 1, some k)) : RInv rw b t f (n + 1) (dputs d e) where
  nd := NdK.dputs e h.nd
  get := fun p => by
    rw [dget_dputs e d p ne, he p, h.get p, V_succ]
    unfold G
    cases V rw b t n p with
    | some v => simp
    | none => simp [Function.comp_def]
theorem RInv.last (h : RInv rw b t f n d) {e : List (Int × α)} (he : ∀ p, dget e p = if G rw b t n p = true then none else ((rw p).findIdx? (t (G rw b t n))).map fun k => f (n + 1, some k)) (e0 : e = []) : Stab rw b t n := by
  subst e0
  intro m hm p
  refine V_fix (fun q => ?_) hm p
  have := he q
  rw [G_succ]
  cases hg : G rw b t n q with
  | true => rfl
  | false =>
    rw [hg] at this
    simp only [Bool.false_eq_true, if_false] at this
    have := Option.map_eq_none_iff.mp this.symm
    rw [Bool.false_or, ← Bool.not_eq_true]
    intro q2
    rw [← List.findIdx?_isSome, this] at q2
    cases q2
theorem Plan.key (h : Plan rw b t f d) {p : Int} : p ∈ d.map (·.1) ↔ ∃ n, G rw b t n p = true := by
  obtain ⟨n, s, e⟩ := h.get
  rw [← dget_isSome, e p, Option.isSome_map]
  exact ⟨fun h => ⟨n, h⟩, fun ⟨m, h⟩ => s.g h⟩
theorem Plan.yes (h : Plan rw b t f d) {m : Nat} {p : Int} {v} (e : V rw b t m p = some v) : dget d p = some (f v) := by
  obtain ⟨n, s, e2⟩ := h.get
  rw [e2 p, s.some e]; rfl
theorem Plan.of (h : Plan rw b t f d) {p : Int} {w : α} (e : dget d p = some w) : ∃ n v, V rw b t n p = some v ∧ w = f v := by
  obtain ⟨n, s, e2⟩ := h.get
  rw [e2 p, Option.map_eq_some_iff] at e
  obtain ⟨v, h1, h2⟩ := e
  exact ⟨n, v, h1, h2.symm⟩
theorem Plan.nd (h : Plan rw b t f d) : NdK d := nodup_of_lt h.srt
theorem plan_eq {d' : List (Int × α)} (h : (d.map (·.1)).Pairwise (· < ·)) (h' : (d'.map (·.1)).Pairwise (· < ·)) (e : ∀ p, dget d p = dget d' p) : d = d' := by
  have hk : d.map (·.1) = d'.map (·.1) := lt_unique h h' fun x => by rw [← dget_isSome, ← dget_isSome, e x]
  have hl : d.length = d'.length := by simpa using congrArg List.length hk
  apply List.ext_getElem hl
  intro i h1 h2
  have a := NdK.get (d := d) (nodup_of_lt h) (List.getElem_mem h1)
  have c := NdK.get (d := d') (nodup_of_lt h') (List.getElem_mem h2)
  have k : d[i].1 = d'[i].1 := by
    have := congrArg (fun l => l[i]?) hk
    simp only [List.getElem?_map, List.getElem?_eq_getElem h1, List.getElem?_eq_getElem h2, Option.map_some] at this
    exact Option.some.inj this
  rw [← k, ← e, a] at c
  exact Prod.ext k (Option.some.inj c)
end
def fS (v : Nat × Option Nat) : Int × Option Int := ((v.1 : Int), v.2.map fun k => (k : Int))
def fC (v : Nat × Option Nat) : Option Int := v.2.map fun k => (k : Int)
theorem iteG_pure {β L M N : Type} (c : Bool) (a b : Pg (Ctl β L M)) (m : M → Pg (Ctl β L N)) : Pg.iteG (pure c) a b m = (if c = true then a else b) >>= Pg.seqG m := Pg.ext' fun k => by
  show (if c = true then _ else _) = _
  cases c <;> rfl
theorem seqG_nx {β L M N : Type} (m : M → Pg (Ctl β L N)) (s : M) : Pg.seqG m (.nx s) = m s := rfl
theorem filt_true {α : Type} (l : List α) : l.filter (fun _ => true) = l := List.filter_eq_self.mpr fun _ _ => rfl
structure OkGoal (g : Game) (goal : List Int) : Prop where
  nd : goal.Pairwise (· < ·)
  ok : ∀ p ∈ goal, 0 ≤ p ∧ p < (g.length : Int)
abbrev inR (g : Game) (p : Int) : Prop := 0 ≤ p ∧ p < (g.length : Int)
theorem sys_of {g : Game} {goal : List Int} (h : OkG g) (hg : OkGoal g goal) : Sys (rwg g) (inb goal) (inR g) where
  bI := fun p hp => hg.ok p (of_decide_eq_true hp)
  rI := fun p hp => by obtain ⟨a, b, _⟩ := rwg_mem hp; exact ⟨a, b⟩
  ne := fun p e he => (h.ok _ (rwg_mem fun q => by rw [q] at he; cases he).2.2 e he).1
  eI := fun p e he q hq => (h.ok _ (rwg_mem fun q => by rw [q] at he; cases he).2.2 e he).2.1 q hq
theorem strong_of {g : Game} {goal : List Int} (h : OkG g) (hg : OkGoal g goal) {k : List (Int × (Int × Option Int)) → Prop} (q : ∀ d, Plan (rwg g) (inb goal) sT fS d → k d) : (m_strong_plan (g, goal)).wp k := by
  have Y := sys_of h hg
  unfold m_strong_plan
  refine Pg.out_of ?_
  refine check_of h ?_
  refine Pg.bnd_of (Pg.dict_of (fun _ => true) id (fun _ => ((0 : Int), (none : Option Int))) (fun _ _ => rfl) (fun _ _ _ => rfl) (fun _ _ _ => rfl)) ?_
  intro d0 e0
  simp only [Pg.pure_bnd]
  have hd0 : RInv (rwg g) (inb goal) sT fS 0 d0 := by
    subst e0
    rw [filt_true]
    refine ⟨ndk_puts (fun _ => ((0 : Int), (none : Option Int))) goal [] List.nodup_nil, fun p => ?_⟩
    show dget (goal.foldl (fun d x => dput d x ((0 : Int), (none : Option Int))) []) p = _
    rw [dget_puts (fun _ => ((0 : Int), (none : Option Int)))]
    unfold V
    by_cases hp : p ∈ goal <;> simp [hp, dget, fS]
  have hlen : ∀ {n d}, RInv (rwg g) (inb goal) sT fS n d → d.length ≤ g.length := fun I => I.nd.len fun p hp => G_I Y (I.key.mp hp)
  refine Pg.while_of (fun s => ∃ n : Nat, s.2 = (n : Int) ∧ RInv (rwg g) (inb goal) sT fS n s.1) (fun s => 31 - s.1.length) (fun _ => true) ⟨0, rfl, hd0⟩ (fun _ _ => rfl) ?_ (fun _ _ z => by cases z)
  rintro ⟨found, steps⟩ ⟨n, hn, I⟩ -
  have hn : steps = (n : Int) := hn
  subst hn
  have I : RInv (rwg g) (inb goal) sT fS n found := I
  simp only [Pg.comp_pure, Pg.pure_bnd, iteG_pure, seqG_nx, filt_true, Pg.ifG_pure]
  have hall : ∀ ends : List Int, ((List.map (fun x => (dget found x).isSome) ends).all id) = sT (G (rwg g) (inb goal) sT n) ends := fun ends => by
    rw [List.all_map]
    show ends.all _ = ends.all _
    congr 1
    funext x
    exact I.isSome x
  simp only [hall]
  let gi : Int → Option Nat := fun p => (rwg g p).findIdx? (sT (G (rwg g) (inb goal) sT n))
  let fv : Nat → Int × Option Int := fun k => fS (n + 1, some k)
  refine Pg.bnd_of (p := fun c => ∃ s, c = Ctl.nx s ∧ NdK s ∧ ∀ p, dget s p = if G (rwg g) (inb goal) sT n p = true then none else (gi p).map fv) ?_ ?_
  · refine Pg.forc_of (fun pre s => NdK s ∧ (∀ p ∈ s.map (·.1), 0 ≤ p ∧ p < (g.length : Int)) ∧ ∀ p, dget s p = if p ∈ pre.map (·.1) ∧ G (rwg g) (inb goal) sT n p = false then (gi p).map fv else none) ?_ ?_ ?_
    · exact ⟨List.nodup_nil, by simp, fun p => by simp [dget]⟩
    · rintro pre ⟨p, deeds⟩ post s e ⟨nd, hr, hs⟩
      have hmem : (p, deeds) ∈ enumZ g := by rw [e]; simp
      obtain ⟨hp0, hpg⟩ := mem_enumZ.mp hmem
      have hrw : rwg g p = deeds := rwg_get hp0 hpg
      have hgi : gi p = deeds.findIdx? (sT (G (rwg g) (inb goal) sT n)) := by show (rwg g p).findIdx? _ = _; rw [hrw]
      have keep : gi p = none ∨ G (rwg g) (inb goal) sT n p = true → ∀ q, dget s q = if q ∈ (pre ++ [(p, deeds)]).map (·.1) ∧ G (rwg g) (inb goal) sT n q = false then (gi q).map fv else none := by
        intro hc q
        rw [hs q]
        by_cases hq : q = p
        · subst hq
          rcases hc with hc | hc
          · simp [hc]
          · simp only [hc]; simp
        · have e : q ∈ (pre ++ [(p, deeds)]).map (·.1) ↔ q ∈ pre.map (·.1) := by
            rw [List.map_append, List.mem_append]
            exact ⟨fun h => h.elim id fun h => absurd (List.mem_singleton.mp h) hq, .inl⟩
          simp only [e]
      have ee1 := enum_first (sT (G (rwg g) (inb goal) sT n)) deeds
      have ee2 := enum_empty (sT (G (rwg g) (inb goal) sT n)) deeds
      simp only [ee1, ee2, ← hgi, I.isSome]
      cases hl : G (rwg g) (inb goal) sT n p with
      | true => exact ⟨nd, hr, keep (.inr hl)⟩
      | false =>
        cases hk : gi p with
        | none => exact ⟨nd, hr, keep (.inl hk)⟩
        | some j =>
          have hin : 0 ≤ p ∧ p < (g.length : Int) := ⟨hp0, by have := (List.getElem?_eq_some_iff.mp hpg).1; omega⟩
          refine ⟨(j : Int), rfl, ?_, nd.dput _ _, ?_, ?_⟩
          · have := nd.len hr
            have := h.hi
            show s.length < 100000
            omega
          · intro x hx
            rcases mem_keys_dput.mp hx with rfl | hx
            · exact hin
            · exact hr x hx
          · intro x
            rw [dget_dput]
            by_cases hx : x = p
            · subst hx
              rw [if_pos rfl, if_pos ⟨by simp, hl⟩, hk]
              rfl
            · rw [if_neg hx, hs x]
              have e : x ∈ (pre ++ [(p, deeds)]).map (·.1) ↔ x ∈ pre.map (·.1) := by
                rw [List.map_append, List.mem_append]
                exact ⟨fun h => h.elim id fun h => absurd (List.mem_singleton.mp h) hx, .inl⟩
              simp only [e]
    · rintro s ⟨nd, hr, hs⟩
      refine ⟨s, rfl, nd, fun p => ?_⟩
      rw [hs p]
      by_cases hp : p ∈ (enumZ g).map (·.1)
      · cases G (rwg g) (inb goal) sT n p <;> simp [hp]
      · have : rwg g p = [] := by
          apply Classical.byContradiction
          intro z
          obtain ⟨a, b, _⟩ := rwg_mem z
          have h3 : p.toNat < g.length := by omega
          exact hp (List.mem_map.mpr ⟨(p, g[p.toNat]), mem_enumZ.mpr ⟨a, List.getElem?_eq_getElem h3⟩, rfl⟩)
        have : gi p = none := by show (rwg g p).findIdx? _ = none; rw [this]; rfl
        simp [this]
  · rintro c ⟨fresh, rfl, nd, hs⟩
    simp only [seqG_nx]
    have hl := hlen I
    have hi := h.hi
    cases hf : fresh with
    | nil =>
      refine ⟨by show found.length < 64; omega, ?_⟩
      refine Pg.bnd_of (Pg.dict_of (fun _ => true) id (fun y => (dget found y).getD (0, none)) (fun _ _ => rfl) (fun _ _ _ => rfl) (fun x hx _ => ?_)) ?_
      · have := mem_sortI.mp hx
        obtain ⟨v, e⟩ := Option.isSome_iff_exists.mp (dget_isSome.mpr this)
        refine ⟨v, e, ?_⟩
        show v = _
        rw [e]; rfl
      · rintro d rfl
        rw [filt_true]
        refine q _ ⟨?_, n, I.last hs hf, fun p => ?_⟩
        · show (List.map (·.1) ((sortI (found.map (·.1))).foldl (fun d x => dput d x ((dget found x).getD (0, none))) [])).Pairwise _
          have hn := sortI_lt I.nd
          rw [keys_puts (fun y => (dget found y).getD (0, none)) _ [] (nodup_of_lt hn) (by simp)]
          simpa using hn
        · show dget ((sortI (found.map (·.1))).foldl (fun d x => dput d x ((dget found x).getD (0, none))) []) p = _
          rw [dget_puts (fun y => (dget found y).getD (0, none)), ← I.get p]
          simp only [mem_sortI]
          cases hd : dget found p with
          | none => rw [if_neg (dget_none.mp hd)]; rfl
          | some v => rw [if_pos (dget_isSome.mp (by rw [hd]; rfl))]; rfl
    | cons x fr =>
      have I2 := I.next nd hs
      have hl2 := hlen I2
      rw [← hf]
      have hlt : found.length < (dputs found fresh).length := by
        have hx : x.1 ∈ fresh.map (·.1) := by rw [hf]; simp
        obtain ⟨v, e⟩ := Option.isSome_iff_exists.mp (dget_isSome.mpr hx)
        have hxn : x.1 ∉ found.map (·.1) := by
          intro z
          rw [hs, if_pos (I.key.mp z)] at e
          cases e
        have := nodup_len (l := x.1 :: found.map (fun z : Int × (Int × Option Int) => z.1)) (m := (dputs found fresh).map (fun z : Int × (Int × Option Int) => z.1)) (List.nodup_cons.mpr ⟨hxn, I.nd⟩) fun y hy => by
          rw [mem_keys_dputs]
          rcases List.mem_cons.mp hy with rfl | hy
          · exact .inl hx
          · exact .inr hy
        simp only [List.length_cons, List.length_map] at this
        omega
      have hfl : fresh.length ≤ g.length := nd.len fun p hp => by
        obtain ⟨v, e⟩ := Option.isSome_iff_exists.mp (dget_isSome.mpr hp)
        have : p ∈ (dputs found fresh).map (·.1) := (mem_keys_dputs _ _).mpr (.inl hp)
        exact G_I Y (I2.key.mp this)
      have hne : fresh.isEmpty = false := by rw [hf]; rfl
      rw [hne]
      refine ⟨by show found.length + fresh.length ≤ 100000; omega, ⟨n + 1, rfl, I2⟩, ?_⟩
      show 31 - (dputs found fresh).length < 31 - found.length
      omega
end K42

/-! M4: cyclic plans. -/
namespace K42
open PySem L2 Nz
theorem good_of {γ : Type} (ends kept : List Int) (near : List (Int × γ)) : (m_good_deed (ends, kept, near)).wp fun z => z = cT (fun q => decide (q ∈ kept)) (fun q => (dget near q).isSome) ends := by
  unfold m_good_deed
  refine Pg.out_of ?_
  simp only [Pg.comp_pure, Pg.pure_bnd, Pg.andG_pure, filt_true, List.all_map, List.any_map]
  rfl
def rS (S : Int → Bool) (rw : Rows) : Rows := fun p => if S p = true then rw p else []
def cb (S : Int → Bool) (b : Int → Bool) (p : Int) : Bool := b p && S p
def fN (v : Nat × Option Nat) : Int := (v.1 : Int)
section
variable {rw : Rows} {b : Int → Bool} {I : Int → Prop} {S : Int → Bool}
theorem res_in {t : Tst} : ∀ {n p}, G (rS S rw) (cb S b) t n p = true → S p = true
  | 0, p, h => by
    rw [G_zero] at h
    unfold cb at h
    rw [Bool.and_eq_true] at h
    exact h.2
  | n + 1, p, h => by
    rw [G_succ, Bool.or_eq_true] at h
    rcases h with h | h
    · exact res_in h
    · unfold rS at h
      split at h
      · rename_i q; exact q
      · cases h
theorem res_un : ∀ n p, G (rS S rw) (cb S b) (cT S) n p = true → G rw b (cT S) n p = true := fun n p h =>
  G_sub (P := fun _ => True) (fun p _ h => by unfold cb at h; rw [Bool.and_eq_true] at h; exact h.1) (fun n p _ ih q => by
    unfold rS at q
    split at q
    · obtain ⟨e, he, hc⟩ := List.any_eq_true.mp q
      obtain ⟨h1, x, hx, h2⟩ := cT_iff.mp hc
      exact List.any_eq_true.mpr ⟨e, he, cT_iff.mpr ⟨h1, x, hx, ih x trivial h2⟩⟩
    · cases q) n p trivial h
theorem res_closed {T : Int → Bool} (hT : Closed rw b I T) (hs : ∀ p, T p = true → S p = true) {p : Int} (hp : T p = true) : ∃ n, G (rS S rw) (cb S b) (cT S) n p = true := by
  obtain ⟨_, n, hn⟩ := hT p hp
  refine ⟨n, G_sub (P := fun p => T p = true) (fun p hp h => ?_) (fun n p hp ih q => ?_) n p hp hn⟩
  · unfold cb
    rw [h, hs p hp]; rfl
  · obtain ⟨e, he, hc⟩ := List.any_eq_true.mp q
    obtain ⟨h1, x, hx, h2⟩ := cT_iff.mp hc
    unfold rS
    rw [if_pos (hs p hp)]
    exact List.any_eq_true.mpr ⟨e, he, cT_iff.mpr ⟨fun y hy => hs y (h1 y hy), x, hx, ih x (h1 x hx) h2⟩⟩
theorem res_eq (Y : Sys rw b I) (g : Great rw b I S) : ∀ n p, V (rS S rw) (cb S b) (cT S) n p = V rw b (cT S) n p := by
  refine V_congr (fun p => ?_) fun n p _ hv => ?_
  · unfold cb
    cases h : b p with
    | false => rfl
    | true => rw [g.all Y (n := 0) (by rw [G_zero]; exact h)]; rfl
  · unfold rS
    split
    · rfl
    · rename_i hS
      symm
      rw [List.findIdx?_nil]
      refine List.findIdx?_eq_none_iff.mpr fun e he => ?_
      rw [← Bool.not_eq_true]
      intro q
      exact hS (g.all Y (n := n + 1) (by rw [G_succ, List.any_eq_true.mpr ⟨e, he, q⟩, Bool.or_true]))
end
theorem cyclic_of {g : Game} {goal : List Int} (h : OkG g) (hg : OkGoal g goal) {k : List (Int × Option Int) → Prop} (q : ∀ d S, Great (rwg g) (inb goal) (inR g) S → Plan (rwg g) (inb goal) (cT S) fC d → k d) : (m_cyclic_plan (g, goal)).wp k := by
  have Y := sys_of h hg
  have hi := h.hi
  unfold m_cyclic_plan
  refine Pg.out_of ?_
  refine check_of h ?_
  refine Pg.ask_of (by show -100000 ≤ (g.length : Int) ∧ (g.length : Int) ≤ 100000; omega) ?_
  simp only [Pg.pure_bnd]
  let Sk : List Int → Int → Bool := fun K p => decide (p ∈ K)
  refine Pg.bnd_of (p := fun c => ∃ K near N, c = Ctl.nx (K, near) ∧ K.Pairwise (· < ·) ∧ Great (rwg g) (inb goal) (inR g) (Sk K) ∧ RInv (rS (Sk K) (rwg g)) (cb (Sk K) (inb goal)) (cT (Sk K)) fN N near ∧ Stab (rS (Sk K) (rwg g)) (cb (Sk K) (inb goal)) (cT (Sk K)) N) ?_ ?_
  · refine Pg.whileb_of (fun K => K.Pairwise (· < ·) ∧ (∀ p ∈ K, inR g p) ∧ ∀ T, Closed (rwg g) (inb goal) (inR g) T → ∀ p, T p = true → p ∈ K) (fun K => K.length) ⟨?_, ?_, ?_⟩ ?_
    · unfold rg
      rw [List.pairwise_map]
      refine List.pairwise_iff_getElem.mpr fun i j hi hj hij => ?_
      rw [List.getElem_range, List.getElem_range]
      exact Int.ofNat_lt.mpr hij
    · intro p hp
      obtain ⟨i, hi, rfl⟩ := List.mem_map.mp hp
      have := List.mem_range.mp hi
      show 0 ≤ (i : Int) ∧ (i : Int) < _
      omega
    · intro T hT p hp
      have := (hT p hp).1
      refine List.mem_map.mpr ⟨p.toNat, List.mem_range.mpr ?_, ?_⟩ <;> omega
    · rintro K ⟨Kp, Kr, Kg⟩
      let S := Sk K
      let rw' := rS S (rwg g)
      let b' := cb S (inb goal)
      have hSK : ∀ {p}, S p = true ↔ p ∈ K := fun {p} => ⟨of_decide_eq_true, decide_eq_true⟩
      refine Pg.bnd_of (Pg.dict_of (fun y => decide (y ∈ K)) id (fun _ => (0 : Int)) (fun _ _ => rfl) (fun _ _ _ => rfl) (fun _ _ _ => rfl)) ?_
      intro d0 e0
      have hd0 : RInv rw' b' (cT S) fN 0 d0 := by
        subst e0
        refine ⟨ndk_puts (fun _ => (0 : Int)) _ [] List.nodup_nil, fun p => ?_⟩
        show dget ((goal.filter fun y => decide (y ∈ K)).foldl (fun d x => dput d x (0 : Int)) []) p = _
        rw [dget_puts (fun _ => (0 : Int))]
        unfold V
        have : (p ∈ goal.filter fun y => decide (y ∈ K)) ↔ b' p = true := by
          show _ ↔ (decide (p ∈ goal) && decide (p ∈ K)) = true
          rw [List.mem_filter, Bool.and_eq_true, decide_eq_true_eq, decide_eq_true_eq]
        simp only [this]
        by_cases hp : b' p = true <;> simp [hp, dget, fN]
      have hin : ∀ {n p}, G rw' b' (cT S) n p = true → p ∈ K := fun h => hSK.mp (res_in h)
      have hlen : ∀ {n d}, RInv rw' b' (cT S) fN n d → d.length ≤ g.length := fun I => I.nd.len fun p hp => Kr p (hin (I.key.mp hp))
      refine Pg.bnd_of (p := fun c => ∃ near steps isn N, c = Ctl.nx (near, steps, isn) ∧ RInv rw' b' (cT S) fN N near ∧ Stab rw' b' (cT S) N) ?_ ?_
      · refine Pg.while_of (fun s => ∃ n : Nat, s.2.1 = (n : Int) ∧ RInv rw' b' (cT S) fN n s.1 ∧ (s.2.2 = false → Stab rw' b' (cT S) n)) (fun s => 2 * (31 - s.1.length) + if s.2.2 = true then 1 else 0) (fun s => s.2.2) ⟨0, rfl, hd0, fun z => by cases z⟩ (fun _ _ => rfl) ?_ ?_
        · rintro ⟨near, steps, isn⟩ ⟨n, hn, I, -⟩ htv
          have hn : steps = (n : Int) := hn
          have htv : isn = true := htv
          subst hn htv
          have I : RInv rw' b' (cT S) fN n near := I
          simp only [Pg.pure_bnd]
          let fv : Nat → Int := fun k => fN (n + 1, some k)
          let gi : Int → Option Nat := fun p => (rw' p).findIdx? (cT S (G rw' b' (cT S) n))
          refine Pg.bnd_of (p := fun c => ∃ s, c = Ctl.nx s ∧ NdK s ∧ ∀ p, dget s p = if G rw' b' (cT S) n p = true then none else (gi p).map fv) ?_ ?_
          · refine Pg.forc_of (fun pre s => NdK s ∧ (∀ p ∈ s.map (·.1), p ∈ pre) ∧ ∀ p, dget s p = if p ∈ pre ∧ G rw' b' (cT S) n p = false then (gi p).map fv else none) ?_ ?_ ?_
            · exact ⟨List.nodup_nil, by simp, fun p => by simp [dget]⟩
            · rintro pre p post s e ⟨nd, hr, hs⟩
              have hpK : p ∈ K := by rw [e]; simp
              have hpR := Kr p hpK
              have hrw : rw' p = rwg g p := by show (if S p = true then _ else _) = _; rw [if_pos (hSK.mpr hpK)]
              refine Pg.bnd_of (p := fun z => z = (!G rw' b' (cT S) n p && (gi p).isSome)) (Pg.and_of (b1 := !G rw' b' (cT S) n p) (b2 := (gi p).isSome) ?_ fun _ => ?_) ?_
              · show _ = _
                rw [I.isSome]
              · refine Pg.opt_of (rwg_at hpR.1 hpR.2) ?_
                refine Pg.bnd_of (Pg.comp_of (fun _ => true) (fun e => cT S (G rw' b' (cT S) n) e) _ (fun _ _ => rfl) fun e he _ => Pg.bnd_of (good_of e K near) fun z hz => ?_) ?_
                · subst hz
                  show _ = _
                  congr 1
                  funext x
                  exact I.isSome x
                · rintro l rfl
                  show _ = _
                  rw [filt_true, List.any_map]
                  show _ = (List.findIdx? _ (rw' p)).isSome
                  rw [List.findIdx?_isSome, hrw]
                  rfl
              · rintro z rfl
                rw [iteG_pure]
                have sub : ∀ x ∈ pre, x ∈ pre ++ [p] := fun x hx => List.mem_append_left _ hx
                have other : ∀ x, x ≠ p → (x ∈ pre ++ [p] ↔ x ∈ pre) := fun x hx => by
                  rw [List.mem_append]
                  exact ⟨fun h => h.elim id fun h => absurd (List.mem_singleton.mp h) hx, .inl⟩
                have keep : gi p = none ∨ G rw' b' (cT S) n p = true → ∀ q, dget s q = if q ∈ pre ++ [p] ∧ G rw' b' (cT S) n q = false then (gi q).map fv else none := by
                  intro hc q
                  rw [hs q]
                  by_cases hq : q = p
                  · subst hq
                    rcases hc with hc | hc
                    · simp [hc]
                    · simp only [hc]; simp
                  · simp only [other q hq]
                cases hl : G rw' b' (cT S) n p with
                | true => exact ⟨nd, fun x hx => sub x (hr x hx), keep (.inr hl)⟩
                | false =>
                  cases hk : gi p with
                  | none => exact ⟨nd, fun x hx => sub x (hr x hx), keep (.inl hk)⟩
                  | some j =>
                    refine ⟨?_, nd.dput _ _, ?_, ?_⟩
                    · have := nd.len (N := g.length) fun x hx => Kr x (by rw [e]; exact List.mem_append_left _ (hr x hx))
                      show s.length < 100000
                      omega
                    · intro x hx
                      rcases mem_keys_dput.mp hx with rfl | hx
                      · simp
                      · exact sub x (hr x hx)
                    · intro x
                      rw [dget_dput]
                      by_cases hx : x = p
                      · subst hx
                        rw [if_pos rfl, if_pos ⟨by simp, hl⟩, hk]
                        rfl
                      · rw [if_neg hx, hs x]
                        simp only [other x hx]
            · rintro s ⟨nd, hr, hs⟩
              refine ⟨s, rfl, nd, fun p => ?_⟩
              rw [hs p]
              by_cases hp : p ∈ K
              · cases G rw' b' (cT S) n p <;> simp [hp]
              · have : gi p = none := by
                  show (rS S (rwg g) p).findIdx? _ = none
                  unfold rS
                  rw [if_neg fun z => hp (hSK.mp z)]
                  rfl
                simp [this]
          · rintro c ⟨fresh, rfl, nd, hs⟩
            simp only [seqG_nx]
            have I2 := I.next nd hs
            have hl := hlen I
            have hl2 := hlen I2
            have hfl : fresh.length ≤ g.length := nd.len fun p hp => Kr p (hin (I2.key.mp ((mem_keys_dputs _ _).mpr (.inl hp))))
            refine ⟨by show near.length + fresh.length ≤ 100000; omega, ⟨n + 1, rfl, I2, fun z => ?_⟩, ?_⟩
            · have e0 : fresh = [] := by
                have : ¬ (0 : Int) < (fresh.length : Int) := of_decide_eq_false z
                exact List.length_eq_zero_iff.mp (by omega)
              exact (I.last hs e0).le (Nat.le_succ n)
            · show 2 * (31 - (dputs near fresh).length) + (if decide ((0 : Int) < (fresh.length : Int)) = true then 1 else 0) < 2 * (31 - near.length) + 1
              cases hf : fresh with
              | nil => simp [dputs]
              | cons x fr =>
                rw [← hf]
                have hlt : near.length < (dputs near fresh).length := by
                  have hx : x.1 ∈ fresh.map (·.1) := by rw [hf]; simp
                  obtain ⟨v, e⟩ := Option.isSome_iff_exists.mp (dget_isSome.mpr hx)
                  have hxn : x.1 ∉ near.map (·.1) := by
                    intro z
                    rw [hs, if_pos (I.key.mp z)] at e
                    cases e
                  have := nodup_len (l := x.1 :: near.map (fun z : Int × Int => z.1)) (m := (dputs near fresh).map (fun z : Int × Int => z.1)) (List.nodup_cons.mpr ⟨hxn, I.nd⟩) fun y hy => by
                    rw [mem_keys_dputs]
                    rcases List.mem_cons.mp hy with rfl | hy
                    · exact .inl hx
                    · exact .inr hy
                  simp only [List.length_cons, List.length_map] at this
                  omega
                split <;> omega
        · rintro ⟨near, steps, isn⟩ ⟨n, hn, I, hst⟩ htv
          exact ⟨near, steps, isn, n, rfl, I, hst htv⟩
      · rintro c ⟨near, steps, isn, N, rfl, I, st⟩
        simp only [seqG_nx, Pg.ifG_pure]
        have hl := hlen I
        have sub : ∀ p ∈ near.map (·.1), p ∈ K := fun p hp => hin (I.key.mp hp)
        have Knd := nodup_of_lt Kp
        by_cases e : (near.length : Int) = (K.length : Int)
        · rw [if_pos (by exact decide_eq_true e)]
          have all : ∀ p ∈ K, p ∈ near.map (·.1) := nodup_sub_all (l := near.map fun z : Int × Int => z.1) I.nd sub Knd (by simp; omega)
          have cl : Closed (rwg g) (inb goal) (inR g) S := fun p hp => by
            have hp := hSK.mp hp
            exact ⟨Kr p hp, N, res_un N p (I.key.mp (all p hp))⟩
          exact ⟨K, near, N, rfl, Kp, ⟨cl, fun T hT p hp => hSK.mpr (Kg T hT p hp)⟩, I, st⟩
        · rw [if_neg (by exact fun z => e (of_decide_eq_true z))]
          refine ⟨by show near.length < 64; omega, ⟨sortI_lt I.nd, fun p hp => Kr p (sub p (mem_sortI.mp hp)), fun T hT p hp => ?_⟩, ?_⟩
          · obtain ⟨n, hn⟩ := res_closed hT (S := S) (fun p hp => hSK.mpr (Kg T hT p hp)) hp
            exact mem_sortI.mpr (I.key.mpr (st.g hn))
          · have h1 := nodup_len (l := near.map fun z : Int × Int => z.1) I.nd sub
            have h2 := (perm_sortI (near.map (·.1))).length_eq
            simp only [List.length_map] at h1 h2
            show (sortI (near.map (·.1))).length < K.length
            rw [h2]
            omega
  · rintro c ⟨K, near, N, rfl, Kp, gr, I, st⟩
    simp only [seqG_nx, Pg.pure_bnd]
    let S := Sk K
    have hSK : ∀ {p}, S p = true ↔ p ∈ K := fun {p} => ⟨of_decide_eq_true, decide_eq_true⟩
    have eV := res_eq Y gr
    have eG : ∀ n p, G (rS S (rwg g)) (cb S (inb goal)) (cT S) n p = G (rwg g) (inb goal) (cT S) n p := fun n p => by unfold G; rw [eV n p]
    have st' : Stab (rwg g) (inb goal) (cT S) N := fun m hm p => by rw [← eV, ← eV]; exact st m hm p
    have I' : RInv (rwg g) (inb goal) (cT S) fN N near := ⟨I.nd, fun p => by rw [I.get p, eV]⟩
    have allK : ∀ p, p ∈ K → ∃ r kk, V (rwg g) (inb goal) (cT S) N p = some (r, kk) := fun p hp => by
      obtain ⟨n, hn⟩ := (gr.cl p (hSK.mpr hp)).2
      exact V_of_G (st'.g hn)
    let vv : Int → Option Int := fun p => ((V (rwg g) (inb goal) (cT S) N p).map fC).getD none
    refine Pg.bnd_of (p := fun c => c = Ctl.nx (K.foldl (fun d x => dput d x (vv x)) [])) ?_ ?_
    · refine Pg.forc_fold (fun d x => dput d x (vv x)) (fun d => NdK d ∧ ∀ p ∈ d.map (·.1), inR g p) ⟨List.nodup_nil, by simp⟩ (fun p hp d J => ?_) rfl
      obtain ⟨r, kk, hv⟩ := allK p hp
      have hpR : inR g p := (gr.cl p (hSK.mpr hp)).1
      have hnp : dget near p = some (r : Int) := by rw [I'.get p, hv]; rfl
      refine ⟨⟨J.1.dput _ _, fun x hx => by
        rcases mem_keys_dput.mp hx with rfl | hx
        · exact hpR
        · exact J.2 x hx⟩, ?_⟩
      let tv : Int → Bool := fun o => decide ((dget near o).getD 0 < (r : Int))
      refine Pg.bnd_of (Pg.dict_of tv id (fun _ => true) (fun o ho => ?_) (fun _ _ _ => rfl) (fun _ _ _ => rfl)) ?_
      · obtain ⟨v, e⟩ := Option.isSome_iff_exists.mp (dget_isSome.mpr ho)
        refine ⟨v, e, r, hnp, ?_⟩
        show decide (v < (r : Int)) = decide ((dget near o).getD 0 < (r : Int))
        rw [e]; rfl
      · rintro ahead rfl
        refine Pg.opt_of (rwg_at hpR.1 hpR.2) ?_
        let A : List (Int × Bool) := ((near.map (·.1)).filter tv).foldl (fun d x => dput d x true) []
        refine Pg.bnd_of (Pg.comp_of (fun y : Int × List Int => cT S (fun o => (dget A o).isSome) y.2) (fun y => y.1) _ (fun y _ => Pg.bnd_of (good_of y.2 K A) fun z hz => ?_) (fun _ _ _ => rfl)) ?_
        · subst hz; rfl
        · rintro good rfl
          have hA : ∀ o, (dget A o).isSome = decide (o ∈ near.map (·.1) ∧ (dget near o).getD 0 < (r : Int)) := fun o => by
            show (dget (((near.map (·.1)).filter tv).foldl (fun d x => dput d x true) []) o).isSome = _
            rw [dget_puts (fun _ => true)]
            by_cases ho : o ∈ (near.map (·.1)).filter tv
            · rw [if_pos ho]
              have := List.mem_filter.mp ho
              rw [decide_eq_true ⟨this.1, of_decide_eq_true this.2⟩]
              rfl
            · rw [if_neg ho, decide_eq_false]
              · rfl
              · rintro ⟨h1, h2⟩
                exact ho (List.mem_filter.mpr ⟨h1, decide_eq_true h2⟩)
          have hvv : vv p = fC (r, kk) := by show ((V _ _ _ N p).map fC).getD none = _; rw [hv]; rfl
          obtain ⟨_, hvr, hlow, hz0, hzs⟩ := V_rank hv
          have hask : d.length < 100000 := by
            have := J.1.len J.2
            omega
          refine Pg.bnd_of (p := fun z => z = vv p) ?_ ?_
          · refine Pg.if_of (b := decide ((r : Int) = 0)) (Pg.opt_of hnp rfl) ?_
            cases r with
            | zero =>
              rw [if_pos (by simp)]
              show (none : Option Int) = vv p
              rw [hvv, (hz0 rfl).2]; rfl
            | succ m =>
              rw [if_neg (by simp; omega)]
              obtain ⟨j, rfl, hj⟩ := hzs m rfl
              have eA : (fun o => (dget A o).isSome) = G (rwg g) (inb goal) (cT S) m := funext fun o => by
                rw [hA]
                apply Bool.eq_iff_iff.mpr
                rw [decide_eq_true_eq]
                constructor
                · rintro ⟨h1, h2⟩
                  obtain ⟨⟨r', k'⟩, e'⟩ := Option.isSome_iff_exists.mp (I'.key.mp h1)
                  rw [I'.get o, e'] at h2
                  obtain ⟨_, e3, _⟩ := V_rank e'
                  have h2 : (r' : Int) < ((m + 1 : Nat) : Int) := h2
                  have : G (rwg g) (inb goal) (cT S) r' o = true := by unfold G; rw [e3]; rfl
                  exact G_mono this (by omega)
                · intro h1
                  obtain ⟨r', k', e'⟩ := V_of_G h1
                  have e2 := st'.some e'
                  refine ⟨I'.key.mpr (st'.g h1), ?_⟩
                  rw [I'.get o, e2]
                  have := (V_rank e').1
                  show (r' : Int) < ((m + 1 : Nat) : Int)
                  omega
              refine ⟨(j : Int), ?_, ?_⟩
              · rw [eA]
                have := enum_first (cT S (G (rwg g) (inb goal) (cT S) m)) (rwg g p)
                rw [hj] at this
                exact this
              · show some (j : Int) = vv p
                rw [hvv]; rfl
          · rintro z rfl
            exact ⟨hask, rfl⟩
    · rintro c rfl
      simp only [seqG_nx]
      refine q _ S gr ⟨?_, N, st', fun p => ?_⟩
      · rw [keys_puts vv K [] (nodup_of_lt Kp) (by simp)]
        simpa using Kp
      · rw [dget_puts vv]
        by_cases hp : p ∈ K
        · rw [if_pos hp]
          obtain ⟨r, kk, hv⟩ := allK p hp
          show some (((V _ _ _ N p).map fC).getD none) = _
          rw [hv]; rfl
        · rw [if_neg hp]
          cases hv : V (rwg g) (inb goal) (cT S) N p with
          | none => rfl
          | some v => exact (hp (hSK.mp (gr.all Y (n := N) (by unfold G; rw [hv]; rfl)))).elim
end K42

/-! M5: plans that are judged. -/
namespace K42
open PySem L2 Nz
abbrev DS := List (Int × (Int × Option Int))
abbrev DC := List (Int × Option Int)
def TS (g : Game) (goal : List Int) (d : DS) (x : Int × (Int × Option Int)) : Prop :=
  inR g x.1 ∧ 0 ≤ x.2.1 ∧ (x.2.1 = 0 → x.1 ∈ goal) ∧ (0 < x.2.1 → ∃ (j : Nat) (ends : List Int), (rwg g x.1)[j]? = some ends ∧ x.2.2 = some (j : Int) ∧ ∀ e ∈ ends, ∃ v, dget d e = some v ∧ v.1 < x.2.1)
theorem atI_nat {α : Type} (l : List α) (j : Nat) : atI l (j : Int) = l[j]? := by
  unfold atI ixN
  rw [if_pos (by omega)]
  by_cases h : (j : Int) < (l.length : Int)
  · rw [if_pos h]; rfl
  · rw [if_neg h]
    show none = _
    exact (List.getElem?_eq_none (by omega)).symm
theorem takes_strong_of {g : Game} {goal : List Int} {d : DS} (h : OkG g) (hd : ∀ x ∈ d, TS g goal d x) {k : Bool → Prop} (q : k true) : (m_takes_strong (g, goal, d)).wp k := by
  unfold m_takes_strong
  refine Pg.out_of ?_
  refine check_of h ?_
  refine Pg.forc_of (L := Empty) (k := fun c => (Pg.seqG (fun s2 => (pure (Ctl.rt true) : Pg (Ctl Bool Empty Unit))) c).wp _) (fun _ _ => True) trivial (fun pre x post s e _ => ?_) (fun s _ => q)
  have e : d = pre ++ x :: post := e
  obtain ⟨hR, h0, hz, hs⟩ := hd x (by rw [e]; simp)
  obtain ⟨p, st, dd⟩ := x
  simp only at hR h0 hz hs ⊢
  simp only [Pg.pure_bnd, Pg.andG_pure, Pg.orG_pure, Pg.ifG_pure, Bool.false_eq_true, if_false]
  have e1 : (!(decide (0 ≤ p) && decide (p < (g.length : Int))) || (decide (st < 0) || (decide (st = 0) && !decide (p ∈ goal)))) = false := by
    have a1 := hR.1
    have a2 : p < (g.length : Int) := hR.2
    have a3 : ¬ st < 0 := by omega
    by_cases z : st = 0
    · simp [a1, a2, z, hz z]
    · simp [a1, a2, a3, z]
  rw [e1, if_neg Bool.false_ne_true, iteG_pure]
  by_cases z : 0 < st
  · rw [if_pos (decide_eq_true z)]
    obtain ⟨j, ends, he, hdd, hv⟩ := hs z
    subst hdd
    refine Pg.bnd_of (p := fun c => c = Ctl.nx ()) ?_ (fun c hc => by subst hc; exact trivial)
    have hj : j < (rwg g p).length := (List.getElem?_eq_some_iff.mp he).1
    refine Pg.bnd_of (p := fun z => z = false) (Pg.or_of (b1 := false) (b2 := false) rfl fun _ => ⟨(j : Int), rfl, ?_⟩) ?_
    · refine Pg.bnd_of (Pg.and_of (b1 := true) (b2 := true) (by show decide _ = true; simp) fun _ => Pg.opt_of (rwg_at hR.1 hR.2) (by show decide _ = true; simpa using hj)) ?_
      rintro z rfl
      rfl
    · rintro z rfl
      rw [if_neg Bool.false_ne_true]
      refine Pg.opt_of (rwg_at hR.1 hR.2) (Pg.opt_of rfl (Pg.opt_of (by rw [atI_nat]; exact he) ?_))
      refine Pg.bnd_of (Pg.comp_of (fun _ => true) (fun _ => true) ends (fun _ _ => rfl) fun x hx _ => ?_) ?_
      · obtain ⟨v, e2, lt⟩ := hv x hx
        refine Pg.bnd_of (Pg.and_of (b1 := true) (b2 := true) (by show Option.isSome _ = true; rw [e2]; rfl) fun _ => Pg.opt_of e2 (by show decide _ = true; simpa using lt)) ?_
        rintro z rfl
        rfl
      · rintro l rfl
        have : ((List.filter (fun _ => true) ends).map fun _ => true).all id = true := by simp
        rw [this]
        rfl
  · rw [if_neg fun w => z (of_decide_eq_true w)]
    exact trivial
/-- where the deed of a plan may lead -/
def rwP (g : Game) (d : DC) (p : Int) : List (List Int) := match dget d p with
  | some (some o) => (atI (rwg g p) o).toList
  | _ => []
def bP (d : DC) (p : Int) : Bool := match dget d p with
  | some none => true
  | _ => false
def ChkC (g : Game) (goal : List Int) (d : DC) (x : Int × Option Int) : Prop :=
  inR g x.1 ∧ (x.2 = none → x.1 ∈ goal) ∧ ∀ o, x.2 = some o → 0 ≤ o ∧ ∃ ends, atI (rwg g x.1) o = some ends ∧ ∀ e ∈ ends, (dget d e).isSome = true
def TC (g : Game) (goal : List Int) (d : DC) : Prop := (∀ x ∈ d, ChkC g goal d x) ∧ ∀ p ∈ d.map (·.1), ∃ n, G (rwP g d) (bP d) anyT n p = true
theorem atI_lt {α : Type} {l : List α} {o : Int} (h0 : 0 ≤ o) : (∃ a, atI l o = some a) ↔ o < (l.length : Int) := by
  obtain ⟨j, rfl⟩ := Int.eq_ofNat_of_zero_le h0
  rw [atI_nat]
  constructor
  · rintro ⟨a, e⟩
    have := (List.getElem?_eq_some_iff.mp e).1
    omega
  · intro h
    exact ⟨l[j]'(by omega), List.getElem?_eq_getElem _⟩
theorem takes_cyclic_of {g : Game} {goal : List Int} {d : DC} (h : OkG g) (nd : NdK d) {k : Bool → Prop} (qT : TC g goal d → k true) (qF : ¬ TC g goal d → k false) : (m_takes_cyclic (g, goal, d)).wp k := by
  unfold m_takes_cyclic
  refine Pg.out_of ?_
  refine check_of h ?_
  refine Pg.bnd_of (p := fun c => match c with | .nx _ => ∀ x ∈ d, ChkC g goal d x | .rt b => b = false ∧ ¬ ∀ x ∈ d, ChkC g goal d x | _ => False) ?_ ?_
  · refine Pg.forc_of (fun pre _ => ∀ x ∈ pre, ChkC g goal d x) (by simp) (fun pre x post s e hpre => ?_) (fun s h => h)
    have e : d = pre ++ x :: post := e
    have hx : x ∈ d := by rw [e]; simp
    have no : ¬ ChkC g goal d x → ¬ ∀ x ∈ d, ChkC g goal d x := fun n a => n (a x hx)
    have yes : ChkC g goal d x → ∀ y ∈ pre ++ [x], ChkC g goal d y := fun c y hy => by
      rcases List.mem_append.mp hy with hy | hy
      · exact hpre y hy
      · rw [List.mem_singleton.mp hy]; exact c
    obtain ⟨p, dd⟩ := x
    simp only [Pg.pure_bnd, Pg.andG_pure, Pg.ifG_pure]
    by_cases hR : inR g p
    · have e1 : (!(decide (0 ≤ p) && decide (p < (g.length : Int)))) = false := by simp [hR.1, show p < (g.length : Int) from hR.2]
      rw [e1, if_neg Bool.false_ne_true, iteG_pure]
      have hat := rwg_at hR.1 hR.2
      cases dd with
      | none =>
        rw [if_pos (by rfl)]
        by_cases hg : p ∈ goal
        · have : (!decide (p ∈ goal)) = false := by simp [hg]
          rw [this]
          exact yes ⟨hR, fun _ => hg, fun o z => by cases z⟩
        · have : (!decide (p ∈ goal)) = true := by simp [hg]
          rw [this]
          exact ⟨rfl, no fun c => hg (c.2.1 rfl)⟩
      | some o =>
        rw [if_neg (by simp)]
        let v1 : Bool := decide (0 ≤ o) && decide (o < ((rwg g p).length : Int))
        let v2 : Bool := match atI (rwg g p) o with | some ends => ends.all fun e => (dget d e).isSome | none => false
        refine Pg.bnd_of (p := fun c => if (v1 && v2) = true then c = Ctl.nx () else c = Ctl.rt false) ?_ ?_
        · refine Pg.bnd_of (Pg.or_of (b1 := !v1) (b2 := !v2) (Pg.opt_of rfl ?_) fun hv => ?_) ?_
          · refine Pg.bnd_of (Pg.and_of (b1 := decide (0 ≤ o)) (b2 := decide (o < ((rwg g p).length : Int))) rfl fun _ => Pg.opt_of hat rfl) ?_
            rintro z rfl
            rfl
          · have hv : v1 = true := by cases q : v1 with
              | true => rfl
              | false => rw [q] at hv; cases hv
            have hv' := Bool.and_eq_true_iff.mp hv
            obtain ⟨ends, he⟩ := (atI_lt (l := rwg g p) (of_decide_eq_true hv'.1)).mpr (of_decide_eq_true hv'.2)
            refine Pg.opt_of hat (Pg.opt_of rfl (Pg.opt_of he ?_))
            rw [Pg.comp_pure, Pg.pure_bnd, filt_true, List.all_map]
            show _ = !v2
            have : v2 = ends.all fun e => (dget d e).isSome := by show (match atI (rwg g p) o with | some ends => ends.all fun e => (dget d e).isSome | none => false) = _; rw [he]
            rw [this]
            rfl
          · rintro z rfl
            cases v1 <;> cases v2 <;> rfl
        · intro c hc
          by_cases hv : (v1 && v2) = true
          · rw [if_pos hv] at hc
            subst hc
            obtain ⟨h1, h2⟩ := Bool.and_eq_true_iff.mp hv
            have h1' := Bool.and_eq_true_iff.mp h1
            refine yes ⟨hR, fun z => (by cases z), fun o' z => ?_⟩
            have z := Option.some.inj z
            subst z
            obtain ⟨ends, he⟩ := (atI_lt (l := rwg g p) (of_decide_eq_true h1'.1)).mpr (of_decide_eq_true h1'.2)
            refine ⟨of_decide_eq_true h1'.1, ends, he, ?_⟩
            have : v2 = ends.all fun e => (dget d e).isSome := by show (match atI (rwg g p) o with | some ends => ends.all fun e => (dget d e).isSome | none => false) = _; rw [he]
            rw [this] at h2
            exact List.all_eq_true.mp h2
          · rw [if_neg hv] at hc
            subst hc
            refine ⟨rfl, no fun c => hv ?_⟩
            obtain ⟨h0, ends, he, ha⟩ := c.2.2 o rfl
            have : v2 = ends.all fun e => (dget d e).isSome := by show (match atI (rwg g p) o with | some ends => ends.all fun e => (dget d e).isSome | none => false) = _; rw [he]
            rw [this, List.all_eq_true.mpr ha, Bool.and_true]
            show (decide (0 ≤ o) && decide (o < ((rwg g p).length : Int))) = true
            rw [decide_eq_true h0, decide_eq_true ((atI_lt h0).mp ⟨ends, he⟩)]
            rfl
    · have e1 : (!(decide (0 ≤ p) && decide (p < (g.length : Int)))) = true := by
        rw [Bool.not_eq_true', ← Bool.not_eq_true]
        intro z
        obtain ⟨a, b⟩ := Bool.and_eq_true_iff.mp z
        exact hR ⟨of_decide_eq_true a, of_decide_eq_true b⟩
      rw [e1]
      exact ⟨rfl, no fun c => hR c.1⟩
  · intro c hc
    cases c with
    | bk s => exact hc.elim
    | ct s => exact hc.elim
    | rt b =>
      obtain ⟨rfl, n⟩ := hc
      exact qF fun z => n z.1
    | nx s =>
      have hc : ∀ x ∈ d, ChkC g goal d x := hc
      rw [seqG_nx]
      have hk : ∀ p ∈ d.map (·.1), ∃ v, dget d p = some v := fun p hp => Option.isSome_iff_exists.mp (dget_isSome.mpr hp)
      have hlen : d.length ≤ g.length := nd.len fun p hp => by
        obtain ⟨x, hx, rfl⟩ := List.mem_map.mp hp
        exact (hc x hx).1
      have hi := h.hi
      refine Pg.bnd_of (Pg.comp_of (fun y => bP d y) id _ (fun y hy => ?_) (fun _ _ _ => rfl)) ?_
      · obtain ⟨v, e⟩ := hk y hy
        refine ⟨v, e, ?_⟩
        show v.isNone = bP d y
        unfold bP
        rw [e]
        cases v <;> rfl
      rintro far0 rfl
      simp only [Pg.pure_bnd]
      refine Pg.while_of (fun s => ∃ i : Nat, s.2 = (i : Int) ∧ i ≤ s.1.length ∧ s.1.Nodup ∧ (∀ p ∈ s.1, p ∈ d.map (·.1) ∧ ∃ n, G (rwP g d) (bP d) anyT n p = true) ∧ (∀ p ∈ d.map (·.1), bP d p = true → p ∈ s.1) ∧ ∀ j, j < i → ∀ p ∈ d.map (·.1), ∀ e ∈ rwP g d p, ∀ q ∈ e, s.1[j]? = some q → p ∈ s.1)
        (fun s => d.length + 1 - s.2.toNat) (fun s => decide (s.2 < (s.1.length : Int))) ⟨0, rfl, by omega, ?_, ?_, ?_, ?_⟩ (fun _ _ => rfl) ?_ ?_
      · rw [List.map_id]
        exact nd.filter _
      · intro p hp
        rw [List.map_id] at hp
        obtain ⟨h1, h2⟩ := List.mem_filter.mp hp
        exact ⟨h1, 0, by rw [G_zero]; exact h2⟩
      · intro p hp hb
        rw [List.map_id]
        exact List.mem_filter.mpr ⟨hp, hb⟩
      · intro j hj; omega
      · rintro ⟨far, at_⟩ ⟨i, hi', hil, hnd, hfar, hbase, hcl⟩ htv
        have hi' : at_ = (i : Int) := hi'
        subst hi'
        have hil : i < far.length := by have : (i : Int) < (far.length : Int) := of_decide_eq_true htv; omega
        have hfl : far.length ≤ d.length := by
          have := nodup_len (l := far) (m := d.map (·.1)) hnd fun p hp => (hfar p hp).1
          simpa using this
        let tl : Int → Bool := fun y => !decide (y ∈ far) && !bP d y
        refine Pg.bnd_of (Pg.comp_of tl id _ (fun y hy => ?_) (fun _ _ _ => rfl)) ?_
        · obtain ⟨v, e⟩ := hk y hy
          refine Pg.bnd_of (Pg.and_of (b1 := !decide (y ∈ far)) (b2 := !bP d y) rfl fun _ => Pg.opt_of e ?_) ?_
          · show v.isSome = !bP d y
            unfold bP
            rw [e]
            cases v <;> rfl
          · rintro z rfl
            rfl
        rintro left rfl
        simp only [Pg.pure_bnd]
        let tr : Int → Bool := fun y => (rwP g d y).any fun e => decide (far[i] ∈ e)
        refine Pg.bnd_of (Pg.comp_of tr id _ (fun y hy => ?_) (fun _ _ _ => rfl)) ?_
        · rw [List.map_id] at hy
          obtain ⟨hyk, hy2⟩ := List.mem_filter.mp hy
          obtain ⟨v, e⟩ := hk y hyk
          have hc' := hc (y, v) (dget_mem e)
          cases v with
          | none =>
            have : bP d y = true := by unfold bP; rw [e]
            rw [show tl y = (!decide (y ∈ far) && !bP d y) from rfl, this] at hy2
            simp at hy2
          | some o =>
            obtain ⟨_, ends, he, _⟩ := hc'.2.2 o rfl
            refine Pg.opt_of (a := far[i]) (by rw [atI_nat]; exact List.getElem?_eq_getElem hil) (Pg.opt_of (rwg_at hc'.1.1 hc'.1.2) (Pg.opt_of e (Pg.opt_of rfl (Pg.opt_of he ?_))))
            show decide (far[i] ∈ ends) = ((rwP g d y).any fun e => decide (far[i] ∈ e))
            unfold rwP
            rw [e]
            simp only [he, Option.toList, List.any_cons, List.any_nil, Bool.or_false]
        rintro l34 rfl
        rw [List.map_id, List.map_id]
        let L := (List.filter tl (d.map (·.1))).filter tr
        have hL : ∀ p, p ∈ L ↔ p ∈ d.map (·.1) ∧ p ∉ far ∧ bP d p = false ∧ tr p = true := fun p => by
          show p ∈ List.filter tr (List.filter tl _) ↔ _
          rw [List.mem_filter, List.mem_filter]
          show (_ ∧ (!decide (p ∈ far) && !bP d p) = true) ∧ _ ↔ _
          rw [Bool.and_eq_true, Bool.not_eq_true', decide_eq_false_iff_not, Bool.not_eq_true']
          exact ⟨fun ⟨⟨a, b, c⟩, e⟩ => ⟨a, b, c, e⟩, fun ⟨a, b, c, e⟩ => ⟨⟨a, b, c⟩, e⟩⟩
        have hnd2 : (far ++ L).Nodup := by
          rw [List.nodup_append]
          refine ⟨hnd, (nd.filter _).filter _, fun a ha b hb e => ?_⟩
          subst e
          exact ((hL a).mp hb).2.1 ha
        have hfar2 : ∀ p ∈ far ++ L, p ∈ d.map (·.1) ∧ ∃ n, G (rwP g d) (bP d) anyT n p = true := by
          intro p hp
          rcases List.mem_append.mp hp with hp | hp
          · exact hfar p hp
          · obtain ⟨a, _, _, ht⟩ := (hL p).mp hp
            obtain ⟨n, hn⟩ := (hfar far[i] (List.getElem_mem hil)).2
            obtain ⟨e, he, hm⟩ := List.any_eq_true.mp ht
            exact ⟨a, n + 1, by
              rw [G_succ, Bool.or_eq_true]
              exact .inr (List.any_eq_true.mpr ⟨e, he, List.any_eq_true.mpr ⟨_, of_decide_eq_true hm, hn⟩⟩)⟩
        have hfl2 : (far ++ L).length ≤ d.length := by
          have := nodup_len (l := far ++ L) (m := d.map (·.1)) hnd2 fun p hp => (hfar2 p hp).1
          simpa using this
        refine ⟨by show (far ++ L).length ≤ 100000; omega, ⟨i + 1, rfl, ?_, hnd2, hfar2, fun p hp hb => List.mem_append_left _ (hbase p hp hb), fun j hj p hp e he q hq hjq => ?_⟩, ?_⟩
        · show i + 1 ≤ (far ++ L).length
          rw [List.length_append]; omega
        · have hjf : j < far.length := by omega
          have hjq2 : (far ++ L)[j]? = some q := hjq
          rw [List.getElem?_append_left hjf] at hjq2
          clear hjq
          have hjq := hjq2
          show p ∈ far ++ L
          by_cases hji : j < i
          · exact List.mem_append_left _ (hcl j hji p hp e he q hq hjq)
          · have : j = i := by omega
            subst this
            by_cases hpf : p ∈ far
            · exact List.mem_append_left _ hpf
            · refine List.mem_append_right _ ((hL p).mpr ⟨hp, hpf, ?_, List.any_eq_true.mpr ⟨e, he, ?_⟩⟩)
              · cases hb : bP d p with
                | false => rfl
                | true => exact (hpf (hbase p hp hb)).elim
              · rw [List.getElem?_eq_getElem hil] at hjq
                rw [Option.some.inj hjq]
                exact decide_eq_true hq
        · show d.length + 1 - ((i : Int) + 1).toNat < d.length + 1 - (i : Int).toNat
          omega
      · rintro ⟨far, at_⟩ ⟨i, hi', hil, hnd, hfar, hbase, hcl⟩ htv
        have hi' : at_ = (i : Int) := hi'
        subst hi'
        have hil2 : i = far.length := by
          have := of_decide_eq_false htv
          have : ¬ (i : Int) < (far.length : Int) := this
          have : i ≤ far.length := hil
          omega
        have hall : ∀ n p, G (rwP g d) (bP d) anyT n p = true → p ∈ d.map (·.1) ∧ p ∈ far := by
          have hky : ∀ p, bP d p = true ∨ rwP g d p ≠ [] → p ∈ d.map (·.1) := by
            intro p hp
            rw [← dget_isSome]
            cases e : dget d p with
            | some v => rfl
            | none =>
              unfold bP rwP at hp
              rw [e] at hp
              simp at hp
          intro n
          induction n with
          | zero =>
            intro p hp
            rw [G_zero] at hp
            have := hky p (.inl hp)
            exact ⟨this, hbase p this hp⟩
          | succ n ih =>
            intro p hp
            rw [G_succ, Bool.or_eq_true] at hp
            rcases hp with hp | hp
            · exact ih p hp
            · obtain ⟨e, he, hc⟩ := List.any_eq_true.mp hp
              obtain ⟨x, hx, hG⟩ := List.any_eq_true.mp hc
              have hpk := hky p (.inr fun z => by rw [z] at he; cases he)
              obtain ⟨j, hj, hjx⟩ := List.mem_iff_getElem.mp (ih x hG).2
              exact ⟨hpk, hcl j (by omega) p hpk e he x hx (by show far[j]? = some x; rw [List.getElem?_eq_getElem hj, hjx])⟩
        show k (decide ((far.length : Int) = (d.length : Int)))
        by_cases hq : far.length = d.length
        · rw [decide_eq_true (by omega)]
          refine qT ⟨hc, fun p hp => ?_⟩
          have := nodup_sub_all (l := far) (m := d.map fun z : Int × Option Int => z.1) hnd (fun p hp => (hfar p hp).1) nd (by simp [hq]) p hp
          exact (hfar p this).2
        · rw [decide_eq_false (by omega)]
          refine qF fun z => hq ?_
          have h1 := nodup_len (l := far) (m := d.map (·.1)) hnd fun p hp => (hfar p hp).1
          have h2 := nodup_len (l := d.map fun z : Int × Option Int => z.1) (m := far) nd fun p hp => by
            obtain ⟨n, hn⟩ := z.2 p hp
            exact (hall n p hn).2
          simp only [List.length_map] at h1 h2
          omega
end K42

/-! M6: weak plans. -/
namespace K42
open PySem L2 Nz
abbrev encW : Way → PyData := fun xs => PyData.tuple (List.map (fun p => PyData.tuple [PyData.int p.1, PyData.int p.2]) xs)
abbrev encP : Int × Int → PyData := fun p => PyData.tuple [PyData.int p.1, PyData.int p.2]
theorem alikeP (a b : Int × Int) : PySem.W.alike (encP a) (encP b) = true := by simp [PySem.W.alike, PySem.W.alikeAll]
theorem alikeW : ∀ a b : Way, PySem.W.alikeAll (a.map encP) (b.map encP) = true
  | [], _ => rfl
  | _ :: _, [] => rfl
  | x :: a, y :: b => by
    rw [List.map_cons, List.map_cons, PySem.W.alikeAll, alikeP, alikeW a b]; rfl
theorem depthW (a : Way) : (encW a).depth ≤ 60 := by
  have : PyData.depthAll (a.map encP) ≤ 5 := by
    induction a with
    | nil => simp [PyData.depthAll]
    | cons x a ih =>
      rw [List.map_cons, PyData.depthAll]
      refine Nat.max_le.mpr ⟨?_, ih⟩
      simp [PyData.depth, PyData.depthAll]
  have e : (encW a).depth = PyData.depthAll (a.map encP) + 1 := by rw [PyData.depth]
  omega
theorem ndW (a : Way) : ndL (encW a) = true := by
  have : ndLs (a.map encP) = true := by
    induction a with
    | nil => rfl
    | cons x a ih =>
      rw [List.map_cons, ndLs, ih]
      rfl
  rw [ndL]
  exact this
theorem eqvP (a : Int × Int) : PyData.eqv (encP a) (encP a) = true := by simp [PyData.eqv, PyData.eqvAll]
theorem rowLt_pre (p a b : Way) : PySem.W.rowLt ((p ++ a).map encP) ((p ++ b).map encP) = PySem.W.rowLt (a.map encP) (b.map encP) := by
  induction p with
  | nil => rfl
  | cons x p ih =>
    rw [List.cons_append, List.cons_append, List.map_cons, List.map_cons]
    unfold PySem.W.rowLt
    rw [PySem.W.dataLt_cons (alikeP x x), if_pos (eqvP x)]
    exact ih
theorem rowLt_self (a : Way) : PySem.W.rowLt (a.map encP) (a.map encP) = false := by
  unfold PySem.W.rowLt
  exact PyProof.Rows.lex_irrefl _
theorem rowLt_not {a b : Way} (h : ltW a b) : PySem.W.rowLt (b.map encP) (a.map encP) = false := by
  obtain ⟨pre, x, y, s, s', rfl, rfl, q⟩ := h
  rw [rowLt_pre, List.map_cons, List.map_cons]
  unfold PySem.W.rowLt
  rw [PySem.W.dataLt_cons (alikeP y x)]
  have hne : ¬ (y.1 = x.1 ∧ y.2 = x.2) := by
    unfold ltP at q
    omega
  have e1 : PyData.eqv (encP y) (encP x) = false := by
    rw [← Bool.not_eq_true]
    intro z
    simp [PyData.eqv, PyData.eqvAll] at z
    exact hne z
  rw [e1, if_neg Bool.false_ne_true, PySem.W.dataLt_ii]
  unfold ltP at q
  exact decide_eq_false (by omega)
theorem keyLe_of {x y : Int × Way} (h : ltL x y) : keyLe encW x y = true := by
  unfold keyLe
  rw [PySem.W.dataLe_eq]
  show (!PySem.W.dataLt (encW y.2) (encW x.2)) = true
  rw [PySem.W.dataLt_tuple]
  show (!PySem.W.rowLt (y.2.map encP) (x.2.map encP)) = true
  rcases h with h | ⟨e, _⟩
  · rw [rowLt_not h]; rfl
  · rw [e, rowLt_self]; rfl
theorem sort_id {l : Lv} (h : l.Pairwise ltL) : List.mergeSort l (keyLe encW) = l := List.mergeSort_of_pairwise (h.imp fun h => keyLe_of h)
structure SR (g : Game) (sn : List Int × Lv) (st : List (Int × Bool) × Lv) : Prop where
  key : ∀ o, (dget st.1 o).isSome = decide (o ∈ sn.1)
  nd : NdK st.1
  fr : st.2 = sn.2
  snd : sn.1.Nodup
  rng : ∀ o ∈ sn.1, inR g o
  le : sn.2.length ≤ sn.1.length
theorem lv_grow {rw : Rows} {start : Int} : ∀ n, (lv rw start n).2 ≠ [] → n + 1 ≤ (lv rw start n).1.length
  | 0, _ => by simp [lv]
  | n + 1, h => by
    have h0 : (lv rw start n).2 ≠ [] := fun q => h (lv_empty q (Nat.le_succ n))
    have ih := lv_grow n h0
    obtain ⟨l, b1, b2, b3, b4, b5, _⟩ := adds_sub (cs := cands rw (lv rw start n).2) (s := ((lv rw start n).1, []))
    have e2 : (lv rw start (n + 1)).2 = [] ++ l := b2
    have e3 : (lv rw start (n + 1)).1 = (lv rw start n).1 ++ l.map (·.1) := b3
    rw [e2] at h
    rw [e3, List.length_append, List.length_map]
    have : 0 < l.length := List.length_pos_iff.mpr (by simpa using h)
    omega
theorem len_rng {l : List Int} {N : Nat} (h : l.Nodup) (s : ∀ p ∈ l, 0 ≤ p ∧ p < (N : Int)) : l.length ≤ N := by
  have := nodup_len (l := l) (m := (List.range N).map fun i => ((i : Nat) : Int)) h fun x hx => by
    have := s x hx
    exact List.mem_map.mpr ⟨x.toNat, List.mem_range.mpr (by omega), by omega⟩
  simpa using this
theorem weak_of {g : Game} {goal : List Int} {start : Int} (h : OkG g) (hs : inR g start) {k : Option Way → Prop} (q : ∀ r, WkR (rwg g) (inb goal) start r → k r) : (m_weak_plan (g, start, goal)).wp k := by
  have hi := h.hi
  have ok : RowsOk (rwg g) := fun p e he => (h.ok _ (rwg_mem fun q => by rw [q] at he; cases he).2.2 e he).2.2
  have eI : ∀ p, ∀ e ∈ rwg g p, ∀ q ∈ e, inR g q := fun p e he q hq => (h.ok _ (rwg_mem fun q => by rw [q] at he; cases he).2.2 e he).2.1 q hq
  have lvR : ∀ n, ∀ o ∈ (lv (rwg g) start n).1, inR g o := by
    intro n
    induction n with
    | zero => intro o ho; simp [lv] at ho; subst ho; exact hs
    | succ n ih =>
      intro o ho
      rcases (lv_seen_step n).2.2 o ho with ho | ⟨x, hx, e⟩
      · exact ih o ho
      · obtain ⟨l, b1, b2, _⟩ := adds_sub (cs := cands (rwg g) (lv (rwg g) start n).2) (s := ((lv (rwg g) start n).1, []))
        have e2 : (lv (rwg g) start (n + 1)).2 = [] ++ l := b2
        rw [e2, List.nil_append] at hx
        obtain ⟨y, hy, i, en, he, hm, _⟩ := mem_cands.mp (b1.subset hx)
        subst e
        exact eI y.1 en (List.mem_of_getElem? he) x.1 hm
  unfold m_weak_plan
  refine Pg.out_of ?_
  refine check_of h ?_
  refine Pg.ask_of (by show 0 ≤ 100000; omega) (Pg.ask_of (by show 1 ≤ 100000; omega) ?_)
  simp only [Pg.pure_bnd]
  refine Pg.bnd_of (p := fun c => match c with | .nx _ => WkR (rwg g) (inb goal) start none | .rt r => WkR (rwg g) (inb goal) start r | _ => False) ?_ ?_
  · refine Pg.while_of (fun s => ∃ n : Nat, s.1 = (lv (rwg g) start n).2 ∧ (∀ o, (dget s.2 o).isSome = decide (o ∈ (lv (rwg g) start n).1)) ∧ NdK s.2 ∧ ∀ m, m < n → (lv (rwg g) start m).2 ≠ [] ∧ ∀ x ∈ (lv (rwg g) start m).2, inb goal x.1 = false)
      (fun s => 2 * (31 - s.2.length) + if s.1.isEmpty = true then 0 else 1) (fun s => !s.1.isEmpty) ⟨0, rfl, ?_, ?_, fun m hm => by omega⟩ (fun _ _ => rfl) ?_ ?_
    · intro o
      show (dget [(start, true)] o).isSome = decide (o ∈ [start])
      by_cases e : start = o
      · subst e; simp [dget]
      · have e' : ¬ o = start := fun q => e q.symm
        simp [dget, e, e']
    · show ([start] : List Int).Nodup
      simp
    · rintro ⟨level, seen⟩ ⟨n, hl, hsn, nd, hbel⟩ htv
      have hl : level = (lv (rwg g) start n).2 := hl
      have htv : (!level.isEmpty) = true := htv
      have hne : (lv (rwg g) start n).2 ≠ [] := by
        intro z
        rw [hl, z] at htv
        cases htv
      subst hl
      have LO := lv_ok ok start n
      refine Pg.bnd_of (p := fun c => match c with | .nx _ => ∀ x ∈ (lv (rwg g) start n).2, inb goal x.1 = false | .rt r => WkR (rwg g) (inb goal) start r | _ => False) ?_ ?_
      · refine Pg.forc_of (fun pre _ => ∀ x ∈ pre, inb goal x.1 = false) (by simp) (fun pre x post s e hpre => ?_) (fun s h => h)
        have e : (lv (rwg g) start n).2 = pre ++ x :: post := e
        rw [Pg.ifG_pure]
        cases hx : inb goal x.1 with
        | true =>
          have hx' : decide (x.1 ∈ goal) = true := hx
          rw [if_pos hx']
          refine ⟨n, hbel, .inr ⟨x, ?_, rfl⟩⟩
          rw [e, List.find?_append]
          have : pre.find? (fun x => inb goal x.1) = none := List.find?_eq_none.mpr fun y hy => by rw [hpre y hy]; exact Bool.false_ne_true
          rw [this, Option.none_or, List.find?_cons, hx]
        | false =>
          have hx' : ¬ decide (x.1 ∈ goal) = true := by have : decide (x.1 ∈ goal) = false := hx; rw [this]; exact Bool.false_ne_true
          rw [if_neg hx']
          intro y hy
          rcases List.mem_append.mp hy with hy | hy
          · exact hpre y hy
          · rw [List.mem_singleton.mp hy]; exact hx
      · intro c hc
        cases c with
        | bk s => exact hc.elim
        | ct s => exact hc.elim
        | rt r => exact hc
        | nx s =>
          have hng : ∀ x ∈ (lv (rwg g) start n).2, inb goal x.1 = false := hc
          rw [seqG_nx]
          have grow := lv_grow n hne
          have nle : n + 1 ≤ 30 := by
            have := len_rng LO.nd (lvR n)
            omega
          refine Pg.bnd_of (p := fun c => ∃ st, c = Ctl.nx st ∧ SR g (nxt (rwg g) (lv (rwg g) start n)) st) ?_ ?_
          · have h0 : SR g ((lv (rwg g) start n).1, []) (seen, []) := ⟨hsn, nd, rfl, LO.nd, lvR n, by simp⟩
            refine Pg.forc_of (fun pre st => SR g ((pre.flatMap (kids (rwg g))).foldl add ((lv (rwg g) start n).1, [])) st) h0 (fun pre x post s e I => ?_) (fun s I => ⟨s, rfl, I⟩)
            have hx : x ∈ (lv (rwg g) start n).2 := by
              have e : (lv (rwg g) start n).2 = pre ++ x :: post := e
              rw [e]; simp
            have hxR : inR g x.1 := lvR n x.1 (LO.sub x hx)
            have hxl : x.2.length = n := LO.len x hx
            refine Pg.opt_of (rwg_at hxR.1 hxR.2) ?_
            refine Pg.bnd_of (p := fun c => ∃ st, c = Ctl.nx st ∧ SR g (((pre ++ [x]).flatMap (kids (rwg g))).foldl add ((lv (rwg g) start n).1, [])) st) ?_ (fun c hc => by obtain ⟨st, rfl, I⟩ := hc; exact I)
            let s1 := (pre.flatMap (kids (rwg g))).foldl add ((lv (rwg g) start n).1, [])
            let ch : Int × List Int → Lv := fun ke => ke.2.map fun o => (o, x.2 ++ [(x.1, ke.1)])
            have e1 : ((pre ++ [x]).flatMap (kids (rwg g))).foldl add ((lv (rwg g) start n).1, []) = ((enumZ (rwg g x.1)).flatMap ch).foldl add s1 := by
              rw [List.flatMap_append, List.foldl_append, List.flatMap_cons, List.flatMap_nil, List.append_nil]
              rfl
            rw [e1]
            refine Pg.forc_of (fun pre st => SR g ((pre.flatMap ch).foldl add s1) st) I (fun pre2 ke post2 s e I => ?_) (fun s I => ⟨s, rfl, I⟩)
            have hke : ke ∈ enumZ (rwg g x.1) := by rw [e]; simp
            have hke2 : ke.2 ∈ rwg g x.1 := List.mem_of_getElem? (mem_enumZ.mp hke).2
            refine Pg.bnd_of (p := fun c => ∃ st, c = Ctl.nx st ∧ SR g (((pre2 ++ [ke]).flatMap ch).foldl add s1) st) ?_ (fun c hc => by obtain ⟨st, rfl, I⟩ := hc; exact I)
            let s2 := (pre2.flatMap ch).foldl add s1
            have e2 : ((pre2 ++ [ke]).flatMap ch).foldl add s1 = (ke.2.map fun o => (o, x.2 ++ [(x.1, ke.1)])).foldl add s2 := by
              rw [List.flatMap_append, List.foldl_append, List.flatMap_cons, List.flatMap_nil, List.append_nil]
            rw [e2]
            refine Pg.forc_of (fun pre st => SR g ((pre.map fun o => (o, x.2 ++ [(x.1, ke.1)])).foldl add s2) st) I (fun pre3 o post3 s e I => ?_) (fun s I => ⟨s, rfl, I⟩)
            have ho : inR g o := eI x.1 ke.2 hke2 o (by rw [e]; simp)
            rw [List.map_append, List.foldl_append]
            show Pg.wp _ _
            rw [iteG_pure]
            let s3 := (pre3.map fun o => (o, x.2 ++ [(x.1, ke.1)])).foldl add s2
            have I : SR g s3 s := I
            rw [show List.foldl add ((pre3.map fun o => (o, x.2 ++ [(x.1, ke.1)])).foldl add s2) ([o].map fun o => (o, x.2 ++ [(x.1, ke.1)])) = add s3 (o, x.2 ++ [(x.1, ke.1)]) from rfl]
            have hk := I.key o
            have hl3 : s3.1.length ≤ g.length := len_rng I.snd I.rng
            by_cases hin : o ∈ s3.1
            · rw [decide_eq_true hin] at hk
              rw [hk, if_neg (by simp)]
              have : add s3 (o, x.2 ++ [(x.1, ke.1)]) = s3 := if_pos hin
              rw [this]
              exact I
            · rw [decide_eq_false hin] at hk
              rw [hk, if_pos (by simp)]
              have e3 : add s3 (o, x.2 ++ [(x.1, ke.1)]) = (s3.1 ++ [o], s3.2 ++ [(o, x.2 ++ [(x.1, ke.1)])]) := if_neg hin
              rw [e3]
              have hsl : s.1.length ≤ g.length := I.nd.len fun p hp => I.rng p (by
                have := dget_isSome.mpr hp
                rw [I.key] at this
                exact of_decide_eq_true this)
              have hfl : s.2.length ≤ s3.1.length := by rw [I.fr]; exact I.le
              refine ⟨by show s.1.length < 100000; omega, by show 1 ≤ 100000; omega, ?_, by show s.2.length < 100000; omega, ⟨?_, I.nd.dput _ _, ?_, ?_, ?_, ?_⟩⟩
              · show (x.2 ++ [(x.1, ke.1)]).length ≤ 100000
                rw [List.length_append, hxl]
                show n + 1 ≤ 100000
                omega
              · intro z
                show (dget (dput s.1 o true) z).isSome = decide (z ∈ s3.1 ++ [o])
                rw [dget_dput]
                by_cases hz : z = o
                · subst hz; simp
                · rw [if_neg hz, I.key]
                  simp [hz]
              · show s.2 ++ _ = s3.2 ++ _
                rw [I.fr]
              · show (s3.1 ++ [o]).Nodup
                rw [List.nodup_append]
                exact ⟨I.snd, by simp, fun a ha b hb e => hin (by simp at hb; rw [← hb, ← e]; exact ha)⟩
              · intro z hz
                rcases List.mem_append.mp hz with hz | hz
                · exact I.rng z hz
                · rw [List.mem_singleton.mp hz]; exact ho
              · show (s3.2 ++ [_]).length ≤ (s3.1 ++ [o]).length
                rw [List.length_append, List.length_append]
                have := I.le
                simp only [List.length_cons, List.length_nil]
                omega
          · rintro c ⟨⟨sn2, fr2⟩, rfl, I⟩
            rw [seqG_nx]
            have hfr : fr2 = (lv (rwg g) start (n + 1)).2 := I.fr
            have LO2 := lv_ok ok start (n + 1)
            have pw := LO2.pw
            rw [← hfr] at pw
            refine Pg.ask_of ⟨?_, ?_, ?_⟩ ?_
            · intro d hd d' hd'
              obtain ⟨x, _, rfl⟩ := List.mem_map.mp hd
              obtain ⟨y, _, rfl⟩ := List.mem_map.mp hd'
              show PySem.W.alike (encW x.2) (encW y.2) = true
              rw [PySem.W.alike]
              exact alikeW _ _
            · left
              intro d hd
              obtain ⟨x, hx, rfl⟩ := List.mem_map.mp hd
              have hx : x ∈ fr2 := hx
              rw [hfr] at hx
              have hl := LO2.len x hx
              cases hw : x.2 with
              | nil => rw [hw] at hl; cases hl
              | cons c w => exact ⟨_, _, rfl⟩
            · intro x _
              exact ⟨ndW x.2, depthW x.2⟩
            · have hsort : List.mergeSort fr2 (keyLe encW) = fr2 := sort_id pw
              suffices hh : ∀ z, z = fr2 → (pure (Ctl.nx (z, sn2)) : Pg (Ctl (Option Way) (Lv × List (Int × Bool)) (Lv × List (Int × Bool)))).wp _ from hh _ hsort
              intro z hz
              rw [hz]
              clear hz z
              refine ⟨⟨n + 1, hfr, I.key, I.nd, fun m hm => ?_⟩, ?_⟩
              · by_cases z : m < n
                · exact hbel m z
                · have : m = n := by omega
                  subst this
                  exact ⟨hne, hng⟩
              · show 2 * (31 - sn2.length) + (if fr2.isEmpty = true then 0 else 1) < 2 * (31 - seen.length) + (if (lv (rwg g) start n).2.isEmpty = true then 0 else 1)
                have e0 : (lv (rwg g) start n).2.isEmpty = false := by
                  cases hq : (lv (rwg g) start n).2 with
                  | nil => exact (hne hq).elim
                  | cons _ _ => rfl
                rw [e0]
                have l1 : seen.length ≤ g.length := nd.len fun p hp => lvR n p (by
                  have := dget_isSome.mpr hp
                  rw [hsn] at this
                  exact of_decide_eq_true this)
                have sub : ∀ p ∈ seen.map (fun z : Int × Bool => z.1), p ∈ sn2.map (fun z : Int × Bool => z.1) := fun p hp => by
                  have h1 := dget_isSome.mpr hp
                  rw [hsn] at h1
                  have h2 := (lv_seen_step n).1 p (of_decide_eq_true h1)
                  refine dget_isSome.mp ?_
                  have := I.key p
                  rw [this]
                  exact decide_eq_true h2
                have l2 := nodup_len (l := seen.map (fun z : Int × Bool => z.1)) (m := sn2.map (fun z : Int × Bool => z.1)) nd sub
                simp only [List.length_map] at l2
                cases hq : fr2 with
                | nil =>
                  rw [if_pos (by rfl), if_neg Bool.false_ne_true]
                  omega
                | cons x fr =>
                  have hx : x ∈ (lv (rwg g) start (n + 1)).2 := by rw [← hfr, hq]; simp
                  have hxn : x.1 ∉ seen.map (fun z : Int × Bool => z.1) := fun z => by
                    have h1 := dget_isSome.mpr z
                    rw [hsn] at h1
                    obtain ⟨l, b1, b2, b3, b4, _⟩ := adds_sub (cs := cands (rwg g) (lv (rwg g) start n).2) (s := ((lv (rwg g) start n).1, []))
                    have e2 : (lv (rwg g) start (n + 1)).2 = [] ++ l := b2
                    rw [e2, List.nil_append] at hx
                    exact b4 x hx (of_decide_eq_true h1)
                  have hxi : x.1 ∈ sn2.map (fun z : Int × Bool => z.1) := dget_isSome.mp (by
                    have := I.key x.1
                    rw [this]
                    exact decide_eq_true (lv_sub start (n + 1) x hx))
                  have l3 := nodup_len (l := x.1 :: seen.map (fun z : Int × Bool => z.1)) (m := sn2.map (fun z : Int × Bool => z.1)) (List.nodup_cons.mpr ⟨hxn, nd⟩) (fun p hp => by
                    rcases List.mem_cons.mp hp with rfl | hp
                    · exact hxi
                    · exact sub p hp)
                  simp only [List.length_cons, List.length_map] at l3
                  rw [if_neg (by simp), if_neg Bool.false_ne_true]
                  omega
    · rintro ⟨level, seen⟩ ⟨n, hl, hsn, nd, hbel⟩ htv
      have hl : level = (lv (rwg g) start n).2 := hl
      refine ⟨n, hbel, .inl ⟨?_, rfl⟩⟩
      rw [← hl]
      cases level with
      | nil => rfl
      | cons _ _ => cases htv
  · intro c hc
    cases c with
    | bk s => exact hc.elim
    | ct s => exact hc.elim
    | rt r => exact q r hc
    | nx s => exact q none hc
end K42

/-! M7: a place behind each deed. -/
namespace K42
open PySem L2 Nz
def off (g : Game) (p : Nat) : Nat := ((g.take p).flatten).length
def atN (g : Game) (p : Int) (k : Nat) : Int := ((g.length + (off g p.toNat + k) : Nat) : Int)
def rowN (g : Game) (p : Nat) : List (List Int) := ((g[p]?).getD [])
def spl (g : Game) : Game := ((List.range g.length).map fun p => (List.range (rowN g p).length).map fun k => [atN g (p : Int) k]) ++ g.flatten.map fun e => [e]
theorem off_succ (g : Game) (p : Nat) : off g (p + 1) = off g p + (rowN g p).length := by
  unfold off rowN
  rw [List.take_succ, List.flatten_append, List.length_append]
  cases g[p]? <;> simp
theorem off_mono (g : Game) {p q : Nat} (h : p ≤ q) : off g p ≤ off g q := by
  induction h with
  | refl => exact Nat.le_refl _
  | step _ ih => rw [off_succ]; omega
theorem off_all (g : Game) : off g g.length = g.flatten.length := by unfold off; rw [List.take_length]
theorem flat_get : ∀ (g : Game) (p k : Nat), k < (rowN g p).length → g.flatten[off g p + k]? = (rowN g p)[k]?
  | [], p, k, h => by simp [rowN] at h
  | r :: g, 0, k, h => by
    have e : rowN (r :: g) 0 = r := rfl
    rw [e] at h ⊢
    have e2 : off (r :: g) 0 = 0 := rfl
    rw [e2, Nat.zero_add, List.flatten_cons, List.getElem?_append_left h]
  | r :: g, p + 1, k, h => by
    have e : rowN (r :: g) (p + 1) = rowN g p := by unfold rowN; rw [List.getElem?_cons_succ]
    rw [e] at h ⊢
    have e2 : off (r :: g) (p + 1) = r.length + off g p := by unfold off; rw [List.take_succ_cons, List.flatten_cons, List.length_append]
    rw [e2, List.flatten_cons, List.getElem?_append_right (by omega)]
    rw [show r.length + off g p + k - r.length = off g p + k by omega]
    exact flat_get g p k h
theorem flat_sur : ∀ (g : Game) (j : Nat), j < g.flatten.length → ∃ p k, k < (rowN g p).length ∧ j = off g p + k
  | [], j, h => by simp at h
  | r :: g, j, h => by
    by_cases hj : j < r.length
    · exact ⟨0, j, hj, by have : off (r :: g) 0 = 0 := rfl; omega⟩
    · rw [List.flatten_cons, List.length_append] at h
      obtain ⟨p, k, hk, e⟩ := flat_sur g (j - r.length) (by omega)
      refine ⟨p + 1, k, ?_, ?_⟩
      · have e : rowN (r :: g) (p + 1) = rowN g p := by unfold rowN; rw [List.getElem?_cons_succ]
        rw [e]; exact hk
      · have e2 : off (r :: g) (p + 1) = r.length + off g p := by unfold off; rw [List.take_succ_cons, List.flatten_cons, List.length_append]
        omega
theorem rwg_row {g : Game} {p : Int} (h : 0 ≤ p) : rwg g p = rowN g p.toNat := by unfold rwg; rw [if_pos h]; rfl
theorem rowN_lt {g : Game} {p k : Nat} (h : k < (rowN g p).length) : p < g.length := by
  apply Classical.byContradiction
  intro q
  unfold rowN at h
  rw [List.getElem?_eq_none (by omega)] at h
  simp at h
theorem off_lt {g : Game} {p k : Nat} (h : k < (rowN g p).length) : off g p + k < g.flatten.length := by
  have h1 := rowN_lt h
  have h2 := off_mono g (show p + 1 ≤ g.length by omega)
  rw [off_succ, off_all] at h2
  omega
theorem spl_len (g : Game) : (spl g).length = g.length + g.flatten.length := by unfold spl; rw [List.length_append, List.length_map, List.length_range, List.length_map]
theorem spl_base {g : Game} {p : Int} (h : inR g p) : rwg (spl g) p = (List.range (rwg g p).length).map fun k => [atN g p k] := by
  have h2 : p.toNat < g.length := by have := h.2; omega
  rw [rwg_row h.1, rwg_row h.1]
  show ((spl g)[p.toNat]?).getD [] = _
  unfold spl
  rw [List.getElem?_append_left (by simpa using h2), List.getElem?_map, List.getElem?_range h2]
  show (List.range (rowN g p.toNat).length).map (fun k => [atN g ((p.toNat : Nat) : Int) k]) = _
  rw [Int.toNat_of_nonneg h.1]
theorem spl_mid {g : Game} {p : Int} {k : Nat} (h : 0 ≤ p) (hk : k < (rwg g p).length) : rwg (spl g) (atN g p k) = [(rwg g p)[k]] := by
  have hk' : k < (rowN g p.toNat).length := by rw [← rwg_row h]; exact hk
  have e1 : (atN g p k).toNat = g.length + (off g p.toNat + k) := by unfold atN; rw [Int.toNat_natCast]
  rw [rwg_row (by unfold atN; omega)]
  show ((spl g)[_]?).getD [] = _
  rw [e1]
  unfold spl
  rw [List.getElem?_append_right (by simp), List.getElem?_map]
  simp only [List.length_map, List.length_range]
  rw [show g.length + (off g p.toNat + k) - g.length = off g p.toNat + k by omega, flat_get g _ k hk', List.getElem?_eq_getElem hk']
  show [(rowN g p.toNat)[k]] = _
  congr 1
  have : rwg g p = rowN g p.toNat := rwg_row h
  simp only [this]
theorem atN_inj {g : Game} {p p' : Int} {k k' : Nat} (h : 0 ≤ p) (h' : 0 ≤ p') (hk : k < (rwg g p).length) (hk' : k' < (rwg g p').length) (e : atN g p k = atN g p' k') : p = p' ∧ k = k' := by
  rw [rwg_row h] at hk
  rw [rwg_row h'] at hk'
  unfold atN at e
  have e : off g p.toNat + k = off g p'.toNat + k' := by omega
  have key : ∀ {a b i j : Nat}, i < (rowN g a).length → off g a + i = off g b + j → ¬ a < b := by
    intro a b i j hi e hab
    have := off_mono g (show a + 1 ≤ b by omega)
    rw [off_succ] at this
    omega
  have h1 := key hk e
  have h2 := key hk' e.symm
  have h3 : p.toNat = p'.toNat := by omega
  rw [h3] at e
  exact ⟨by omega, by omega⟩
theorem two_of {g : Game} {goal : List Int} (h : OkG g) (hg : OkGoal g goal) : Two (rwg g) (rwg (spl g)) (inb goal) (inb goal) (inR g) (atN g) where
  hb := fun _ _ => rfl
  hb0 := fun p k _ _ => by
    refine decide_eq_false fun q => ?_
    have := (hg.ok _ q).2
    unfold atN at this
    omega
  row := fun p hp => spl_base hp
  one := fun p k hp hk => spl_mid hp.1 hk
  ends := fun p k hp hk e he => (h.ok _ (rwg_mem fun q => by rw [q] at hk; cases hk).2.2 _ (List.getElem_mem hk)).2.1 e he
  inj := fun p k p' k' hp hp' hk hk' e => atN_inj hp.1 hp'.1 hk hk' e
  out := fun p k _ _ q => by
    have := q.2
    unfold atN at this
    omega
theorem spl_in {g : Game} (q : Int) : inR (spl g) q ↔ inR g q ∨ ∃ p k, inR g p ∧ k < (rwg g p).length ∧ q = atN g p k := by
  unfold inR
  rw [spl_len]
  constructor
  · rintro ⟨h0, h1⟩
    by_cases hq : q < (g.length : Int)
    · exact .inl ⟨h0, hq⟩
    · obtain ⟨p, k, hk, e⟩ := flat_sur g (q.toNat - g.length) (by omega)
      refine .inr ⟨(p : Int), k, ⟨by omega, by have := rowN_lt hk; omega⟩, ?_, ?_⟩
      · rw [rwg_row (by omega)]; exact hk
      · unfold atN
        rw [Int.toNat_natCast]
        omega
  · rintro (⟨h0, h1⟩ | ⟨p, k, hp, hk, rfl⟩)
    · omega
    · rw [rwg_row hp.1] at hk
      have := off_lt hk
      unfold atN
      omega
theorem spl_ok {g : Game} (h : OkG g) (hl : g.length + g.flatten.length ≤ 30) : OkG (spl g) where
  lo := by rw [spl_len]; have := h.lo; omega
  hi := by rw [spl_len]; exact hl
  ok := fun row hr ends he => by
    unfold spl at hr
    rcases List.mem_append.mp hr with hr | hr
    · obtain ⟨p, hp, rfl⟩ := List.mem_map.mp hr
      have hp := List.mem_range.mp hp
      obtain ⟨k, hk, rfl⟩ := List.mem_map.mp he
      have hk := List.mem_range.mp hk
      refine ⟨by simp, fun e hm => ?_, by simp⟩
      rw [List.mem_singleton.mp hm]
      have h3 : inR g (p : Int) := ⟨by omega, by omega⟩
      exact (spl_in _).mpr (.inr ⟨(p : Int), k, h3, by rw [rwg_row h3.1]; exact hk, rfl⟩)
    · obtain ⟨e, hm, rfl⟩ := List.mem_map.mp hr
      rw [List.mem_singleton.mp he]
      obtain ⟨row, hrow, hm⟩ := List.mem_flatten.mp hm
      obtain ⟨a, b, c⟩ := h.ok row hrow e hm
      exact ⟨a, fun x hx => by have := b x hx; rw [spl_len]; omega, c⟩
theorem rg_nat (n : Nat) : rg (n : Int) = (List.range n).map fun i => ((i : Nat) : Int) := by unfold rg; rw [Int.toNat_natCast]
theorem rg_pre {n : Nat} {pre post : List Int} {x : Int} (e : rg (n : Int) = pre ++ x :: post) : x = (pre.length : Int) ∧ pre.length < n := by
  rw [rg_nat] at e
  have h1 := congrArg List.length e
  simp only [List.length_map, List.length_range, List.length_append, List.length_cons] at h1
  have h2 := congrArg (fun l => l[pre.length]?) e
  simp only [List.getElem?_map, List.getElem?_append_right (Nat.le_refl _), Nat.sub_self, List.getElem?_cons_zero] at h2
  rw [List.getElem?_range (by omega)] at h2
  exact ⟨(Option.some.inj h2).symm, by omega⟩
theorem split_of {g : Game} (hl : g.length + g.flatten.length ≤ 30) {k : Game → Prop} (q : k (spl g)) : (m_law_split g).wp k := by
  unfold m_law_split
  refine Pg.out_of ?_
  simp only [Pg.pure_bnd]
  refine Pg.ask_of (by omega) ?_
  have fl : ∀ i, i ≤ g.length → (g.take i).flatten.length ≤ 30 := fun i hi => by have := off_mono g hi; rw [off_all] at this; unfold off at this; omega
  let F : Nat → Game := fun i => (List.range i).map fun p => (List.range (rowN g p).length).map fun k => [atN g (p : Int) k]
  refine Pg.bnd_of (p := fun c => c = Ctl.nx (F g.length, g.flatten.map fun e => [e])) ?_ ?_
  · refine Pg.forc_of (fun pre s => s = (F pre.length, (g.take pre.length).flatten.map fun e => [e]) ∧ pre.length ≤ g.length) ⟨rfl, by simp⟩ (fun pre x post s e I => ?_) (fun s I => ?_)
    · obtain ⟨rfl, _⟩ := I
      obtain ⟨rfl, hlt⟩ := rg_pre e
      have hrow : rowN g pre.length = g[pre.length] := by unfold rowN; rw [List.getElem?_eq_getElem hlt]; rfl
      refine Pg.opt_of (a := rowN g pre.length) (by rw [atI_nat, hrow]; exact List.getElem?_eq_getElem hlt) ?_
      have hfl := fl (pre.length + 1) (by omega)
      have hoff : (g.take (pre.length + 1)).flatten.length = (g.take pre.length).flatten.length + (rowN g pre.length).length := off_succ g pre.length
      refine Pg.bnd_of (p := fun c => c = Ctl.nx (((g.take (pre.length + 1)).flatten.map fun e => [e]), (List.range (rowN g pre.length).length).map fun k => [atN g (pre.length : Int) k])) ?_ ?_
      · refine Pg.forc_of (fun pre2 s => s = (((g.take pre.length).flatten ++ pre2).map fun e => [e], (List.range pre2.length).map fun k => [atN g (pre.length : Int) k]) ∧ pre2.length ≤ (rowN g pre.length).length) ⟨by simp, by simp⟩ (fun pre2 y post2 s e I => ?_) (fun s I => ?_)
        · obtain ⟨rfl, _⟩ := I
          have hy : pre2.length < (rowN g pre.length).length := by rw [e]; simp
          refine ⟨by show 1 ≤ 100000; omega, ?_, by show 1 ≤ 100000; omega, ?_, ?_, ?_⟩
          · show ((List.range pre2.length).map _).length < 100000
            rw [List.length_map, List.length_range]
            omega
          · show (List.map _ ((g.take pre.length).flatten ++ pre2)).length < 100000
            rw [List.length_map, List.length_append]
            omega
          · show (_, _) = (_, _)
            congr 1
            · show List.map _ _ ++ [_] = _
              rw [← List.append_assoc, List.map_append (l₂ := [y])]
              rfl
            · show List.map _ (List.range pre2.length) ++ [[(g.length : Int) + ((List.map (fun e => [e]) ((g.take pre.length).flatten ++ pre2)).length : Int)]] = _
              rw [show (pre2 ++ [y]).length = pre2.length + 1 by rw [List.length_append]; rfl, List.range_succ, List.map_append (l₂ := [pre2.length])]
              congr 1
              show [[_]] = [[_]]
              congr 2
              unfold atN off
              rw [Int.toNat_natCast, List.length_map, List.length_append]
              push_cast
              omega
          · show (pre2 ++ [y]).length ≤ _
            rw [List.length_append]
            simp only [List.length_cons, List.length_nil]
            omega
        · obtain ⟨rfl, _⟩ := I
          show Ctl.nx _ = Ctl.nx _
          congr 2
          rw [List.take_succ, List.getElem?_eq_getElem hlt, List.flatten_append, ← hrow]
          simp
      · rintro c rfl
        rw [seqG_nx]
        refine ⟨?_, ?_, ?_⟩
        · show (F pre.length).length < 100000
          simp only [F, List.length_map, List.length_range]
          omega
        · show (F pre.length ++ [_], _) = (F (pre ++ [_]).length, _)
          rw [List.length_append]
          show _ = (F (pre.length + 1), (g.take (pre.length + 1)).flatten.map fun e => [e])
          congr 1
          simp only [F]
          rw [List.range_succ, List.map_append]
          rfl
        · rw [List.length_append]
          simp only [List.length_cons, List.length_nil]
          omega
    · obtain ⟨rfl, _⟩ := I
      have e : (rg (g.length : Int)).length = g.length := by rw [rg_nat]; simp
      rw [e, List.take_length]
  · rintro c rfl
    rw [seqG_nx]
    refine ⟨?_, q⟩
    show (spl g).length ≤ 100000
    rw [spl_len]
    omega
/-- what between gives -/
structure Btw (g : Game) (d : List ((Int × Int) × Int)) : Prop where
  nd : NdK d
  key : ∀ x, x ∈ d.map (·.1) ↔ ∃ p k : Nat, x = ((p : Int), (k : Int)) ∧ k < (rowN g p).length
  get : ∀ p k : Nat, k < (rowN g p).length → dget d ((p : Int), (k : Int)) = some (atN g (p : Int) k)
  len : d.length = g.flatten.length
theorem between_of {g : Game} (hl : g.length + g.flatten.length ≤ 30) {k : List ((Int × Int) × Int) → Prop} (q : ∀ d, Btw g d → k d) : (m_law_between g).wp k := by
  unfold m_law_between
  refine Pg.out_of ?_
  simp only [Pg.pure_bnd]
  refine Pg.ask_of (by omega) ?_
  let IV : Nat → Nat → List ((Int × Int) × Int) → Prop := fun i m d => NdK d ∧ (∀ x, x ∈ d.map (·.1) ↔ ∃ p k : Nat, x = ((p : Int), (k : Int)) ∧ k < (rowN g p).length ∧ (p < i ∨ p = i ∧ k < m)) ∧ (∀ p k : Nat, k < (rowN g p).length → (p < i ∨ p = i ∧ k < m) → dget d ((p : Int), (k : Int)) = some (atN g (p : Int) k)) ∧ d.length = off g i + m
  have fl : ∀ i, i ≤ g.length → off g i ≤ 30 := fun i hi => by have := off_mono g hi; rw [off_all] at this; omega
  refine Pg.bnd_of (p := fun c => ∃ d a, c = Ctl.nx (d, a) ∧ IV g.length 0 d) ?_ ?_
  · refine Pg.forc_of (fun pre s => s.2 = ((g.length + off g pre.length : Nat) : Int) ∧ IV pre.length 0 s.1) ⟨by show (g.length : Int) = ((g.length + 0 : Nat) : Int); rfl, List.nodup_nil, fun x => by simp, fun p k _ h => by simp at h, rfl⟩ (fun pre x post s e I => ?_) (fun s I => ?_)
    · obtain ⟨d, a⟩ := s
      obtain ⟨ha, I⟩ := I
      have ha : a = ((g.length + off g pre.length : Nat) : Int) := ha
      subst ha
      obtain ⟨rfl, hlt⟩ := rg_pre e
      have hrow : rowN g pre.length = g[pre.length] := by unfold rowN; rw [List.getElem?_eq_getElem hlt]; rfl
      refine Pg.opt_of (a := rowN g pre.length) (by rw [atI_nat, hrow]; exact List.getElem?_eq_getElem hlt) ?_
      have hfl := fl (pre.length + 1) (by omega)
      have hos := off_succ g pre.length
      refine Pg.ask_of (by omega) ?_
      refine Pg.bnd_of (p := fun c => ∃ d, c = Ctl.nx (d, ((g.length + off g (pre.length + 1) : Nat) : Int)) ∧ IV (pre.length + 1) 0 d) ?_ ?_
      · refine Pg.forc_of (fun pre2 s => s.2 = ((g.length + (off g pre.length + pre2.length) : Nat) : Int) ∧ IV pre.length pre2.length s.1) ⟨rfl, I⟩ (fun pre2 y post2 s e I => ?_) (fun s I => ?_)
        · obtain ⟨d, a⟩ := s
          obtain ⟨ha, nd, hk, hg, hlen⟩ := I
          have ha : a = ((g.length + (off g pre.length + pre2.length) : Nat) : Int) := ha
          subst ha
          obtain ⟨rfl, hlt2⟩ := rg_pre e
          have hlen : d.length = off g pre.length + pre2.length := hlen
          have hnk : ((pre.length : Int), (pre2.length : Int)) ∉ d.map (·.1) := by
            intro z
            obtain ⟨p, k, e, hk1, hk2⟩ := (hk _).mp z
            have e1 := congrArg Prod.fst e
            have e2 := congrArg Prod.snd e
            simp only at e1 e2
            omega
          refine ⟨by show d.length < 100000; omega, ?_, nd.dput _ _, fun x => ?_, fun p k hp hq => ?_, ?_⟩
          · show ((g.length + (off g pre.length + pre2.length) : Nat) : Int) + 1 = ((g.length + (off g pre.length + (pre2 ++ [(pre2.length : Int)]).length) : Nat) : Int)
            rw [List.length_append]
            simp only [List.length_cons, List.length_nil]
            omega
          · show x ∈ (dput d _ _).map (·.1) ↔ _
            rw [mem_keys_dput, hk, List.length_append]
            simp only [List.length_cons, List.length_nil]
            constructor
            · rintro (rfl | ⟨p, k, rfl, h1, h2⟩)
              · exact ⟨pre.length, pre2.length, rfl, hlt2, .inr ⟨rfl, by omega⟩⟩
              · exact ⟨p, k, rfl, h1, by omega⟩
            · rintro ⟨p, k, rfl, h1, h2⟩
              by_cases z : p = pre.length ∧ k = pre2.length
              · left; rw [z.1, z.2]
              · right; exact ⟨p, k, rfl, h1, by omega⟩
          · show dget (dput d _ _) _ = _
            rw [dget_dput]
            rw [List.length_append] at hq
            simp only [List.length_cons, List.length_nil] at hq
            by_cases z : p = pre.length ∧ k = pre2.length
            · obtain ⟨rfl, rfl⟩ := z
              rw [if_pos rfl]
              unfold atN
              rw [Int.toNat_natCast]
            · rw [if_neg fun e => z (by
                have e1 := congrArg Prod.fst e
                have e2 := congrArg Prod.snd e
                simp only at e1 e2
                omega)]
              exact hg p k hp (by omega)
          · show (dput d _ _).length = _
            unfold dput
            rw [if_neg (fun z => hnk (any_key.mp z)), List.length_append, hlen, List.length_append]
            simp only [List.length_cons, List.length_nil]
            omega
        · obtain ⟨d, a⟩ := s
          obtain ⟨ha, nd, hk, hg, hlen⟩ := I
          have el : (rg ((rowN g pre.length).length : Int)).length = (rowN g pre.length).length := by rw [rg_nat]; simp
          have ha : a = ((g.length + (off g pre.length + (rg ((rowN g pre.length).length : Int)).length) : Nat) : Int) := ha
          rw [el] at ha hlen
          rw [el] at hk hg
          subst ha
          refine ⟨d, by rw [hos], nd, fun x => ?_, fun p k hp hq => hg p k hp ?_, ?_⟩
          · rw [hk]
            constructor
            · rintro ⟨p, k, rfl, h1, h2⟩
              exact ⟨p, k, rfl, h1, by omega⟩
            · rintro ⟨p, k, rfl, h1, h2⟩
              refine ⟨p, k, rfl, h1, ?_⟩
              by_cases z : p = pre.length
              · subst z; exact .inr ⟨rfl, h1⟩
              · left; omega
          · by_cases z : p = pre.length
            · subst z; exact .inr ⟨rfl, hp⟩
            · left; omega
          · have hlen : d.length = off g pre.length + (rowN g pre.length).length := hlen
            rw [hlen, hos]; omega
      · rintro c ⟨d, rfl, I⟩
        rw [seqG_nx]
        have e : (pre ++ [(pre.length : Int)]).length = pre.length + 1 := by rw [List.length_append]; rfl
        rw [e]
        exact ⟨rfl, I⟩
    · obtain ⟨d, a⟩ := s
      have e : (rg (g.length : Int)).length = g.length := by rw [rg_nat]; simp
      rw [e] at I
      exact ⟨d, a, rfl, I.2⟩
  · rintro c ⟨d, a, rfl, nd, hk, hg, hlen⟩
    rw [seqG_nx]
    refine q d ⟨nd, fun x => ?_, fun p k hp => hg p k hp (.inl (rowN_lt hp)), by rw [hlen, off_all]; rfl⟩
    rw [hk]
    constructor
    · rintro ⟨p, k, rfl, h1, _⟩; exact ⟨p, k, rfl, h1⟩
    · rintro ⟨p, k, rfl, h1⟩; exact ⟨p, k, rfl, h1, .inl (rowN_lt h1)⟩
end K42

/-! M8: plans judged as at home; the first part of the law. -/
namespace K42
open PySem L2 Nz
section
variable {g : Game} {goal : List Int}
theorem plan_TS (h : OkG g) (hg : OkGoal g goal) {d : DS} (P : Plan (rwg g) (inb goal) sT fS d) : ∀ x ∈ d, TS g goal d x := by
  intro x hx
  have Y := sys_of h hg
  obtain ⟨n, ⟨r, kk⟩, hv, e⟩ := P.of (P.nd.get hx)
  obtain ⟨_, _, _, hz, hs⟩ := V_rank hv
  have e1 : x.2.1 = (r : Int) := by rw [e]; rfl
  have e2 : x.2.2 = kk.map fun k => (k : Int) := by rw [e]; rfl
  refine ⟨G_I Y (n := n) (t := sT) (by unfold G; rw [hv]; rfl), by rw [e1]; omega, fun z => ?_, fun z => ?_⟩
  · rw [e1] at z
    exact of_decide_eq_true (hz (by omega)).1
  · rw [e1] at z
    cases r with
    | zero => omega
    | succ m =>
      obtain ⟨j, rfl, hj⟩ := hs m rfl
      obtain ⟨hjl, hp, _⟩ := List.findIdx?_eq_some_iff_getElem.mp hj
      refine ⟨j, _, List.getElem?_eq_getElem hjl, e2, fun q hq => ?_⟩
      have hG := sT_iff.mp hp q hq
      obtain ⟨r', k', hv'⟩ := V_of_G hG
      refine ⟨_, P.yes hv', ?_⟩
      rw [e1]
      have := (V_rank hv').1
      show (r' : Int) < ((m + 1 : Nat) : Int)
      omega
theorem plan_TC (h : OkG g) (hg : OkGoal g goal) {S : Int → Bool} (gr : Great (rwg g) (inb goal) (inR g) S) {d : DC} (P : Plan (rwg g) (inb goal) (cT S) fC d) : TC g goal d := by
  have Y := sys_of h hg
  have hkey : ∀ q, S q = true → (dget d q).isSome = true := fun q hq => dget_isSome.mpr (P.key.mpr ((gr.iff Y).mp hq))
  constructor
  · intro x hx
    obtain ⟨n, ⟨r, kk⟩, hv, e⟩ := P.of (P.nd.get hx)
    obtain ⟨_, _, _, hz, hs⟩ := V_rank hv
    have e : x.2 = kk.map fun k => (k : Int) := e
    refine ⟨G_I Y (n := n) (t := cT S) (by unfold G; rw [hv]; rfl), fun z => ?_, fun o z => ?_⟩
    · cases r with
      | zero => exact of_decide_eq_true (hz rfl).1
      | succ m =>
        obtain ⟨j, rfl, _⟩ := hs m rfl
        rw [z] at e; cases e
    · cases r with
      | zero => rw [(hz rfl).2] at e; rw [e] at z; cases z
      | succ m =>
        obtain ⟨j, rfl, hj⟩ := hs m rfl
        rw [e] at z
        have z : (j : Int) = o := Option.some.inj z
        subst z
        obtain ⟨hjl, hp, _⟩ := List.findIdx?_eq_some_iff_getElem.mp hj
        exact ⟨by omega, _, by rw [atI_nat]; exact List.getElem?_eq_getElem hjl, fun q hq => hkey q ((cT_iff.mp hp).1 q hq)⟩
  · have reach : ∀ m n p r kk, r ≤ m → V (rwg g) (inb goal) (cT S) n p = some (r, kk) → G (rwP g d) (bP d) anyT m p = true := by
      intro m
      induction m with
      | zero =>
        intro n p r kk hr hv
        have : r = 0 := by omega
        subst this
        rw [G_zero]
        unfold bP
        rw [P.yes hv]
        show (match some (fC (0, kk)) with | some none => true | _ => false) = true
        rw [((V_rank hv).2.2.2.1 rfl).2]
        rfl
      | succ m ih =>
        intro n p r kk hr hv
        by_cases z : r ≤ m
        · exact G_mono (ih n p r kk z hv) (Nat.le_succ m)
        · have : r = m + 1 := by omega
          subst this
          obtain ⟨j, rfl, hj⟩ := (V_rank hv).2.2.2.2 m rfl
          obtain ⟨hjl, hp, _⟩ := List.findIdx?_eq_some_iff_getElem.mp hj
          obtain ⟨_, q, hq, hG⟩ := cT_iff.mp hp
          obtain ⟨r', k', hv'⟩ := V_of_G hG
          rw [G_succ, Bool.or_eq_true]
          right
          have e : rwP g d p = [(rwg g p)[j]] := by
            unfold rwP
            rw [P.yes hv]
            show (atI (rwg g p) (j : Int)).toList = _
            rw [atI_nat, List.getElem?_eq_getElem hjl]
            rfl
          rw [e]
          simp only [List.any_cons, List.any_nil, Bool.or_false]
          exact List.any_eq_true.mpr ⟨q, hq, ih m q r' k' (V_rank hv').1 hv'⟩
    intro p hp
    obtain ⟨n, hn⟩ := P.key.mp hp
    obtain ⟨r, kk, hv⟩ := V_of_G hn
    exact ⟨r, reach r n p r kk (Nat.le_refl _) hv⟩
theorem dEq_of {κ α : Type} [DecidableEq κ] {a b : List (κ × α)} (ha : NdK a) (hb : NdK b) (e : ∀ k, dget a k = dget b k) : dEq a b := by
  have sub : ∀ {a b : List (κ × α)}, (∀ k, dget a k = dget b k) → ∀ x ∈ a.map (fun z : κ × α => z.1), x ∈ b.map (fun z : κ × α => z.1) := fun e x hx => by
    rw [← dget_isSome] at hx ⊢
    rw [← e]; exact hx
  have h1 := nodup_len (l := a.map (fun z : κ × α => z.1)) (m := b.map (fun z : κ × α => z.1)) ha (sub e)
  have h2 := nodup_len (l := b.map (fun z : κ × α => z.1)) (m := a.map (fun z : κ × α => z.1)) hb (sub fun k => (e k).symm)
  simp only [List.length_map] at h1 h2
  exact ⟨by omega, fun p hp => by rw [← e]; exact ha.get hp⟩
theorem keys_sort {α : Type} {a b : List (Int × α)} (ha : (a.map (·.1)).Pairwise (· < ·)) (hb : NdK b) (e : ∀ k, dget a k = dget b k) : a.map (·.1) = sortI (b.map (·.1)) :=
  lt_unique ha (sortI_lt hb) fun x => by rw [mem_sortI, ← dget_isSome, ← dget_isSome, e]
/-- what is due, while the deeds are gone through -/
structure MInv {α : Type} (g : Game) (X : Int → Option α) (c : Nat → Nat → Bool) (w : Nat → Nat → α) (pre : List (Int × Int)) (due : List (Int × α)) : Prop where
  nd : NdK due
  base : ∀ p, inR g p → dget due p = X p
  mid : ∀ p k : Nat, k < (rowN g p).length → dget due (atN g (p : Int) k) = if ((p : Int), (k : Int)) ∈ pre ∧ c p k = true then some (w p k) else none
  rng : ∀ q ∈ due.map (·.1), inR (spl g) q
variable {α : Type} {X : Int → Option α} {c : Nat → Nat → Bool} {w : Nat → Nat → α} {pre : List (Int × Int)} {due : List (Int × α)}
theorem inR_nat {p k : Nat} (h : k < (rowN g p).length) : inR g (p : Int) := ⟨by omega, by have := rowN_lt h; omega⟩
theorem at_out {p : Int} {q k : Nat} (h : inR g p) : p ≠ atN g (q : Int) k := fun e => by
  have := h.2
  unfold atN at e
  omega
theorem MInv.start (nd : NdK due) (hb : ∀ p, inR g p → dget due p = X p) (hr : ∀ q ∈ due.map (·.1), inR g q) : MInv g X c w [] due where
  nd := nd
  base := hb
  mid := fun p k hk => by
    rw [if_neg (by simp)]
    refine dget_none.mpr fun z => ?_
    exact at_out (hr _ z) rfl
  rng := fun q hq => (spl_in q).mpr (.inl (hr q hq))
theorem MInv.yes (I : MInv g X c w pre due) {p k : Nat} (hk : k < (rowN g p).length) (hc : c p k = true) : MInv g X c w (pre ++ [((p : Int), (k : Int))]) (dput due (atN g (p : Int) k) (w p k)) where
  nd := I.nd.dput _ _
  base := fun q hq => by rw [dget_dput, if_neg (at_out hq), I.base q hq]
  mid := fun q j hj => by
    rw [dget_dput]
    by_cases z : q = p ∧ j = k
    · obtain ⟨rfl, rfl⟩ := z
      rw [if_pos rfl, if_pos ⟨by simp, hc⟩]
    · rw [if_neg fun e => z (by
        obtain ⟨a, b⟩ := atN_inj (g := g) (by omega) (by omega) (by rw [rwg_row (by omega)]; exact hj) (by rw [rwg_row (by omega)]; exact hk) e
        omega), I.mid q j hj]
      have : ((q : Int), (j : Int)) ∈ pre ++ [((p : Int), (k : Int))] ↔ ((q : Int), (j : Int)) ∈ pre := by
        rw [List.mem_append]
        refine ⟨fun h => h.elim id fun h => ?_, .inl⟩
        have h := List.mem_singleton.mp h
        have e1 := congrArg Prod.fst h
        have e2 := congrArg Prod.snd h
        simp only at e1 e2
        omega
      simp only [this]
  rng := fun q hq => by
    rcases mem_keys_dput.mp hq with rfl | hq
    · exact (spl_in _).mpr (.inr ⟨(p : Int), k, inR_nat hk, by rw [rwg_row (by omega)]; exact hk, rfl⟩)
    · exact I.rng q hq
theorem MInv.no (I : MInv g X c w pre due) {p k : Nat} (hc : c p k = false) : MInv g X c w (pre ++ [((p : Int), (k : Int))]) due where
  nd := I.nd
  base := I.base
  mid := fun q j hj => by
    rw [I.mid q j hj]
    by_cases z : q = p ∧ j = k
    · obtain ⟨rfl, rfl⟩ := z
      simp [hc]
    · have : ((q : Int), (j : Int)) ∈ pre ++ [((p : Int), (k : Int))] ↔ ((q : Int), (j : Int)) ∈ pre := by
        rw [List.mem_append]
        refine ⟨fun h => h.elim id fun h => ?_, .inl⟩
        have h := List.mem_singleton.mp h
        have e1 := congrArg Prod.fst h
        have e2 := congrArg Prod.snd h
        simp only at e1 e2
        omega
      simp only [this]
  rng := I.rng
theorem MInv.eq (I : MInv g X c w pre due) {told : List (Int × α)} (hr : ∀ q, (dget told q).isSome = true → inR (spl g) q) (h1 : ∀ p, inR g p → dget told p = X p) (h2 : ∀ p k : Nat, k < (rowN g p).length → dget told (atN g (p : Int) k) = if ((p : Int), (k : Int)) ∈ pre ∧ c p k = true then some (w p k) else none) : ∀ q, dget told q = dget due q := by
  intro q
  by_cases hq : inR (spl g) q
  · rcases (spl_in q).mp hq with hq | ⟨p, k, hp, hk, rfl⟩
    · rw [h1 q hq, I.base q hq]
    · rw [rwg_row hp.1] at hk
      have e := h2 p.toNat k hk
      have e2 := I.mid p.toNat k hk
      rw [Int.toNat_of_nonneg hp.1] at e e2
      rw [e, e2]
  · have a : dget told q = none := by
      cases e : dget told q with
      | none => rfl
      | some v => exact (hq (hr q (by rw [e]; rfl))).elim
    have b : dget due q = none := dget_none.mpr fun z => hq (I.rng q z)
    rw [a, b]
theorem lv_rng (h : OkG g) {start : Int} (hs : inR g start) : ∀ n, ∀ o ∈ (lv (rwg g) start n).1, inR g o := by
  have eI : ∀ p, ∀ e ∈ rwg g p, ∀ q ∈ e, inR g q := fun p e he q hq => (h.ok _ (rwg_mem fun q => by rw [q] at he; cases he).2.2 e he).2.1 q hq
  intro n
  induction n with
  | zero => intro o ho; simp [lv] at ho; subst ho; exact hs
  | succ n ih =>
    intro o ho
    rcases (lv_seen_step n).2.2 o ho with ho | ⟨x, hx, e⟩
    · exact ih o ho
    · obtain ⟨l, b1, b2, _⟩ := adds_sub (cs := cands (rwg g) (lv (rwg g) start n).2) (s := ((lv (rwg g) start n).1, []))
      have e2 : (lv (rwg g) start (n + 1)).2 = [] ++ l := b2
      rw [e2, List.nil_append] at hx
      obtain ⟨y, hy, i, en, he, hm, _⟩ := mem_cands.mp (b1.subset hx)
      subst e
      exact eI y.1 en (List.mem_of_getElem? he) x.1 hm
theorem lv_steps {rw : Rows} {start : Int} : ∀ n, ∀ x ∈ (lv rw start n).2, ∀ pk ∈ x.2, ∃ i : Nat, pk.2 = (i : Int) ∧ i < (rw pk.1).length
  | 0, x, hx, pk, hp => by
    simp [lv] at hx
    subst hx
    cases hp
  | n + 1, x, hx, pk, hp => by
    obtain ⟨l, b1, b2, _⟩ := adds_sub (cs := cands rw (lv rw start n).2) (s := ((lv rw start n).1, []))
    have e2 : (lv rw start (n + 1)).2 = [] ++ l := b2
    rw [e2, List.nil_append] at hx
    obtain ⟨y, hy, i, en, he, hm, e⟩ := mem_cands.mp (b1.subset hx)
    rw [e] at hp
    rcases List.mem_append.mp hp with hp | hp
    · exact lv_steps n y hy pk hp
    · rw [List.mem_singleton.mp hp]
      exact ⟨i, rfl, (List.getElem?_eq_some_iff.mp he).1⟩
theorem wk_facts (h : OkG g) {b : Int → Bool} {start : Int} (hs : inR g start) {way : Way} (wk : WkR (rwg g) b start (some way)) : way.length ≤ 30 ∧ ∀ pk ∈ way, ∃ p i : Nat, pk = ((p : Int), (i : Int)) ∧ i < (rowN g p).length := by
  have ok : RowsOk (rwg g) := fun p e he => (h.ok _ (rwg_mem fun q => by rw [q] at he; cases he).2.2 e he).2.2
  obtain ⟨n, h1, h2⟩ := wk
  rcases h2 with ⟨_, h2⟩ | ⟨x, hf, h2⟩
  · cases h2
  · cases h2
    have hx := List.mem_of_find?_eq_some hf
    refine ⟨?_, fun pk hp => ?_⟩
    · rw [(lv_ok ok start n).len x hx]
      have a := lv_grow n (fun z => by rw [z] at hx; cases hx)
      have b := len_rng (lv_ok ok start n).nd (lv_rng h hs n)
      have := h.hi
      omega
    · obtain ⟨i, e, hi⟩ := lv_steps n x hx pk hp
      have h0 := (rwg_mem (g := g) (p := pk.1) fun z => by rw [z] at hi; cases hi).1
      refine ⟨pk.1.toNat, i, ?_, by rw [← rwg_row h0]; exact hi⟩
      rw [Int.toNat_of_nonneg h0, ← e]
end
theorem split_right_of {g : Game} {goal : List Int} {start : Int} (h : OkG g) (hg : OkGoal g goal) (hs : inR g start) (hl : g.length + g.flatten.length ≤ 30) : (m_law_split_right (g, goal, start)).wp fun b => b = true := by
  have Y := sys_of h hg
  have h' := spl_ok h hl
  have hg' : OkGoal (spl g) goal := ⟨hg.nd, fun p hp => by have := hg.ok p hp; rw [spl_len]; omega⟩
  have Y' := sys_of h' hg'
  have T := two_of h hg
  have hi := h.hi
  unfold m_law_split_right
  refine Pg.out_of ?_
  refine Pg.bnd_of (split_of hl (k := fun r => r = spl g) rfl) ?_
  rintro split rfl
  simp only [Pg.pure_bnd]
  refine Pg.bnd_of (between_of hl (k := Btw g) fun d hd => hd) ?_
  intro bt hbt
  refine Pg.bnd_of (strong_of h hg (k := Plan (rwg g) (inb goal) sT fS) fun d hd => hd) ?_
  intro d P
  refine Pg.bnd_of (strong_of h' hg' (k := Plan (rwg (spl g)) (inb goal) sT fS) fun d hd => hd) ?_
  intro told P'
  obtain ⟨n1, st1, ge1⟩ := P.get
  obtain ⟨n2, st2, ge2⟩ := P'.get
  let N := max n1 n2
  have gd : ∀ p, dget d p = (V (rwg g) (inb goal) sT N p).map fS := fun p => by rw [ge1, st1 N (Nat.le_max_left ..)]
  have gt : ∀ p, dget told p = (V (rwg (spl g)) (inb goal) sT (2 * N + 1) p).map fS := fun p => by rw [ge2, st2 (2 * N + 1) (by have := Nat.le_max_right n1 n2; show n2 ≤ 2 * max n1 n2 + 1; omega)]
  have SP := (split_strong T).at' N
  have dlen : d.length ≤ g.length := P.nd.len fun p hp => by
    obtain ⟨n, hn⟩ := P.key.mp hp
    exact G_I Y hn
  have vlen : ∀ {i : Nat}, i ≤ g.flatten.length → i ≤ 30 := fun hh => by omega
  have btv : ∀ {pre post : List (Int × Int)} {y}, bt.map (·.1) = pre ++ y :: post → ∃ p k : Nat, y = ((p : Int), (k : Int)) ∧ k < (rowN g p).length := fun {pre post y} e => (hbt.key y).mp (by rw [e]; simp)
  have allp : ∀ p k : Nat, k < (rowN g p).length → ((p : Int), (k : Int)) ∈ bt.map (·.1) := fun p k hk => (hbt.key _).mpr ⟨p, k, rfl, hk⟩
  -- strong plans
  let vv : Int → Int × Option Int := fun p => ((dget d p).map fun v => (2 * v.1, v.2)).getD (0, none)
  let X : Int → Option (Int × Option Int) := fun p => (dget d p).map fun v => (2 * v.1, v.2)
  let cc : Nat → Nat → Bool := fun p k => (((rowN g p)[k]?).getD []).all fun e => (dget d e).isSome
  let ww : Nat → Nat → Int × Option Int := fun p k => (1 + 2 * maxL ((((rowN g p)[k]?).getD []).map fun e => ((dget d e).getD (0, none)).1), some 0)
  refine Pg.bnd_of (p := fun c => c = Ctl.nx ((d.map (·.1)).foldl (fun s x => dput s x (vv x)) [])) ?_ ?_
  · refine Pg.forc_fold (fun s x => dput s x (vv x)) (fun s => NdK s ∧ ∀ p ∈ s.map (·.1), p ∈ d.map (·.1)) ⟨List.nodup_nil, by simp⟩ (fun x hx s J => ?_) rfl
    obtain ⟨v, e⟩ := Option.isSome_iff_exists.mp (dget_isSome.mpr hx)
    refine ⟨⟨J.1.dput _ _, fun p hp => ?_⟩, v, e, .inl (by omega), v, e, ?_, ?_⟩
    · rcases mem_keys_dput.mp hp with rfl | hp
      · exact hx
      · exact J.2 p hp
    · have := nodup_len (l := s.map (fun z : Int × (Int × Option Int) => z.1)) (m := d.map (fun z : Int × (Int × Option Int) => z.1)) J.1 J.2
      simp only [List.length_map] at this
      show s.length < 100000
      omega
    · show Ctl.nx _ = Ctl.nx _
      congr 2
      show _ = ((dget d x).map _).getD _
      rw [e]; rfl
  rintro c rfl
  rw [seqG_nx]
  have hX : ∀ p, dget ((d.map (·.1)).foldl (fun s x => dput s x (vv x)) []) p = X p := fun p => by
    rw [dget_puts vv]
    show _ = (dget d p).map _
    by_cases hp : p ∈ d.map (·.1)
    · rw [if_pos hp]
      obtain ⟨v, e⟩ := Option.isSome_iff_exists.mp (dget_isSome.mpr hp)
      show some (((dget d p).map _).getD _) = _
      rw [e]; rfl
    · rw [if_neg hp, dget_none.mpr hp]; rfl
  have M0 : MInv g X cc ww [] ((d.map (·.1)).foldl (fun s x => dput s x (vv x)) []) := MInv.start (ndk_puts vv _ [] List.nodup_nil) (fun p _ => hX p) fun q hq => by
    rw [← dget_isSome, hX] at hq
    obtain ⟨n, hn⟩ := P.key.mp (dget_isSome.mp (by
      show (dget d q).isSome = true
      rw [Option.isSome_map] at hq
      exact hq))
    exact G_I Y hn
  refine Pg.bnd_of (p := fun c => ∃ due, c = Ctl.nx due ∧ MInv g X cc ww (bt.map (·.1)) due) ?_ ?_
  · refine Pg.forc_of (MInv g X cc ww) M0 (fun pre y post due e I => ?_) (fun s I => ⟨s, rfl, I⟩)
    obtain ⟨p, k, rfl, hk⟩ := btv e
    have hr : rwg g (p : Int) = rowN g p := by rw [rwg_row (by omega), Int.toNat_natCast]
    have hR := inR_nat hk
    refine Pg.opt_of (rwg_at hR.1 hR.2) (Pg.opt_of (a := (rowN g p)[k]) (by rw [hr, atI_nat]; exact List.getElem?_eq_getElem hk) ?_)
    have eE : ((rowN g p)[k]?).getD [] = (rowN g p)[k] := by rw [List.getElem?_eq_getElem hk]; rfl
    have hne : (rowN g p)[k] ≠ [] := Y.ne (p : Int) _ (by rw [hr]; exact List.getElem_mem hk)
    refine Pg.bnd_of (Pg.comp_of (fun _ => true) (fun y => (dget d y).isSome) _ (fun _ _ => rfl) (fun _ _ _ => rfl)) ?_
    rintro l21 rfl
    rw [filt_true, iteG_pure]
    have hc : (List.map (fun y => (dget d y).isSome) (rowN g p)[k]).all id = cc p k := by
      show _ = (((rowN g p)[k]?).getD []).all _
      rw [eE, List.all_map]; rfl
    have dlen2 : due.length ≤ (spl g).length := I.nd.len I.rng
    have := h'.hi
    cases hcc : cc p k with
    | true =>
      rw [hc, hcc, if_pos rfl]
      refine Pg.bnd_of (p := fun c => c = Ctl.nx (dput due (atN g (p : Int) k) (ww p k))) ?_ (fun c hc => by subst hc; exact I.yes hk hcc)
      have hall : ∀ e ∈ (rowN g p)[k], (dget d e).isSome = true := List.all_eq_true.mp (by
        have : (((rowN g p)[k]?).getD []).all (fun e => (dget d e).isSome) = true := hcc
        rw [eE] at this
        exact this)
      refine Pg.bnd_of (Pg.comp_of (fun _ => true) (fun e => ((dget d e).getD (0, none)).1) _ (fun _ _ => rfl) (fun x hx _ => ?_)) ?_
      · obtain ⟨v, e⟩ := Option.isSome_iff_exists.mp (hall x hx)
        refine ⟨v, e, ?_⟩
        show v.1 = _
        rw [e]; rfl
      rintro l26 rfl
      rw [filt_true]
      refine ⟨fun z => hne (List.map_eq_nil_iff.mp z), .inl (by omega), _, hbt.get p k hk, by show due.length < 100000; omega, ?_⟩
      show Ctl.nx _ = Ctl.nx _
      congr 2
      show _ = (1 + 2 * maxL ((((rowN g p)[k]?).getD []).map _), _)
      rw [eE]
    | false =>
      rw [hc, hcc, if_neg Bool.false_ne_true]
      exact I.no hcc
  rintro c ⟨due, rfl, I⟩
  rw [seqG_nx]
  have hEq : ∀ q, dget told q = dget due q := by
    refine I.eq (fun q hq => ?_) (fun p hp => ?_) (fun p k hk => ?_)
    · obtain ⟨n, hn⟩ := P'.key.mp (dget_isSome.mp hq)
      exact G_I Y' hn
    · rw [gt, SP.2.1 p hp]
      show _ = (dget d p).map _
      rw [gd, Option.map_map, Option.map_map]
      cases V (rwg g) (inb goal) sT N p with
      | none => rfl
      | some v =>
        show some (((2 * v.1 : Nat) : Int), _) = some (2 * (v.1 : Int), _)
        congr 2
    · have hr : rwg g (p : Int) = rowN g p := by rw [rwg_row (by omega), Int.toNat_natCast]
      have hR := inR_nat hk
      have hk2 : k < (rwg g (p : Int)).length := by rw [hr]; exact hk
      rw [gt, SP.2.2.2 (p : Int) k hR hk2]
      have eE : ((rowN g p)[k]?).getD [] = (rwg g (p : Int))[k] := by
        rw [List.getElem?_eq_getElem hk]
        show (rowN g p)[k] = _
        simp only [hr]
        rfl
      let u : Nat → Bool := fun m => sT (G (rwg g) (inb goal) sT m) (rwg g (p : Int))[k]
      have hu : ∀ n, u n = true → u (n + 1) = true := fun n hn => sT_iff.mpr fun x hx => G_mono (sT_iff.mp hn x hx) (Nat.le_succ n)
      have hcu : cc p k = u N := by
        show (((rowN g p)[k]?).getD []).all _ = _
        rw [eE]
        show List.all _ _ = List.all _ _
        congr 1
        funext e
        rw [gd, Option.isSome_map]; rfl
      have hsm := En_isSome hu N
      simp only [allp p k hk, true_and]
      show ((En u (N + 1)).map _).map fS = _
      cases hE : En u (N + 1) with
      | none =>
        rw [hE] at hsm
        rw [hcu, ← hsm]
        rfl
      | some m =>
        rw [hE] at hsm
        have hsm : u N = true := hsm.symm
        rw [hcu, hsm, if_pos rfl]
        obtain ⟨hm1, hm2, hm3⟩ := En_some hE
        show some (((2 * m + 1 : Nat) : Int), some (0 : Int)) = some (1 + 2 * maxL _, some 0)
        congr 2
        have hne : (rwg g (p : Int))[k] ≠ [] := Y.ne (p : Int) _ (List.getElem_mem hk2)
        have rk : ∀ e ∈ (rwg g (p : Int))[k], ∃ r kk, V (rwg g) (inb goal) sT N e = some (r, kk) ∧ ((dget d e).getD (0, none)).1 = (r : Int) := fun e he => by
          obtain ⟨r, kk, hv⟩ := V_of_G (sT_iff.mp hsm e he)
          refine ⟨r, kk, hv, ?_⟩
          rw [gd, hv]; rfl
        rw [eE]
        obtain ⟨a1, a2⟩ := maxL_spec (l := ((rwg g (p : Int))[k]).map fun e => ((dget d e).getD (0, none)).1) (fun z => hne (List.map_eq_nil_iff.mp z))
        obtain ⟨e0, he0, em⟩ := List.mem_map.mp a1
        obtain ⟨r0, k0, hv0, er0⟩ := rk e0 he0
        rw [er0] at em
        rw [← em]
        rw [← em] at a2
        have le1 : r0 ≤ m := by
          apply Classical.byContradiction
          intro z
          have h1 := (V_rank hv0).2.2.1 m (by omega)
          have h2 := sT_iff.mp hm2 e0 he0
          unfold G at h2
          rw [h1] at h2
          cases h2
        have le2 : m ≤ r0 := by
          apply Classical.byContradiction
          intro z
          have h1 := hm3 r0 (by omega)
          have : u r0 = true := sT_iff.mpr fun e he => by
            obtain ⟨r, kk, hv, er⟩ := rk e he
            have h3 := a2 _ (List.mem_map.mpr ⟨e, he, rfl⟩)
            rw [er] at h3
            have h4 : G (rwg g) (inb goal) sT r e = true := by unfold G; rw [(V_rank hv).2.1]; rfl
            exact G_mono h4 (by omega)
          rw [this] at h1
          cases h1
        omega
  have dlen2 : due.length ≤ (spl g).length := I.nd.len I.rng
  have hi' := h'.hi
  refine Pg.bnd_of (p := fun z => z = false) (Pg.or_of (b1 := false) (b2 := false) ⟨dEq_of P'.nd I.nd hEq, rfl⟩ fun _ => ⟨by show due.length < 64; omega, ?_⟩) ?_
  · show (!decide _) = false
    rw [decide_eq_true (keys_sort P'.srt I.nd hEq)]
    rfl
  rintro z rfl
  rw [Pg.ifG_pure, if_neg Bool.false_ne_true]
  clear hEq I M0 hX
  -- cyclic plans
  refine Pg.bnd_of (cyclic_of h hg (k := fun d => ∃ S, Great (rwg g) (inb goal) (inR g) S ∧ Plan (rwg g) (inb goal) (cT S) fC d) fun d S a b => ⟨S, a, b⟩) ?_
  rintro dc ⟨S, gr, Pc⟩
  refine Pg.bnd_of (cyclic_of h' hg' (k := fun d => ∃ S, Great (rwg (spl g)) (inb goal) (inR (spl g)) S ∧ Plan (rwg (spl g)) (inb goal) (cT S) fC d) fun d S a b => ⟨S, a, b⟩) ?_
  rintro tc ⟨S', gr', Pc'⟩
  have eS : S' = Sx (rwg g) S (inR g) (atN g) := gr'.uniq (great_split T Y gr spl_in)
  have grx := gr'
  have Pcx := Pc'
  rw [eS] at Pc'
  obtain ⟨n3, st3, ge3⟩ := Pc.get
  obtain ⟨n4, st4, ge4⟩ := Pc'.get
  let M := max n3 n4
  have gdc : ∀ p, dget dc p = (V (rwg g) (inb goal) (cT S) M p).map fC := fun p => by rw [ge3, st3 M (Nat.le_max_left ..)]
  have gtc : ∀ p, dget tc p = (V (rwg (spl g)) (inb goal) (cT (Sx (rwg g) S (inR g) (atN g))) (2 * M + 1) p).map fC := fun p => by rw [ge4, st4 (2 * M + 1) (by have := Nat.le_max_right n3 n4; show n4 ≤ 2 * max n3 n4 + 1; omega)]
  have SC := (split_cyclic T S).at' M
  have dclen : dc.length ≤ g.length := Pc.nd.len fun p hp => by
    obtain ⟨n, hn⟩ := Pc.key.mp hp
    exact G_I Y hn
  have keyS : ∀ q, (dget dc q).isSome = S q := fun q => by
    apply Bool.eq_iff_iff.mpr
    rw [dget_isSome, Pc.key, gr.iff Y]
  let vc : Int → Option Int := fun p => (dget dc p).getD none
  let Xc : Int → Option (Option Int) := fun p => dget dc p
  let c2 : Nat → Nat → Bool := fun p k => (((rowN g p)[k]?).getD []).all fun e => (dget dc e).isSome
  let w2 : Nat → Nat → Option Int := fun p k => some 0
  refine Pg.bnd_of (p := fun c => c = Ctl.nx ((dc.map (·.1)).foldl (fun s x => dput s x (vc x)) [])) ?_ ?_
  · refine Pg.forc_fold (fun s x => dput s x (vc x)) (fun s => NdK s ∧ ∀ p ∈ s.map (·.1), p ∈ dc.map (·.1)) ⟨List.nodup_nil, by simp⟩ (fun x hx s J => ?_) rfl
    obtain ⟨v, e⟩ := Option.isSome_iff_exists.mp (dget_isSome.mpr hx)
    refine ⟨⟨J.1.dput _ _, fun p hp => ?_⟩, v, e, ?_, ?_⟩
    · rcases mem_keys_dput.mp hp with rfl | hp
      · exact hx
      · exact J.2 p hp
    · have := nodup_len (l := s.map (fun z : Int × Option Int => z.1)) (m := dc.map (fun z : Int × Option Int => z.1)) J.1 J.2
      simp only [List.length_map] at this
      show s.length < 100000
      omega
    · show Ctl.nx _ = Ctl.nx _
      congr 2
      show _ = (dget dc x).getD _
      rw [e]; rfl
  rintro c rfl
  rw [seqG_nx]
  have hXc : ∀ p, dget ((dc.map (·.1)).foldl (fun s x => dput s x (vc x)) []) p = Xc p := fun p => by
    rw [dget_puts vc]
    show _ = dget dc p
    by_cases hp : p ∈ dc.map (·.1)
    · rw [if_pos hp]
      obtain ⟨v, e⟩ := Option.isSome_iff_exists.mp (dget_isSome.mpr hp)
      show some ((dget dc p).getD _) = _
      rw [e]; rfl
    · rw [if_neg hp, dget_none.mpr hp]; rfl
  have M0 : MInv g Xc c2 w2 [] ((dc.map (·.1)).foldl (fun s x => dput s x (vc x)) []) := MInv.start (ndk_puts vc _ [] List.nodup_nil) (fun p _ => hXc p) fun q hq => by
    rw [← dget_isSome, hXc] at hq
    obtain ⟨n, hn⟩ := Pc.key.mp (dget_isSome.mp hq)
    exact G_I Y hn
  refine Pg.bnd_of (p := fun c => ∃ due, c = Ctl.nx due ∧ MInv g Xc c2 w2 (bt.map (·.1)) due) ?_ ?_
  · refine Pg.forc_of (MInv g Xc c2 w2) M0 (fun pre y post due e I => ?_) (fun s I => ⟨s, rfl, I⟩)
    obtain ⟨p, k, rfl, hk⟩ := btv e
    have hr : rwg g (p : Int) = rowN g p := by rw [rwg_row (by omega), Int.toNat_natCast]
    have hR := inR_nat hk
    refine Pg.opt_of (rwg_at hR.1 hR.2) (Pg.opt_of (a := (rowN g p)[k]) (by rw [hr, atI_nat]; exact List.getElem?_eq_getElem hk) ?_)
    have eE : ((rowN g p)[k]?).getD [] = (rowN g p)[k] := by rw [List.getElem?_eq_getElem hk]; rfl
    refine Pg.bnd_of (Pg.comp_of (fun _ => true) (fun y => (dget dc y).isSome) _ (fun _ _ => rfl) (fun _ _ _ => rfl)) ?_
    rintro l21 rfl
    rw [filt_true, iteG_pure]
    have hc : (List.map (fun y => (dget dc y).isSome) (rowN g p)[k]).all id = c2 p k := by
      show _ = (((rowN g p)[k]?).getD []).all _
      rw [eE, List.all_map]; rfl
    have dlen2 : due.length ≤ (spl g).length := I.nd.len I.rng
    cases hcc : c2 p k with
    | true =>
      rw [hc, hcc, if_pos rfl]
      exact ⟨_, hbt.get p k hk, by show due.length < 100000; omega, I.yes hk hcc⟩
    | false =>
      rw [hc, hcc, if_neg Bool.false_ne_true]
      exact I.no hcc
  rintro c ⟨due2, rfl, I⟩
  rw [seqG_nx]
  have hEq : ∀ q, dget tc q = dget due2 q := by
    refine I.eq (fun q hq => ?_) (fun p hp => ?_) (fun p k hk => ?_)
    · obtain ⟨n, hn⟩ := Pc'.key.mp (dget_isSome.mp hq)
      exact G_I Y' hn
    · rw [gtc, SC.2.1 p hp]
      show _ = dget dc p
      rw [gdc, Option.map_map]
      rfl
    · have hr : rwg g (p : Int) = rowN g p := by rw [rwg_row (by omega), Int.toNat_natCast]
      have hR := inR_nat hk
      have hk2 : k < (rwg g (p : Int)).length := by rw [hr]; exact hk
      rw [gtc, SC.2.2.2 (p : Int) k hR hk2]
      have eE : ((rowN g p)[k]?).getD [] = (rwg g (p : Int))[k] := by
        rw [List.getElem?_eq_getElem hk]
        show (rowN g p)[k] = _
        simp only [hr]
        rfl
      let u : Nat → Bool := fun m => cT S (G (rwg g) (inb goal) (cT S) m) (rwg g (p : Int))[k]
      have hu : ∀ n, u n = true → u (n + 1) = true := fun n hn => (split_cyclic T S).tm n (p : Int) k hR hk2 hn
      have hne : (rwg g (p : Int))[k] ≠ [] := Y.ne (p : Int) _ (List.getElem_mem hk2)
      have hcu : c2 p k = u M := by
        show (((rowN g p)[k]?).getD []).all _ = _
        rw [eE]
        apply Bool.eq_iff_iff.mpr
        rw [List.all_eq_true]
        show _ ↔ cT S _ _ = true
        rw [cT_iff]
        have stM : ∀ q, S q = true → G (rwg g) (inb goal) (cT S) M q = true := fun q hq => by
          have := keyS q
          rw [hq, gdc, Option.isSome_map] at this
          exact this
        constructor
        · intro hh
          have hS : ∀ e ∈ (rwg g (p : Int))[k], S e = true := fun e he => by rw [← keyS]; exact hh e he
          obtain ⟨x, hx, hx2⟩ := List.any_eq_true.mp (any_of hne hS)
          exact ⟨hS, x, hx, stM x hx2⟩
        · rintro ⟨hS, _⟩ e he
          rw [keyS]; exact hS e he
      have hsm := En_isSome hu M
      simp only [allp p k hk, true_and]
      show ((En u (M + 1)).map _).map fC = _
      cases hE : En u (M + 1) with
      | none =>
        rw [hE] at hsm
        rw [hcu, ← hsm]
        rfl
      | some m =>
        rw [hE] at hsm
        have hsm : u M = true := hsm.symm
        rw [hcu, hsm, if_pos rfl]
        rfl
  refine Pg.bnd_of (p := fun z => z = false) (Pg.or_of (b1 := false) (b2 := false) ⟨dEq_of Pc'.nd I.nd hEq, rfl⟩ fun _ => ?_) ?_
  · refine Pg.bnd_of (Pg.comp_of (fun _ => true) (fun _ => false) _ (fun _ _ => rfl) (fun x hx _ => ?_)) ?_
    · obtain ⟨n, hn⟩ := P.key.mp hx
      show (!(dget dc x).isSome) = false
      rw [keyS, strong_cyclic Y gr hn]; rfl
    · rintro l rfl
      show _ = false
      simp
  rintro z rfl
  rw [Pg.ifG_pure, if_neg Bool.false_ne_true]
  refine Pg.bnd_of (p := fun z => z = false) (Pg.or_of (b1 := false) (b2 := false) ?_ fun _ => ?_) ?_
  · refine Pg.bnd_of (strong_of h' hg' (k := Plan (rwg (spl g)) (inb goal) sT fS) fun d hd => hd) ?_
    intro d2 P2
    refine Pg.bnd_of (takes_strong_of h' (plan_TS h' hg' P2) (k := fun b => b = true) rfl) ?_
    rintro b rfl
    rfl
  · refine Pg.bnd_of (takes_cyclic_of h' Pcx.nd (k := fun b => b = true) (fun _ => rfl) fun n => (n (plan_TC h' hg' grx Pcx)).elim) ?_
    rintro b rfl
    rfl
  rintro z rfl
  rw [Pg.ifG_pure, if_neg Bool.false_ne_true]
  -- ways
  have hs' : inR (spl g) start := (spl_in start).mpr (.inl hs)
  refine Pg.bnd_of (weak_of h hs (goal := goal) (k := WkR (rwg g) (inb goal) start) fun r hr => hr) ?_
  intro way hw
  refine Pg.bnd_of (weak_of h' hs' (goal := goal) (k := WkR (rwg (spl g)) (inb goal) start) fun r hr => hr) ?_
  intro more hm
  have em : more = way.map (dway (atN g)) := wk_uniq hm (wk_two T hs hw)
  subst em
  cases way with
  | none => exact rfl
  | some w =>
    simp only [Pg.orG_pure, Pg.pure_bnd, Option.map_some, Option.isNone_some, Bool.or_false, Pg.ifG_pure, Bool.false_eq_true, if_false]
    obtain ⟨wl, wv⟩ := wk_facts h hs hw
    refine Pg.ask_of (by show 0 ≤ 100000; omega) (Pg.opt_of rfl ?_)
    refine Pg.bnd_of (p := fun c => c = Ctl.nx (dway (atN g) w)) ?_ ?_
    · refine Pg.forc_of (fun pre s => s = dway (atN g) pre ∧ s.length = 2 * pre.length ∧ pre.length ≤ w.length) ⟨rfl, rfl, by simp⟩ (fun pre y post s e I => ?_) (fun s I => by rw [I.1])
      obtain ⟨rfl, hsl, _⟩ := I
      have hy : y ∈ w := by rw [e]; simp
      have hpl : pre.length < w.length := by rw [e]; simp
      obtain ⟨p, k, rfl, hk⟩ := wv y hy
      refine ⟨_, hbt.get p k hk, by show 2 ≤ 100000; omega, ?_, ?_, ?_, ?_⟩
      · show (dway (atN g) pre ++ _).length ≤ 100000
        rw [List.length_append, hsl]
        simp only [List.length_cons, List.length_nil]
        omega
      · show _ = dway (atN g) (pre ++ [((p : Int), (k : Int))])
        rw [dway_snoc, List.append_assoc]
        rfl
      · show (dway (atN g) pre ++ _).length = 2 * (pre ++ [_]).length
        rw [List.length_append, List.length_append, hsl]
        simp only [List.length_cons, List.length_nil]
        omega
      · rw [List.length_append]
        simp only [List.length_cons, List.length_nil]
        omega
    · rintro c rfl
      rw [seqG_nx]
      show decide _ = true
      exact decide_eq_true rfl
end K42

/-! M9: more goals, more picks, one end alone. -/
namespace K42
open PySem L2 Nz
theorem comp_rel {α β : Type} {f : α → Pg β} {R : α → β → Prop} : ∀ (xs : List α), (∀ x ∈ xs, (f x).wp (R x)) → (Pg.comp xs (fun _ => pure true) f).wp fun l => l.length = xs.length ∧ ∀ i (h : i < xs.length) (h' : i < l.length), R xs[i] l[i]
  | [], _ => ⟨rfl, fun i h => absurd h (Nat.not_lt_zero _)⟩
  | x :: xs, h => by
    show Pg.wp (f x) _
    refine (f x).mono ?_ (h x (by simp))
    intro y hy
    refine (Pg.comp xs (fun _ => pure true) f).mono ?_ (comp_rel xs fun z hz => h z (by simp [hz]))
    rintro l ⟨hl, hr⟩
    refine ⟨by simp [hl], fun i h1 h2 => ?_⟩
    cases i with
    | zero => exact hy
    | succ i => exact hr i (by simpa using h1) (by simpa using h2)
theorem cut_one (l : List Int) : cut l none (some 1) = l.take 1 := by
  unfold cut
  have e1 : HT.sIx l.length 0 none = 0 := rfl
  have e2 : HT.sIx l.length l.length (some 1) = min 1 l.length := by
    show (if (1 : Int) < 0 then (1 + (l.length : Int)).toNat else min (1 : Int).toNat l.length) = _
    rw [if_neg (by omega)]
    rfl
  rw [e1, e2]
  cases l <;> simp
theorem mem_rwg {g : Game} {p : Int} {e : List Int} (h : e ∈ rwg g p) : ∃ i, ∃ hi : i < g.length, p = (i : Int) ∧ e ∈ g[i] := by
  obtain ⟨a, b, c⟩ := rwg_mem fun q => by rw [q] at h; cases h
  refine ⟨p.toNat, by omega, by omega, ?_⟩
  have := rwg_get a (List.getElem?_eq_getElem (show p.toNat < g.length by omega))
  rw [this] at h
  exact h
theorem rwg_i {g : Game} {i : Nat} (h : i < g.length) : rwg g (i : Int) = g[i] := rwg_get (by omega) (by rw [Int.toNat_natCast]; exact List.getElem?_eq_getElem h)
theorem rwg_none {g : Game} {p : Int} (h : ¬ inR g p) : rwg g p = [] := by
  apply Classical.byContradiction
  intro z
  obtain ⟨a, b, _⟩ := rwg_mem z
  exact h ⟨a, b⟩
theorem len_small {g : Game} (h : OkG g) {row : List (List Int)} (hr : row ∈ g) {e : List Int} (he : e ∈ row) : e.length ≤ g.length := by
  obtain ⟨_, b, c⟩ := h.ok row hr e he
  exact len_rng (nodup_of_lt c) b
theorem more_right_of {g : Game} {goal : List Int} (h : OkG g) (hg : OkGoal g goal) (hrow : ∀ row ∈ g, row.length ≤ 30) : (m_law_more_right (g, goal)).wp fun b => b = true := by
  have Y := sys_of h hg
  have hi := h.hi
  have hlo := h.lo
  have gl : goal.length ≤ g.length := len_rng (nodup_of_lt hg.nd) hg.ok
  have inKey : ∀ {g' : Game} {goal' : List Int} {t : Tst} {α : Type} {f : Nat × Option Nat → α} {d : List (Int × α)} (h' : OkG g') (hg' : OkGoal g' goal') (P : Plan (rwg g') (inb goal') t f d), ∀ p ∈ d.map (·.1), inR g' p := fun h' hg' P p hp => by
    obtain ⟨n, hn⟩ := P.key.mp hp
    exact G_I (sys_of h' hg') hn
  unfold m_law_more_right
  refine Pg.out_of ?_
  simp only [Pg.pure_bnd]
  refine ⟨by omega, fun x hx0 hx1 => ?_⟩
  refine Pg.ask_of (by show 1 ≤ 100000; omega) (Pg.ask_of (by show (goal ++ [x]).length ≤ 100000; rw [List.length_append]; simp only [List.length_cons, List.length_nil]; omega) (Pg.ask_of (by show (goal ++ [x]).length < 64; rw [List.length_append]; simp only [List.length_cons, List.length_nil]; omega) ?_))
  let more := sortU (goal ++ [x])
  have hgm : OkGoal g more := ⟨pw_sortU _, fun p hp => by
    rcases List.mem_append.mp (mem_sortU.mp hp) with hp | hp
    · exact hg.ok p hp
    · rw [List.mem_singleton.mp hp]; exact ⟨hx0, hx1⟩⟩
  have hbm : ∀ p, inb goal p = true → inb more p = true := fun p hp => decide_eq_true (mem_sortU.mpr (List.mem_append_left _ (of_decide_eq_true hp)))
  refine Pg.bnd_of (strong_of h hg (k := Plan (rwg g) (inb goal) sT fS) fun d hd => hd) ?_
  intro d P
  refine Pg.bnd_of (strong_of h hgm (k := Plan (rwg g) (inb more) sT fS) fun d hd => hd) ?_
  intro wide PW
  refine Pg.bnd_of (Pg.comp_of (fun _ => true) (fun _ => false) _ (fun _ _ => rfl) (fun p hp _ => ?_)) ?_
  · obtain ⟨n, hn⟩ := P.key.mp hp
    obtain ⟨r, kk, hv⟩ := V_of_G hn
    obtain ⟨r', kk', hv'⟩ := V_of_G (more_strong hbm n p hn)
    have e1 := P.yes hv
    have e2 := PW.yes hv'
    have le := rank_le (more_strong hbm) hv hv'
    refine Pg.bnd_of (Pg.or_of (b1 := false) (b2 := false) ?_ fun _ => Pg.opt_of e2 (Pg.opt_of e1 ?_)) ?_
    · show (!(dget wide p).isSome) = false
      rw [e2]; rfl
    · show decide ((r : Int) < (r' : Int)) = false
      exact decide_eq_false (by omega)
    · rintro z rfl
      rfl
  rintro l rfl
  rw [Pg.ifG_pure, if_neg (by simp)]
  refine Pg.bnd_of (cyclic_of h hg (k := fun d => ∃ S, Great (rwg g) (inb goal) (inR g) S ∧ Plan (rwg g) (inb goal) (cT S) fC d) fun d S a b => ⟨S, a, b⟩) ?_
  rintro dc ⟨S, gr, Pc⟩
  refine Pg.bnd_of (Pg.comp_of (fun _ => true) (fun _ => false) _ (fun _ _ => rfl) (fun p hp _ => ?_)) ?_
  · refine Pg.bnd_of (cyclic_of h hgm (k := fun d => ∃ S, Great (rwg g) (inb more) (inR g) S ∧ Plan (rwg g) (inb more) (cT S) fC d) fun d S a b => ⟨S, a, b⟩) ?_
    rintro dm ⟨S', gr', Pm⟩
    show (!(dget dm p).isSome) = false
    have : S p = true := (gr.iff Y).mpr (Pc.key.mp hp)
    have := more_cyclic hbm gr gr' this
    rw [dget_isSome.mpr (Pm.key.mpr ((gr'.iff (sys_of h hgm)).mp this))]
    rfl
  rintro l rfl
  rw [Pg.ifG_pure, if_neg (by simp)]
  -- more picks
  let RE : List Int → List Int → Prop := fun e e' => ∃ y, 0 ≤ y ∧ y < (g.length : Int) ∧ e' = sortU (e ++ [y])
  let RR : List (List Int) → List (List Int) → Prop := fun r r' => r'.length = r.length ∧ ∀ i (h : i < r.length) (h' : i < r'.length), RE r[i] r'[i]
  refine Pg.bnd_of (comp_rel (R := RR) g fun row hr => comp_rel (R := RE) row fun e he => ?_) ?_
  · have el := len_small h hr he
    refine ⟨by show (0 : Int) < (g.length : Int) ∧ (g.length : Int) < 1073741824; omega, fun y hy0 hy1 => ?_⟩
    refine ⟨by show 1 ≤ 100000; omega, by show (e ++ [y]).length ≤ 100000; rw [List.length_append]; simp only [List.length_cons, List.length_nil]; omega, by show (e ++ [y]).length < 64; rw [List.length_append]; simp only [List.length_cons, List.length_nil]; omega, y, hy0, hy1, rfl⟩
  rintro ex ⟨exl, exr⟩
  have exg : ∀ i (h1 : i < g.length), RR g[i] (ex[i]'(by omega)) := fun i h1 => exr i h1 (by omega)
  have hex : OkG ex := ⟨by omega, by omega, fun row' hr' e' he' => by
    obtain ⟨i, hi1, rfl⟩ := List.mem_iff_getElem.mp hr'
    obtain ⟨hl, hR⟩ := exg i (by omega)
    obtain ⟨j, hj, rfl⟩ := List.mem_iff_getElem.mp he'
    obtain ⟨y, hy0, hy1, e⟩ := hR j (by omega) hj
    obtain ⟨a, b, c⟩ := h.ok g[i] (List.getElem_mem _) (g[i][j]'(by omega)) (List.getElem_mem _)
    rw [e]
    refine ⟨fun z => ?_, fun q hq => ?_, pw_sortU _⟩
    · have : y ∈ sortU (g[i][j]'(by omega) ++ [y]) := mem_sortU.mpr (by simp)
      rw [z] at this; cases this
    · rcases List.mem_append.mp (mem_sortU.mp hq) with hq | hq
      · have := b q hq; omega
      · rw [List.mem_singleton.mp hq]; omega⟩
  have hgx : OkGoal ex goal := ⟨hg.nd, fun p hp => by have := hg.ok p hp; omega⟩
  have hsub : ∀ p, ∀ e' ∈ rwg ex p, ∃ e ∈ rwg g p, ∀ q ∈ e, q ∈ e' := fun p e' he' => by
    obtain ⟨i, hi1, rfl, he2⟩ := mem_rwg he'
    obtain ⟨hl, hR⟩ := exg i (by omega)
    obtain ⟨j, hj, rfl⟩ := List.mem_iff_getElem.mp he2
    obtain ⟨y, hy0, hy1, e⟩ := hR j (by omega) hj
    refine ⟨g[i][j]'(by omega), by rw [rwg_i (by omega)]; exact List.getElem_mem _, fun q hq => ?_⟩
    rw [e]
    exact mem_sortU.mpr (List.mem_append_left _ hq)
  refine Pg.bnd_of (strong_of hex hgx (k := Plan (rwg ex) (inb goal) sT fS) fun d hd => hd) ?_
  intro hard PH
  refine Pg.bnd_of (Pg.comp_of (fun _ => true) (fun _ => false) _ (fun _ _ => rfl) (fun p hp _ => ?_)) ?_
  · obtain ⟨n, hn⟩ := PH.key.mp hp
    obtain ⟨r, kk, hv⟩ := V_of_G hn
    obtain ⟨r', kk', hv'⟩ := V_of_G (extra_strong hsub n p hn)
    have e1 := PH.yes hv
    have e2 := P.yes hv'
    have le := rank_le (extra_strong hsub) hv hv'
    refine Pg.bnd_of (Pg.or_of (b1 := false) (b2 := false) ?_ fun _ => Pg.opt_of e1 (Pg.opt_of e2 ?_)) ?_
    · show (!(dget d p).isSome) = false
      rw [e2]; rfl
    · show decide ((r : Int) < (r' : Int)) = false
      exact decide_eq_false (by omega)
    · rintro z rfl
      rfl
  rintro l rfl
  rw [Pg.ifG_pure, if_neg (by simp)]
  refine Pg.ask_of (by omega) ?_
  -- a deed more, never better
  let fl : Int → List (List Int) := fun p => rwg g p ++ (if 0 < (rwg g p).length then ((rwg ex p)[0]?).toList else [])
  refine Pg.bnd_of (Pg.comp_of (fun _ => true) fl _ (fun _ _ => rfl) (fun p hp _ => ?_)) ?_
  · obtain ⟨i, hi1, rfl⟩ := List.mem_map.mp (by rw [rg_nat] at hp; exact hp)
    have hi1 := List.mem_range.mp hi1
    have hR : inR g (i : Int) := ⟨by omega, by omega⟩
    have hRx : inR ex (i : Int) := ⟨by omega, by omega⟩
    have hrl : (rwg g (i : Int)).length ≤ 30 := by rw [rwg_i hi1]; exact hrow _ (List.getElem_mem _)
    have hxl : (rwg ex (i : Int)).length = (rwg g (i : Int)).length := by rw [rwg_i hi1, rwg_i (show i < ex.length by omega)]; exact (exg i hi1).1
    refine Pg.opt_of (rwg_at hR.1 hR.2) ?_
    refine Pg.bnd_of (p := fun z => z = (if 0 < (rwg g (i : Int)).length then ((rwg ex (i : Int))[0]?).toList else [])) ?_ ?_
    · refine Pg.if_of (b := decide (0 < (rwg g (i : Int)).length)) (Pg.opt_of (rwg_at hR.1 hR.2) ?_) ?_
      · show decide _ = decide _
        congr 1
        simp
      · by_cases z : 0 < (rwg g (i : Int)).length
        · rw [if_pos (decide_eq_true z), if_pos z]
          have e0 : (rwg ex (i : Int))[0]? = some ((rwg ex (i : Int))[0]'(by omega)) := List.getElem?_eq_getElem _
          refine Pg.opt_of (rwg_at hRx.1 hRx.2) (Pg.opt_of (a := (rwg ex (i : Int))[0]'(by omega)) ?_ ⟨by show 1 ≤ 100000; omega, ?_⟩)
          · have := atI_nat (rwg ex (i : Int)) 0
            rw [e0] at this
            exact this
          · show [_] = _
            rw [e0]; rfl
        · rw [if_neg (fun w => z (of_decide_eq_true w)), if_neg z]
          rfl
    · rintro c rfl
      refine ⟨?_, rfl⟩
      show _ ≤ 100000
      rw [List.length_append]
      split
      · cases (rwg ex (i : Int))[0]? <;> simp <;> omega
      · simp only [List.length_nil]; omega
  rintro lo hlo'
  have hlo' : lo = (rg (g.length : Int)).map fl := by rw [hlo', filt_true]
  have lol : lo.length = g.length := by rw [hlo', rg_nat]; simp
  have lorow : ∀ p, inR g p → rwg lo p = fl p := fun p hp => by
    have h1 : p.toNat < g.length := by have := hp.2; omega
    refine rwg_get hp.1 ?_
    rw [hlo', rg_nat, List.getElem?_map, List.getElem?_map, List.getElem?_range h1]
    show some (fl ((p.toNat : Nat) : Int)) = _
    rw [Int.toNat_of_nonneg hp.1]
  have hlong : ∀ p, rwg lo p = rwg g p ∨ ∃ x l e', rwg g p = x :: l ∧ rwg lo p = rwg g p ++ [e'] ∧ (∀ q ∈ x, q ∈ e') ∧ e' ∈ rwg ex p := fun p => by
    by_cases hp : inR g p
    · rw [lorow p hp]
      obtain ⟨i, rfl⟩ := Int.eq_ofNat_of_zero_le hp.1
      have hi1 : i < g.length := by have := hp.2; omega
      cases hrw : rwg g ((i : Nat) : Int) with
      | nil =>
        left
        show rwg g _ ++ _ = _
        rw [hrw]; rfl
      | cons x l =>
        right
        have hxl : (rwg ex (i : Int)).length = (rwg g (i : Int)).length := by rw [rwg_i hi1, rwg_i (show i < ex.length by omega)]; exact (exg i hi1).1
        have h0 : 0 < (rwg ex (i : Int)).length := by rw [hxl, hrw]; simp
        refine ⟨x, l, (rwg ex (i : Int))[0], rfl, ?_, fun q hq => ?_, List.getElem_mem _⟩
        · show rwg g _ ++ _ = _
          rw [hrw, if_pos (by simp), List.getElem?_eq_getElem h0]
          rfl
        · have hR := (exg i hi1).2 0 (by rw [← rwg_i hi1, hrw]; simp) (by rw [← rwg_i (show i < ex.length by omega)]; exact h0)
          obtain ⟨y, _, _, e⟩ := hR
          have e1 : (rwg ex (i : Int))[0] = (ex[i]'(by omega))[0]'(by rw [← rwg_i (show i < ex.length by omega)]; exact h0) := by simp only [rwg_i (show i < ex.length by omega)]
          have e2 : g[i][0]'(by rw [← rwg_i hi1, hrw]; simp) = x := by
            have : rwg g ((i : Nat) : Int) = g[i] := rwg_i hi1
            rw [this] at hrw
            simp only [hrw, List.getElem_cons_zero]
          rw [e1, e, e2]
          exact mem_sortU.mpr (List.mem_append_left _ hq)
    · left
      rw [rwg_none hp, rwg_none fun z => hp ⟨z.1, by rw [← lol]; exact z.2⟩]
  have hlk : OkG lo := ⟨by omega, by omega, fun row hr e he => by
    obtain ⟨i, hi1, rfl⟩ := List.mem_iff_getElem.mp hr
    rw [← rwg_i hi1] at he
    rw [lol]
    rcases hlong (i : Int) with q | ⟨x, l, e', q1, q2, _, q4⟩
    · rw [q] at he
      obtain ⟨j, hj, _, he⟩ := mem_rwg he
      exact h.ok _ (List.getElem_mem hj) e he
    · rw [q2] at he
      rcases List.mem_append.mp he with he | he
      · obtain ⟨j, hj, _, he⟩ := mem_rwg he
        exact h.ok _ (List.getElem_mem hj) e he
      · rw [List.mem_singleton.mp he]
        obtain ⟨j, hj, _, he⟩ := mem_rwg q4
        rw [← exl]
        exact hex.ok _ (List.getElem_mem hj) e' he⟩
  have hgl : OkGoal lo goal := ⟨hg.nd, fun p hp => by have := hg.ok p hp; omega⟩
  refine Pg.bnd_of (strong_of hlk hgl (k := Plan (rwg lo) (inb goal) sT fS) fun d hd => hd) ?_
  intro dl PL
  have eVl := longer_strong (rw := rwg g) (rw' := rwg lo) (b := inb goal) fun p => (hlong p).imp id fun ⟨x, l, e', a, b, c, _⟩ => ⟨x, l, e', a, b, c⟩
  have eDl : ∀ p, dget dl p = dget d p := fun p => by
    cases e : dget d p with
    | some v =>
      obtain ⟨n, w, hw, rfl⟩ := P.of e
      rw [← eVl] at hw
      exact PL.yes hw
    | none =>
      cases e' : dget dl p with
      | none => rfl
      | some v =>
        obtain ⟨n, w, hw, rfl⟩ := PL.of e'
        rw [eVl] at hw
        rw [P.yes hw] at e; cases e
  refine Pg.ask_of (dEq_of PL.nd P.nd eDl) ?_
  rw [Pg.ifG_pure, if_neg Bool.false_ne_true]
  -- one end alone
  simp only [Pg.comp_pure, Pg.pure_bnd, filt_true]
  let pl : Game := g.map fun row => row.map fun e => cut e none (some 1)
  have pll : pl.length = g.length := List.length_map _
  have plrow : ∀ p, rwg pl p = (rwg g p).map fun e => e.take 1 := fun p => by
    by_cases hp : inR g p
    · have h1 : p.toNat < g.length := by have := hp.2; omega
      rw [rwg_get hp.1 (row := (g[p.toNat]).map fun e => cut e none (some 1)) (by rw [List.getElem?_map, List.getElem?_eq_getElem h1]; rfl), rwg_get hp.1 (List.getElem?_eq_getElem h1)]
      exact List.map_congr_left fun e _ => cut_one e
    · rw [rwg_none hp, rwg_none fun z => hp ⟨z.1, by rw [← pll]; exact z.2⟩]
      rfl
  have plp : Plain (rwg pl) := fun p e he => by
    rw [plrow] at he
    obtain ⟨e0, h0, rfl⟩ := List.mem_map.mp he
    have := Y.ne p e0 h0
    cases e0 with
    | nil => exact absurd rfl this
    | cons x l => exact ⟨x, rfl⟩
  have hpk : OkG pl := ⟨by omega, by omega, fun row hr e he => by
    obtain ⟨r0, hr0, rfl⟩ := List.mem_map.mp hr
    obtain ⟨e0, he0, rfl⟩ := List.mem_map.mp he
    obtain ⟨a, b, c⟩ := h.ok r0 hr0 e0 he0
    rw [cut_one, pll]
    cases e0 with
    | nil => exact absurd rfl a
    | cons x l => exact ⟨by simp, fun q hq => b q (by simp at hq; simp [hq]), by simp⟩⟩
  have hgp : OkGoal pl goal := ⟨hg.nd, fun p hp => by have := hg.ok p hp; omega⟩
  have Yp := sys_of hpk hgp
  refine Pg.bnd_of (strong_of hpk hgp (k := Plan (rwg pl) (inb goal) sT fS) fun d hd => hd) ?_
  intro one P1
  refine Pg.bnd_of (cyclic_of hpk hgp (k := fun d => ∃ S, Great (rwg pl) (inb goal) (inR pl) S ∧ Plan (rwg pl) (inb goal) (cT S) fC d) fun d S a b => ⟨S, a, b⟩) ?_
  rintro two ⟨Sp, grp, P2⟩
  have eV := plain_cyclic plp Yp grp
  have l1 : one.length ≤ pl.length := P1.nd.len (inKey hpk hgp P1)
  have l2 : two.length ≤ pl.length := P2.nd.len fun p hp => by
    obtain ⟨n, hn⟩ := P2.key.mp hp
    exact G_I Yp hn
  refine Pg.bnd_of (Pg.or_of (b1 := false) (b2 := false) ⟨by show one.length < 64; omega, by show two.length < 64; omega, ?_⟩ fun _ => ?_) ?_
  · show (!decide _) = false
    rw [decide_eq_true (lt_unique (sortI_lt P1.nd) (sortI_lt P2.nd) fun p => ?_)]
    · rfl
    · rw [mem_sortI, mem_sortI, P1.key, P2.key]
      unfold G
      simp only [eV]
  · refine Pg.bnd_of (Pg.comp_of (fun _ => true) (fun _ => false) _ (fun _ _ => rfl) (fun p hp _ => ?_)) ?_
    · obtain ⟨n, hn⟩ := P1.key.mp hp
      obtain ⟨r, kk, hv⟩ := V_of_G hn
      have hv2 := hv
      rw [← eV] at hv2
      refine Pg.opt_of (P1.yes hv) (Pg.opt_of (P2.yes hv2) ?_)
      show (!decide _) = false
      rw [decide_eq_true (show (fS (r, kk)).2 = fC (r, kk) from rfl)]
      rfl
    · rintro l rfl
      show _ = false
      simp
  rintro z rfl
  rw [Pg.ifG_pure, if_neg (by simp)]
  refine Pg.ask_of (by omega) ?_
  refine Pg.bnd_of (p := fun c => c = Ctl.nx ()) ?_ (fun c hc => by subst hc; rfl)
  refine Pg.forc_of (fun _ _ => True) trivial (fun pre p post s e _ => ?_) (fun s _ => rfl)
  obtain ⟨rfl, hlt⟩ := rg_pre e
  have hR : inR pl (pre.length : Int) := ⟨by omega, by omega⟩
  have ok : RowsOk (rwg pl) := fun p e he => (hpk.ok _ (rwg_mem fun q => by rw [q] at he; cases he).2.2 e he).2.2
  refine Pg.bnd_of (weak_of hpk hR (goal := goal) (k := WkR (rwg pl) (inb goal) (pre.length : Int)) fun r hr => hr) ?_
  intro way hw
  have eW := plain_weak plp (b := inb goal)
  refine Pg.bnd_of (p := fun z => z = false) ?_ (fun z hz => by
    subst hz
    rw [Pg.ifG_pure, if_neg Bool.false_ne_true]
    exact trivial)
  cases way with
  | none =>
    have e0 : dget one (pre.length : Int) = none := by
      cases e : dget one (pre.length : Int) with
      | none => rfl
      | some v =>
        obtain ⟨n, w, hw', rfl⟩ := P1.of e
        have := hw.no n
        unfold G at this
        rw [eW, hw'] at this
        cases this
    refine Pg.or_of (b1 := false) (b2 := false) ?_ fun _ => ?_
    · show (!decide _) = false
      rw [e0]; rfl
    · refine Pg.bnd_of (Pg.and_of (b1 := false) (b2 := false) rfl fun z => by cases z) ?_
      rintro z rfl
      rfl
  | some w =>
    obtain ⟨k, hv⟩ := hw.rank ok
    rw [eW] at hv
    have e1 := P1.yes hv
    refine Pg.or_of (b1 := false) (b2 := false) ?_ fun _ => ?_
    · show (!decide _) = false
      rw [e1]; rfl
    · refine Pg.bnd_of (Pg.and_of (b1 := true) (b2 := false) rfl fun _ => Pg.opt_of rfl (Pg.opt_of e1 ?_)) ?_
      · show (!decide ((w.length : Int) = (w.length : Int))) = false
        simp
      · rintro z rfl
        rfl
end K42

/-! M10: names. -/
namespace K42
open PySem L2 Nz
theorem erase_perm {α : Type} : ∀ (l : List α) (i : Nat) (h : i < l.length), (l[i] :: l.eraseIdx i).Perm l
  | [], i, h => absurd h (Nat.not_lt_zero _)
  | x :: l, 0, _ => List.Perm.refl _
  | x :: l, i + 1, h => by
    have ih := erase_perm l i (by simpa using h)
    rw [List.getElem_cons_succ, List.eraseIdx_cons_succ]
    exact (List.Perm.swap x _ _).trans (ih.cons x)
def sg (names : List Int) (p : Int) : Int := (names[p.toNat]?).getD 0
/-- names for the places of g -/
structure OkN (g : Game) (names : List Int) : Prop where
  len : names.length = g.length
  nd : names.Nodup
  rng : ∀ x ∈ names, inR g x
section
variable {g : Game} {names : List Int}
theorem OkN.at' (O : OkN g names) {p : Int} (h : inR g p) : atI names p = some (sg names p) := by
  obtain ⟨i, rfl⟩ := Int.eq_ofNat_of_zero_le h.1
  have hi : i < names.length := by rw [O.len]; have := h.2; omega
  rw [atI_nat]
  unfold sg
  rw [Int.toNat_natCast, List.getElem?_eq_getElem hi]
  rfl
theorem OkN.mem (O : OkN g names) {p : Int} (h : inR g p) : sg names p ∈ names := by
  have hi : p.toNat < names.length := by rw [O.len]; have := h.2; omega
  unfold sg
  rw [List.getElem?_eq_getElem hi]
  exact List.getElem_mem hi
theorem OkN.im (O : OkN g names) {p : Int} (h : inR g p) : inR g (sg names p) := O.rng _ (O.mem h)
theorem OkN.inj (O : OkN g names) {p q : Int} (h : inR g p) (h' : inR g q) (e : sg names p = sg names q) : p = q := by
  have hi : p.toNat < names.length := by rw [O.len]; have := h.2; omega
  have hj : q.toNat < names.length := by rw [O.len]; have := h'.2; omega
  unfold sg at e
  rw [List.getElem?_eq_getElem hi, List.getElem?_eq_getElem hj] at e
  have := (List.getElem_inj O.nd (h₀ := hi) (h₁ := hj)).mp e
  have a := h.1
  have b := h'.1
  omega
theorem OkN.sur (O : OkN g names) {q : Int} (h : inR g q) : ∃ p, inR g p ∧ sg names p = q := by
  have hl : ((List.range g.length).map fun i => ((i : Nat) : Int)).length ≤ names.length := by simp [O.len]
  have nd2 : ((List.range g.length).map fun i => ((i : Nat) : Int)).Nodup := by
    unfold List.Nodup
    rw [List.pairwise_map]
    refine List.nodup_range.imp fun hne e => hne (by omega)
  have := nodup_sub_all (l := names) (m := (List.range g.length).map fun i => ((i : Nat) : Int)) O.nd (fun x hx => by
    have := O.rng x hx
    exact List.mem_map.mpr ⟨x.toNat, List.mem_range.mpr (by have := this.2; omega), by have := this.1; omega⟩) nd2 hl q (List.mem_map.mpr ⟨q.toNat, List.mem_range.mpr (by have := h.2; omega), by have := h.1; omega⟩)
  obtain ⟨i, hi, e⟩ := List.mem_iff_getElem.mp this
  refine ⟨(i : Int), ⟨by omega, by rw [← O.len]; omega⟩, ?_⟩
  unfold sg
  rw [Int.toNat_natCast, List.getElem?_eq_getElem hi]
  exact e
theorem OkN.nd_map (O : OkN g names) {l : List Int} (h : l.Nodup) (hr : ∀ p ∈ l, inR g p) : (l.map (sg names)).Nodup := by
  unfold List.Nodup
  rw [List.pairwise_map]
  refine List.pairwise_iff_getElem.mpr fun i j hi hj hij e => ?_
  have := O.inj (hr _ (List.getElem_mem hi)) (hr _ (List.getElem_mem hj)) e
  exact List.pairwise_iff_getElem.mp h i j hi hj hij this
def fN' (names : List Int) (e : List Int) : List Int := sortI (e.map (sg names))
/-- the game with other names -/
structure Oth (g : Game) (names : List Int) (o : Game) : Prop where
  len : o.length = g.length
  row : ∀ p, inR g p → rwg o (sg names p) = (rwg g p).map (fN' names)
theorem Oth.ok {o : Game} (h : OkG g) (O : OkN g names) (T : Oth g names o) : OkG o where
  lo := by rw [T.len]; exact h.lo
  hi := by rw [T.len]; exact h.hi
  ok := fun row hr e he => by
    obtain ⟨i, hi, rfl⟩ := List.mem_iff_getElem.mp hr
    obtain ⟨p, hp, e1⟩ := O.sur (q := (i : Int)) ⟨by omega, by rw [← T.len]; omega⟩
    have := T.row p hp
    rw [e1, rwg_i hi] at this
    rw [this] at he
    obtain ⟨e0, he0, rfl⟩ := List.mem_map.mp he
    obtain ⟨j, hj, _, he0⟩ := mem_rwg he0
    obtain ⟨a, b, c⟩ := h.ok _ (List.getElem_mem hj) e0 he0
    refine ⟨fun z => ?_, fun q hq => ?_, sortI_lt (O.nd_map (nodup_of_lt c) b)⟩
    · cases e0 with
      | nil => exact a rfl
      | cons x l =>
        have : sg names x ∈ fN' names (x :: l) := mem_sortI.mpr (by simp)
        rw [z] at this; cases this
    · obtain ⟨x, hx, rfl⟩ := List.mem_map.mp (mem_sortI.mp hq)
      rw [T.len]
      exact O.im (b x hx)
def mre (names goal : List Int) : List Int := sortI (goal.map (sg names))
theorem mre_iff {goal : List Int} (hg : OkGoal g goal) (O : OkN g names) {p : Int} (hp : inR g p) : sg names p ∈ mre names goal ↔ p ∈ goal := by
  unfold mre
  rw [mem_sortI, List.mem_map]
  constructor
  · rintro ⟨q, hq, e⟩
    rw [← O.inj (hg.ok q hq) hp e]; exact hq
  · intro h; exact ⟨p, h, rfl⟩
theorem mre_ok {goal : List Int} {o : Game} (hg : OkGoal g goal) (O : OkN g names) (T : Oth g names o) : OkGoal o (mre names goal) where
  nd := sortI_lt (O.nd_map (nodup_of_lt hg.nd) hg.ok)
  ok := fun p hp => by
    obtain ⟨q, hq, rfl⟩ := List.mem_map.mp (mem_sortI.mp hp)
    rw [T.len]
    exact O.im (hg.ok q hq)
theorem nam_of {goal : List Int} {o : Game} (h : OkG g) (hg : OkGoal g goal) (O : OkN g names) (T : Oth g names o) : Nam (rwg g) (rwg o) (inb goal) (inb (mre names goal)) (inR g) (sg names) where
  hb := fun p hp => by
    show decide _ = decide _
    congr 1
    exact propext (mre_iff hg O hp)
  row := fun p hp => ⟨fN' names, T.row p hp, fun e he x => by unfold fN'; rw [mem_sortI, List.mem_map]⟩
  ends := fun p hp e he q hq => (sys_of h hg).eI p e he q hq
  im := fun p hp => O.im hp
  inj := fun p q hp hq e => O.inj hp hq e
  sur := fun q hq => O.sur hq
/-- a dict and its names -/
structure Bent {α : Type} (g : Game) (names : List Int) (d b : List (Int × α)) : Prop where
  nd : NdK d
  nb : NdK b
  kd : ∀ p ∈ d.map (·.1), inR g p
  kb : ∀ p ∈ b.map (·.1), inR g p
  get : ∀ p, inR g p → dget b (sg names p) = dget d p
theorem Bent.keys {α : Type} {d b : List (Int × α)} (O : OkN g names) (B : Bent g names d b) : sortI (b.map (·.1)) = sortI ((d.map (·.1)).map (sg names)) :=
  lt_unique (sortI_lt B.nb) (sortI_lt (O.nd_map B.nd B.kd)) fun x => by
    rw [mem_sortI, mem_sortI]
    constructor
    · intro hx
      obtain ⟨p, hp, rfl⟩ := O.sur (B.kb x hx)
      exact List.mem_map.mpr ⟨p, by rw [← dget_isSome, B.get p hp] at hx; exact dget_isSome.mp hx, rfl⟩
    · intro hx
      obtain ⟨p, hp, rfl⟩ := List.mem_map.mp hx
      rw [← dget_isSome, B.get p (B.kd p hp)]
      exact dget_isSome.mpr hp
theorem bent_plan {α : Type} {goal : List Int} {o : Game} {t t' : Tst} {f : Nat × Option Nat → α} {d b : List (Int × α)} (h : OkG g) (hg : OkGoal g goal) (O : OkN g names) (T : Oth g names o) (P : Plan (rwg g) (inb goal) t f d) (P' : Plan (rwg o) (inb (mre names goal)) t' f b) (e : ∀ n p, inR g p → V (rwg o) (inb (mre names goal)) t' n (sg names p) = V (rwg g) (inb goal) t n p) : Bent g names d b where
  nd := P.nd
  nb := P'.nd
  kd := fun p hp => by obtain ⟨n, hn⟩ := P.key.mp hp; exact G_I (sys_of h hg) hn
  kb := fun p hp => by
    obtain ⟨n, hn⟩ := P'.key.mp hp
    have := G_I (sys_of (T.ok h O) (mre_ok hg O T)) hn
    exact ⟨this.1, by rw [← T.len]; exact this.2⟩
  get := fun p hp => by
    cases ed : dget d p with
    | some v =>
      obtain ⟨n, w, hw, rfl⟩ := P.of ed
      rw [← e n p hp] at hw
      exact P'.yes hw
    | none =>
      cases eb : dget b (sg names p) with
      | none => rfl
      | some v =>
        obtain ⟨n, w, hw, rfl⟩ := P'.of eb
        rw [e n p hp] at hw
        rw [P.yes hw] at ed; cases ed
/-- the two are judged alike -/
theorem tc_names {goal : List Int} {o : Game} {d b : DC} (h : OkG g) (hg : OkGoal g goal) (O : OkN g names) (T : Oth g names o) (B : Bent g names d b) : TC g goal d ↔ TC o (mre names goal) b := by
  have Y := sys_of h hg
  have inRo : ∀ {p}, inR o p ↔ inR g p := fun {p} => by unfold inR; rw [T.len]
  have hat : ∀ p j, inR g p → atI (rwg o (sg names p)) j = (atI (rwg g p) j).map (fN' names) := fun p j hp => by
    rw [T.row p hp]
    unfold atI
    rw [List.length_map]
    cases ixN (rwg g p).length j with
    | none => rfl
    | some i => exact List.getElem?_map
  have hends : ∀ p j e, inR g p → atI (rwg g p) j = some e → ∀ q ∈ e, inR g q := fun p j e hp he q hq => by
    refine Y.eI p e ?_ q hq
    unfold atI at he
    cases hj : ixN (rwg g p).length j with
    | none => rw [hj] at he; cases he
    | some i => rw [hj] at he; exact List.mem_of_getElem? he
  have hsome : ∀ p, inR g p → (dget b (sg names p)).isSome = (dget d p).isSome := fun p hp => by rw [B.get p hp]
  have hchk : ∀ p v, inR g p → (ChkC g goal d (p, v) ↔ ChkC o (mre names goal) b (sg names p, v)) := by
    intro p v hp
    have hc3 : (∀ j, v = some j → 0 ≤ j ∧ ∃ ends, atI (rwg g p) j = some ends ∧ ∀ e ∈ ends, (dget d e).isSome = true) ↔ ∀ j, v = some j → 0 ≤ j ∧ ∃ ends, atI (rwg o (sg names p)) j = some ends ∧ ∀ e ∈ ends, (dget b e).isSome = true := by
      refine forall_congr' fun j => imp_congr Iff.rfl (and_congr Iff.rfl ?_)
      rw [hat p j hp]
      constructor
      · rintro ⟨e, he, ha⟩
        refine ⟨fN' names e, by rw [he]; rfl, fun q hq => ?_⟩
        obtain ⟨x, hx, rfl⟩ := List.mem_map.mp (mem_sortI.mp hq)
        rw [hsome x (hends p j e hp he x hx)]
        exact ha x hx
      · rintro ⟨e', he', ha⟩
        obtain ⟨e, he, rfl⟩ := Option.map_eq_some_iff.mp he'
        refine ⟨e, he, fun q hq => ?_⟩
        rw [← hsome q (hends p j e hp he q hq)]
        exact ha _ (mem_sortI.mpr (List.mem_map_of_mem hq))
    exact ⟨fun ⟨_, a, c⟩ => ⟨inRo.mpr (O.im hp), fun z => (mre_iff hg O hp).mpr (a z), hc3.mp c⟩, fun ⟨_, a, c⟩ => ⟨hp, fun z => (mre_iff hg O hp).mp (a z), hc3.mpr c⟩⟩
  have N : Nam (rwP g d) (rwP o b) (bP d) (bP b) (inR g) (sg names) := {
    hb := fun p hp => by unfold bP; rw [B.get p hp]
    row := fun p hp => ⟨fN' names, by
      unfold rwP
      rw [B.get p hp]
      cases dget d p with
      | none => rfl
      | some v =>
        cases v with
        | none => rfl
        | some j =>
          show (atI (rwg o (sg names p)) j).toList = ((atI (rwg g p) j).toList).map _
          rw [hat p j hp]
          cases atI (rwg g p) j <;> rfl, fun e he x => by unfold fN'; rw [mem_sortI, List.mem_map]⟩
    ends := fun p hp e he q hq => by
      unfold rwP at he
      cases ed : dget d p with
      | none => rw [ed] at he; cases he
      | some v =>
        rw [ed] at he
        cases v with
        | none => cases he
        | some j =>
          have he : e ∈ (atI (rwg g p) j).toList := he
          exact hends p j e hp (by simpa using he) q hq
    im := fun p hp => O.im hp
    inj := fun p q hp hq e => O.inj hp hq e
    sur := fun q hq => O.sur hq }
  have eG : ∀ n p, inR g p → G (rwP o b) (bP b) anyT n (sg names p) = G (rwP g d) (bP d) anyT n p := fun n p hp => by unfold G; rw [names_weak N n p hp]
  constructor
  · rintro ⟨h1, h2⟩
    refine ⟨fun x hx => ?_, fun q hq => ?_⟩
    · obtain ⟨p, hp, e⟩ := O.sur (B.kb x.1 (List.mem_map_of_mem hx))
      have ex : x = (sg names p, x.2) := by rw [e]
      have hb := B.nb.get hx
      rw [← e, B.get p hp] at hb
      rw [ex]
      exact (hchk p x.2 hp).mp (h1 (p, x.2) (dget_mem hb))
    · obtain ⟨p, hp, rfl⟩ := O.sur (B.kb q hq)
      rw [← dget_isSome, B.get p hp] at hq
      obtain ⟨n, hn⟩ := h2 p (dget_isSome.mp hq)
      exact ⟨n, by rw [eG n p hp]; exact hn⟩
  · rintro ⟨h1, h2⟩
    refine ⟨fun x hx => ?_, fun p hp => ?_⟩
    · have hp := B.kd x.1 (List.mem_map_of_mem hx)
      have hd := B.nd.get hx
      rw [← B.get x.1 hp] at hd
      exact (hchk x.1 x.2 hp).mpr (h1 (sg names x.1, x.2) (dget_mem hd))
    · have hpR := B.kd p hp
      rw [← dget_isSome, ← B.get p hpR] at hp
      obtain ⟨n, hn⟩ := h2 _ (dget_isSome.mp hp)
      exact ⟨n, by rw [← eG n p hpR]; exact hn⟩
/-- filling a dict by names -/
theorem bent_puts {α : Type} {d : List (Int × α)} (O : OkN g names) (nd : NdK d) (kd : ∀ p ∈ d.map (·.1), inR g p) (v : Int → α) (hv : ∀ p w, dget d p = some w → v p = w) : Bent g names d ((d.map (·.1)).foldl (fun s x => dput s (sg names x) (v x)) []) := by
  have key : ∀ (l : List Int) (s : List (Int × α)), (∀ p ∈ l, inR g p) → NdK s → NdK (l.foldl (fun s x => dput s (sg names x) (v x)) s) ∧ (∀ q, q ∈ (l.foldl (fun s x => dput s (sg names x) (v x)) s).map (·.1) ↔ q ∈ s.map (·.1) ∨ ∃ p ∈ l, sg names p = q) ∧ ∀ p, inR g p → dget (l.foldl (fun s x => dput s (sg names x) (v x)) s) (sg names p) = if p ∈ l then some (v p) else dget s (sg names p) := by
    intro l
    induction l with
    | nil => intro s _ n; exact ⟨n, fun q => by simp, fun p _ => by simp⟩
    | cons x l ih =>
      intro s hl n
      obtain ⟨a, b, c⟩ := ih (dput s (sg names x) (v x)) (fun p hp => hl p (by simp [hp])) (n.dput _ _)
      refine ⟨a, fun q => ?_, fun p hp => ?_⟩
      · rw [List.foldl_cons, b, mem_keys_dput]
        constructor
        · rintro ((rfl | h) | ⟨p, hp, rfl⟩)
          · exact .inr ⟨x, by simp, rfl⟩
          · exact .inl h
          · exact .inr ⟨p, by simp [hp], rfl⟩
        · rintro (h | ⟨p, hp, rfl⟩)
          · exact .inl (.inr h)
          · rcases List.mem_cons.mp hp with rfl | hp
            · exact .inl (.inl rfl)
            · exact .inr ⟨p, hp, rfl⟩
      · rw [List.foldl_cons, c p hp, dget_dput]
        by_cases h1 : p ∈ l
        · simp [h1]
        · by_cases h2 : p = x
          · subst h2; simp [h1]
          · have : ¬ sg names p = sg names x := fun e => h2 (O.inj hp (hl x (by simp)) e)
            simp [h1, h2, this]
  obtain ⟨a, b, c⟩ := key (d.map (·.1)) [] kd List.nodup_nil
  refine ⟨nd, a, kd, fun q hq => ?_, fun p hp => ?_⟩
  · rcases (b q).mp hq with hq | ⟨p, hp, rfl⟩
    · cases hq
    · exact O.im (kd p hp)
  · rw [c p hp]
    cases e : dget d p with
    | none => rw [if_neg (dget_none.mp e)]; rfl
    | some w => rw [if_pos (dget_isSome.mp (by rw [e]; rfl)), hv p w e]
end
theorem names_right_of {g : Game} {goal : List Int} {start : Int} (h : OkG g) (hg : OkGoal g goal) (hs : inR g start) : (m_law_names_right (g, goal, start)).wp fun b => b = true := by
  have Y := sys_of h hg
  have hi := h.hi
  have hlo := h.lo
  have gl : goal.length ≤ g.length := len_rng (nodup_of_lt hg.nd) hg.ok
  unfold m_law_names_right
  refine Pg.out_of ?_
  simp only [Pg.pure_bnd]
  refine Pg.ask_of (by show -100000 ≤ (g.length : Int) ∧ (g.length : Int) ≤ 100000; omega) (Pg.ask_of (by show -100000 ≤ (g.length : Int) ∧ (g.length : Int) ≤ 100000; omega) ?_)
  refine Pg.bnd_of (p := fun c => ∃ left names, c = Ctl.nx (left, names) ∧ OkN g names) ?_ ?_
  · refine Pg.forc_of (fun pre s => s.2.length = pre.length ∧ (s.2 ++ s.1).Perm (rg (g.length : Int))) ⟨rfl, by simp⟩ (fun pre x post s e I => ?_) (fun s I => ?_)
    · obtain ⟨left, names⟩ := s
      obtain ⟨hl, hp⟩ := I
      have hl : names.length = pre.length := hl
      have hp : (names ++ left).Perm (rg (g.length : Int)) := hp
      obtain ⟨rfl, hlt⟩ := rg_pre e
      have hpl := hp.length_eq
      rw [rg_nat] at hpl
      simp only [List.length_append, List.length_map, List.length_range] at hpl
      refine ⟨by show (0 : Int) < (left.length : Int) ∧ (left.length : Int) < 1073741824; omega, fun r hr0 hr1 => ?_⟩
      have hr1 : r < (left.length : Int) := hr1
      have hr2 : r.toNat < left.length := by omega
      refine ⟨by show 0 ≤ r ∧ r ≤ 100000 ∧ names.length < 100000; omega, left[r.toNat], List.getElem?_eq_getElem hr2, ?_, ?_⟩
      · show (names ++ [_]).length = (pre ++ [_]).length
        rw [List.length_append, List.length_append, hl]; rfl
      · show ((names ++ [left[r.toNat]]) ++ left.eraseIdx r.toNat).Perm _
        rw [List.append_assoc]
        refine (List.Perm.append_left names ?_).trans hp
        exact erase_perm left r.toNat hr2
    · obtain ⟨left, names⟩ := s
      obtain ⟨hl, hp⟩ := I
      have hp : (names ++ left).Perm (rg (g.length : Int)) := hp
      have el : (rg (g.length : Int)).length = g.length := by rw [rg_nat]; simp
      have hl0 : names.length = g.length := by rw [← el]; exact hl
      have hpl := hp.length_eq
      rw [el, List.length_append] at hpl
      have h0 : left = [] := List.length_eq_zero_iff.mp (by omega)
      clear hl
      subst h0
      rw [List.append_nil] at hp
      have nd2 : (rg (g.length : Int)).Nodup := by
        rw [rg_nat]
        unfold List.Nodup
        rw [List.pairwise_map]
        exact List.nodup_range.imp fun hne e => hne (by omega)
      refine ⟨_, names, rfl, hl0, hp.nodup_iff.mpr nd2, fun x hx => ?_⟩
      have := hp.subset hx
      rw [rg_nat] at this
      obtain ⟨i, hi, rfl⟩ := List.mem_map.mp this
      have := List.mem_range.mp hi
      exact ⟨by omega, by omega⟩
  rintro c ⟨left, names, rfl, O⟩
  rw [seqG_nx]
  have hn := O.len
  refine Pg.ask_of (by show 0 ≤ 100000; omega) (Pg.ask_of (by show 1 ≤ 100000; omega) (Pg.ask_of ⟨by show (-100000 : Int) ≤ (g.length : Int); omega, by show (g.length : Int) ≤ 100000; omega, by show 1 * ((g.length : Int)).toNat ≤ 100000; omega⟩ (Pg.ask_of (by show -100000 ≤ (g.length : Int) ∧ (g.length : Int) ≤ 100000; omega) ?_)))
  -- the other game
  refine Pg.bnd_of (p := fun c => ∃ o, c = Ctl.nx o ∧ Oth g names o) ?_ ?_
  · refine Pg.forc_of (fun pre s => s.length = g.length ∧ ∀ i : Nat, i < pre.length → s[(sg names (i : Int)).toNat]? = some ((rwg g (i : Int)).map (fN' names))) ⟨by simp, by simp⟩ (fun pre x post s e I => ?_) (fun s I => ?_)
    · obtain ⟨hsl, hsr⟩ := I
      obtain ⟨rfl, hlt⟩ := rg_pre e
      have hR : inR g (pre.length : Int) := ⟨by omega, by omega⟩
      refine Pg.opt_of (rwg_at hR.1 hR.2) ?_
      refine Pg.bnd_of (Pg.comp_of (fun _ => true) (fN' names) _ (fun _ _ => rfl) (fun e he _ => ?_)) ?_
      · refine Pg.bnd_of (Pg.comp_of (fun _ => true) (sg names) _ (fun _ _ => rfl) (fun q hq _ => Pg.opt_of (O.at' (Y.eI _ e he q hq)) rfl)) ?_
        rintro l rfl
        rw [filt_true]
        rfl
      rintro l rfl
      rw [filt_true]
      have him := O.im hR
      have h1 : (sg names (pre.length : Int)).toNat < s.length := by rw [hsl]; have := him.2; omega
      refine Pg.opt_of (O.at' hR) (Pg.opt_of (a := (sg names (pre.length : Int)).toNat) ?_ ⟨?_, fun i hi => ?_⟩)
      · unfold ixN
        rw [if_pos him.1, if_pos (by rw [hsl]; exact him.2)]
      · show (s.set _ _).length = _
        rw [List.length_set]; exact hsl
      · show (s.set _ _)[_]? = _
        rw [List.length_append] at hi
        simp only [List.length_cons, List.length_nil] at hi
        by_cases z : i = pre.length
        · subst z
          rw [List.getElem?_set_self h1]
        · have hRi : inR g (i : Int) := ⟨by omega, by omega⟩
          rw [List.getElem?_set_ne (fun e => by
            have a := him.1
            have b := (O.im hRi).1
            have := O.inj hR hRi (by omega)
            omega)]
          exact hsr i (by omega)
    · obtain ⟨hsl, hsr⟩ := I
      have el : (rg (g.length : Int)).length = g.length := by rw [rg_nat]; simp
      rw [el] at hsr
      refine ⟨s, rfl, hsl, fun p hp => ?_⟩
      obtain ⟨i, rfl⟩ := Int.eq_ofNat_of_zero_le hp.1
      exact rwg_get (O.im hp).1 (hsr i (by have := hp.2; omega))
  rintro c ⟨o, rfl, T⟩
  rw [seqG_nx]
  simp only [Pg.pure_bnd]
  have ho := T.ok h O
  have hgo := mre_ok hg O T
  have Yo := sys_of ho hgo
  have N := nam_of h hg O T
  have inRo : inR o = inR g := funext fun p => by unfold inR; rw [T.len]
  have hol := T.len
  refine Pg.bnd_of (Pg.comp_of (fun _ => true) (sg names) _ (fun _ _ => rfl) (fun q hq _ => Pg.opt_of (O.at' (hg.ok q hq)) rfl)) ?_
  rintro l rfl
  rw [filt_true]
  show Pg.wp (m_strong_plan (g, goal) >>= _) _
  refine Pg.bnd_of (strong_of h hg (k := Plan (rwg g) (inb goal) sT fS) fun d hd => hd) ?_
  intro d P
  refine Pg.bnd_of (strong_of ho hgo (k := Plan (rwg o) (inb (mre names goal)) sT fS) fun d hd => hd) ?_
  intro b P'
  refine Pg.bnd_of (cyclic_of h hg (k := fun d => ∃ S, Great (rwg g) (inb goal) (inR g) S ∧ Plan (rwg g) (inb goal) (cT S) fC d) fun d S a b => ⟨S, a, b⟩) ?_
  rintro dc ⟨S, gr, Pc⟩
  refine Pg.bnd_of (cyclic_of ho hgo (k := fun d => ∃ S, Great (rwg o) (inb (mre names goal)) (inR o) S ∧ Plan (rwg o) (inb (mre names goal)) (cT S) fC d) fun d S a b => ⟨S, a, b⟩) ?_
  rintro bc ⟨S', gr', Pc'⟩
  rw [inRo] at gr'
  have B1 := bent_plan h hg O T P P' (names_strong N)
  have B2 := bent_plan h hg O T Pc Pc' (names_cT N (names_great N gr gr'))
  refine Pg.ask_of (by show 2 ≤ 100000; omega) ?_
  have part : ∀ {α : Type} [DecidableEq α] {d b : List (Int × α)}, Bent g names d b → (Pg.orG (Pg.ask (b.length < 64) >>= fun _ => (Pg.comp (d.map (·.1)) (fun _ => pure true) (fun y => Pg.opt (atI names y) >>= fun e => pure e) >>= fun l => pure (!decide (sortI (b.map (·.1)) = sortI l))))
      (Pg.comp (d.map (·.1)) (fun _ => pure true) (fun y => Pg.opt (atI names y) >>= fun e => Pg.opt (dget b e) >>= fun e1 => Pg.opt (dget d y) >>= fun e2 => pure (!decide (e1 = e2))) >>= fun l => pure (l.any id))).wp fun z => z = false := by
    intro α _ d b B
    have bl : b.length ≤ g.length := B.nb.len B.kb
    refine Pg.or_of (b1 := false) (b2 := false) (Pg.ask_of (by omega) ?_) fun _ => ?_
    · refine Pg.bnd_of (Pg.comp_of (fun _ => true) (sg names) _ (fun _ _ => rfl) (fun q hq _ => Pg.opt_of (O.at' (B.kd q hq)) rfl)) ?_
      rintro l rfl
      rw [filt_true]
      show (!decide _) = false
      rw [decide_eq_true (B.keys O)]
      rfl
    · refine Pg.bnd_of (Pg.comp_of (fun _ => true) (fun _ => false) _ (fun _ _ => rfl) (fun p hp _ => ?_)) ?_
      · obtain ⟨v, e⟩ := Option.isSome_iff_exists.mp (dget_isSome.mpr hp)
        refine Pg.opt_of (O.at' (B.kd p hp)) (Pg.opt_of (a := v) (by rw [B.get p (B.kd p hp)]; exact e) (Pg.opt_of e ?_))
        show (!decide (v = v)) = false
        simp
      · rintro l rfl
        show _ = false
        simp
  refine Pg.bnd_of (p := fun c => c = Ctl.nx ()) ?_ ?_
  · refine Pg.forc_of (fun _ _ => True) trivial (fun pre z post s e _ => ?_) (fun s _ => rfl)
    have hz : z = Sum.inl (d, b) ∨ z = Sum.inr (dc, bc) := by
      have : z ∈ [Sum.inl (d, b), Sum.inr (dc, bc)] := by rw [e]; simp
      simpa using this
    rcases hz with rfl | rfl
    · refine Pg.bnd_of (part B1) ?_
      rintro z rfl
      rw [Pg.ifG_pure, if_neg Bool.false_ne_true]
      exact trivial
    · refine Pg.bnd_of (part B2) ?_
      rintro z rfl
      rw [Pg.ifG_pure, if_neg Bool.false_ne_true]
      exact trivial
  rintro c rfl
  rw [seqG_nx]
  -- ways
  have hso : inR o (sg names start) := by rw [inRo]; exact O.im hs
  have ok : RowsOk (rwg g) := fun p e he => (h.ok _ (rwg_mem fun q => by rw [q] at he; cases he).2.2 e he).2.2
  have oko : RowsOk (rwg o) := fun p e he => (ho.ok _ (rwg_mem fun q => by rw [q] at he; cases he).2.2 e he).2.2
  refine Pg.bnd_of (weak_of h hs (goal := goal) (k := WkR (rwg g) (inb goal) start) fun r hr => hr) ?_
  intro way hw
  refine Pg.opt_of (O.at' hs) ?_
  refine Pg.bnd_of (weak_of ho hso (goal := mre names goal) (k := WkR (rwg o) (inb (mre names goal)) (sg names start)) fun r hr => hr) ?_
  intro told ht
  have eW := fun n => names_weak N n start hs
  refine Pg.bnd_of (p := fun z => z = false) ?_ ?_
  · cases way with
    | none =>
      cases told with
      | none =>
        refine Pg.or_of (b1 := false) (b2 := false) (by show (!decide _) = false; simp) fun _ => ?_
        refine Pg.bnd_of (Pg.and_of (b1 := false) (b2 := false) rfl fun z => by cases z) ?_
        rintro z rfl
        rfl
      | some w =>
        exfalso
        have h1 := (ht.yes oko).1
        have h2 := hw.no w.length
        unfold G at h1 h2
        rw [eW, h2] at h1
        cases h1
    | some w =>
      cases told with
      | none =>
        exfalso
        have h1 := (hw.yes ok).1
        have h2 := ht.no w.length
        unfold G at h1 h2
        rw [eW, h1] at h2
        cases h2
      | some w' =>
        obtain ⟨k, hv⟩ := hw.rank ok
        obtain ⟨k', hv'⟩ := ht.rank oko
        rw [eW] at hv'
        have el : w.length = w'.length := by
          rcases Nat.le_total w.length w'.length with q | q
          · have := V_mono hv q
            rw [hv'] at this
            exact (congrArg Prod.fst (Option.some.inj this)).symm
          · have := V_mono hv' q
            rw [hv] at this
            exact congrArg Prod.fst (Option.some.inj this)
        refine Pg.or_of (b1 := false) (b2 := false) (by show (!decide _) = false; simp) fun _ => ?_
        refine Pg.bnd_of (Pg.and_of (b1 := true) (b2 := false) rfl fun _ => Pg.opt_of rfl (Pg.opt_of rfl ?_)) ?_
        · show (!decide _) = false
          rw [decide_eq_true (by rw [el])]
          rfl
        · rintro z rfl
          rfl
  rintro z rfl
  rw [Pg.ifG_pure, if_neg Bool.false_ne_true]
  refine Pg.ask_of (by show -100000 ≤ (g.length : Int) ∧ (g.length : Int) ≤ 100000; omega) ?_
  -- a drawn plan
  refine Pg.bnd_of (p := fun c => ∃ pl : DC, c = Ctl.nx pl ∧ NdK pl ∧ ∀ p ∈ pl.map (·.1), inR g p) ?_ ?_
  · refine Pg.forc_of (fun pre (s : DC) => NdK s ∧ ∀ p ∈ s.map (·.1), inR g p) ⟨List.nodup_nil, by simp⟩ (fun pre x post s e I => ?_) (fun s I => ⟨s, rfl, I⟩)
    obtain ⟨nd, hr⟩ := I
    obtain ⟨rfl, hlt⟩ := rg_pre e
    have hsl : s.length ≤ g.length := nd.len hr
    refine ⟨by omega, fun r hr0 hr1 => ?_⟩
    change Pg.wp (Pg.iteG _ _ _ _) _
    rw [iteG_pure]
    split
    · rw [Pg.ifG_pure]
      have step : ∀ v : Option Int, NdK (dput s (pre.length : Int) v) ∧ ∀ p ∈ (dput s (pre.length : Int) v).map (·.1), inR g p := fun v => ⟨nd.dput _ _, fun p hp => by
        rcases mem_keys_dput.mp hp with rfl | hp
        · exact ⟨by omega, by omega⟩
        · exact hr p hp⟩
      split
      · exact ⟨by show s.length < 100000; omega, step none⟩
      · exact ⟨by show s.length < 100000; omega, step (some 0)⟩
    · exact ⟨nd, hr⟩
  rintro c ⟨plan, rfl, pnd, pk⟩
  rw [seqG_nx]
  have pll : plan.length ≤ g.length := pnd.len pk
  let vp : Int → Option Int := fun p => (dget plan p).getD none
  have hvp : ∀ p w, dget plan p = some w → vp p = w := fun p w e => by show (dget plan p).getD none = w; rw [e]; rfl
  refine Pg.bnd_of (p := fun c => c = Ctl.nx ((plan.map (·.1)).foldl (fun s x => dput s (sg names x) (vp x)) [])) ?_ ?_
  · refine Pg.forc_fold (fun s x => dput s (sg names x) (vp x)) (fun s => NdK s ∧ ∀ p ∈ s.map (·.1), inR g p) ⟨List.nodup_nil, by simp⟩ (fun x hx s J => ?_) rfl
    obtain ⟨v, e⟩ := Option.isSome_iff_exists.mp (dget_isSome.mpr hx)
    have hxR := pk x hx
    have sl : s.length ≤ g.length := J.1.len J.2
    refine ⟨⟨J.1.dput _ _, fun p hp => ?_⟩, v, e, _, O.at' hxR, by show s.length < 100000; omega, ?_⟩
    · rcases mem_keys_dput.mp hp with rfl | hp
      · exact O.im hxR
      · exact J.2 p hp
    · show Ctl.nx _ = Ctl.nx _
      rw [hvp x v e]
  rintro c rfl
  rw [seqG_nx]
  have B3 := bent_puts O pnd pk vp hvp
  refine Pg.bnd_of (takes_cyclic_of h pnd (goal := goal) (k := fun z => z = true ↔ TC g goal plan) (fun q => ⟨fun _ => q, fun _ => rfl⟩) fun q => ⟨fun z => (by cases z), fun z => (q z).elim⟩) ?_
  intro r79 h79
  refine Pg.bnd_of (takes_cyclic_of ho B3.nb (goal := mre names goal) (k := fun z => z = true ↔ TC o (mre names goal) _) (fun q => ⟨fun _ => q, fun _ => rfl⟩) fun q => ⟨fun z => (by cases z), fun z => (q z).elim⟩) ?_
  intro r80 h80
  have e79 : r79 = r80 := Bool.eq_iff_iff.mpr (h79.trans ((tc_names h hg O T B3).trans h80.symm))
  rw [Pg.ifG_pure, if_neg (by rw [decide_eq_true e79]; exact Bool.false_ne_true)]
  -- plans of steps with other names
  refine Pg.bnd_of (strong_of h hg (k := Plan (rwg g) (inb goal) sT fS) fun d hd => hd) ?_
  intro d4 P4
  have k4 : ∀ p ∈ d4.map (·.1), inR g p := fun p hp => by obtain ⟨n, hn⟩ := P4.key.mp hp; exact G_I Y hn
  let sh : Int × Option Int → Int × Option Int := fun v => (if 0 < v.1 then v.1 + 3 else 0, v.2)
  let v4 : Int → Int × Option Int := fun p => sh ((dget d4 p).getD (0, none))
  refine Pg.bnd_of (p := fun c => c = Ctl.nx ((d4.map (·.1)).foldl (fun s x => dput s (sg names x) (v4 x)) [])) ?_ ?_
  · refine Pg.forc_fold (fun s x => dput s (sg names x) (v4 x)) (fun s => NdK s ∧ ∀ p ∈ s.map (·.1), inR g p) ⟨List.nodup_nil, by simp⟩ (fun x hx s J => ?_) rfl
    obtain ⟨v, e⟩ := Option.isSome_iff_exists.mp (dget_isSome.mpr hx)
    have hxR := k4 x hx
    have sl : s.length ≤ g.length := J.1.len J.2
    refine ⟨⟨J.1.dput _ _, fun p hp => ?_⟩, ?_⟩
    · rcases mem_keys_dput.mp hp with rfl | hp
      · exact O.im hxR
      · exact J.2 p hp
    · refine Pg.bnd_of (p := fun z => z = if 0 < v.1 then v.1 + 3 else 0) ?_ ?_
      · refine Pg.if_of (b := decide (0 < v.1)) (Pg.opt_of e rfl) ?_
        by_cases z : 0 < v.1
        · rw [if_pos (decide_eq_true z), if_pos z]
          exact Pg.opt_of e rfl
        · rw [if_neg (fun w => z (of_decide_eq_true w)), if_neg z]
          rfl
      · rintro z rfl
        refine ⟨v, e, _, O.at' hxR, by show s.length < 100000; omega, ?_⟩
        show Ctl.nx _ = Ctl.nx _
        congr 2
        show _ = sh ((dget d4 x).getD (0, none))
        rw [e]
        rfl
  rintro c rfl
  rw [seqG_nx]
  let d5 : DS := d4.map fun x => (x.1, sh x.2)
  have g5 : ∀ p, dget d5 p = (dget d4 p).map sh := by
    intro p
    have : ∀ l : DS, dget (l.map fun x => (x.1, sh x.2)) p = (dget l p).map sh := by
      intro l
      induction l with
      | nil => rfl
      | cons x l ih =>
        rw [List.map_cons]
        unfold dget
        split
        · rfl
        · exact ih
    exact this d4
  have k5 : d5.map (·.1) = d4.map (·.1) := by show List.map _ (List.map _ _) = _; rw [List.map_map]; rfl
  have B5 := bent_puts (d := d5) O (by unfold NdK; rw [k5]; exact P4.nd) (by rw [k5]; exact k4) v4 fun p w e => by
    rw [g5, Option.map_eq_some_iff] at e
    obtain ⟨v, e, rfl⟩ := e
    show sh ((dget d4 p).getD (0, none)) = _
    rw [e]; rfl
  rw [k5] at B5
  refine Pg.bnd_of (takes_strong_of ho (goal := mre names goal) (fun x hx => ?_) (k := fun z => z = true) rfl) ?_
  · obtain ⟨p, hp, e⟩ := O.sur (B5.kb x.1 (List.mem_map_of_mem hx))
    have e5 := B5.nb.get hx
    rw [← e, B5.get p hp, g5, Option.map_eq_some_iff] at e5
    obtain ⟨v, e4, ev⟩ := e5
    obtain ⟨_, t0, tz, ts⟩ := plan_TS h hg P4 (p, v) (dget_mem e4)
    have ex1 : x.2.1 = if 0 < v.1 then v.1 + 3 else 0 := by rw [← ev]
    have ex2 : x.2.2 = v.2 := by rw [← ev]
    simp only at t0 tz ts
    refine ⟨by rw [inRo, ← e]; exact O.im hp, by rw [ex1]; split <;> omega, fun z => ?_, fun z => ?_⟩
    · rw [← e]
      refine (mre_iff hg O hp).mpr (tz ?_)
      rw [ex1] at z
      split at z <;> omega
    · rw [ex1] at z
      have hv : 0 < v.1 := by split at z <;> omega
      obtain ⟨j, ends, he, hk, hall⟩ := ts hv
      refine ⟨j, fN' names ends, ?_, by rw [ex2]; exact hk, fun q hq => ?_⟩
      · rw [← e, T.row p hp, List.getElem?_map, he]; rfl
      · obtain ⟨y, hy, rfl⟩ := List.mem_map.mp (mem_sortI.mp hq)
        obtain ⟨w, hw, lt⟩ := hall y hy
        have hyR : inR g y := Y.eI p ends (List.mem_of_getElem? he) y hy
        refine ⟨sh w, by rw [B5.get y hyR, g5, hw]; rfl, ?_⟩
        rw [ex1, if_pos hv]
        show (if 0 < w.1 then w.1 + 3 else 0) < v.1 + 3
        split <;> omega
  rintro z rfl
  show decide _ = true
  exact decide_eq_true rfl
end K42

/-! M11: the draw; the law. -/
namespace K42
open PySem L2 Nz
theorem comp_sub {α : Type} {t : α → Pg Bool} : ∀ (xs : List α), (∀ x ∈ xs, (t x).wp fun _ => True) → (Pg.comp xs t (fun x => pure x)).wp fun l => l.Sublist xs
  | [], _ => List.Sublist.refl _
  | x :: xs, h => by
    show Pg.wp (t x) _
    refine (t x).mono ?_ (h x (by simp))
    intro b _
    have ih := comp_sub xs fun y hy => h y (by simp [hy])
    cases b with
    | true =>
      rw [if_pos rfl]
      refine (Pg.comp xs t (fun x => pure x)).mono ?_ ih
      intro l hl
      exact hl.cons_cons x
    | false =>
      rw [if_neg Bool.false_ne_true]
      refine (Pg.comp xs t (fun x => pure x)).mono ?_ ih
      intro l hl
      exact hl.cons x
/-- a drawn game -/
structure Drawn (many : Nat) (g : Game) : Prop where
  len : g.length = many
  row : ∀ row ∈ g, row.length ≤ 2 ∧ ∀ e ∈ row, e ≠ [] ∧ (∀ q ∈ e, 0 ≤ q ∧ q < (many : Int)) ∧ e.Pairwise (· < ·)
theorem flat_le : ∀ (g : Game), (∀ row ∈ g, row.length ≤ 2) → g.flatten.length ≤ 2 * g.length
  | [], _ => by simp
  | r :: g, h => by
    have a := h r (by simp)
    have b := flat_le g fun r hr => h r (by simp [hr])
    rw [List.flatten_cons, List.length_append, List.length_cons]
    omega
theorem draw_of {many : Nat} (h1 : 1 ≤ many) (h2 : many ≤ 7) {k : Game → Prop} (q : ∀ g, Drawn many g → k g) : (m_law_draw ((many : Int), 3)).wp k := by
  unfold m_law_draw
  refine Pg.out_of ?_
  simp only [Pg.pure_bnd]
  refine Pg.ask_of (by show -100000 ≤ (many : Int) ∧ (many : Int) ≤ 100000; omega) ?_
  let RowD : List (List Int) → Prop := fun row => row.length ≤ 2 ∧ ∀ e ∈ row, e ≠ [] ∧ (∀ q ∈ e, 0 ≤ q ∧ q < (many : Int)) ∧ e.Pairwise (· < ·)
  refine Pg.bnd_of (p := fun c => ∃ g, c = Ctl.nx g ∧ Drawn many g) ?_ (fun c hc => by
    obtain ⟨g, rfl, hg⟩ := hc
    rw [seqG_nx]
    exact q g hg)
  refine Pg.forc_of (fun pre (s : Game) => s.length = pre.length ∧ ∀ row ∈ s, RowD row) ⟨rfl, by simp⟩ (fun pre x post s e I => ?_) (fun s I => ⟨s, rfl, by rw [I.1, rg_nat]; simp, I.2⟩)
  obtain ⟨hl, hr⟩ := I
  obtain ⟨rfl, hlt⟩ := rg_pre e
  refine ⟨by omega, fun r hr0 hr1 => ?_⟩
  refine ⟨by omega, ?_⟩
  change Pg.wp (_ >>= _) _
  refine Pg.bnd_of (p := fun c => ∃ row, c = Ctl.nx row ∧ RowD row) ?_ ?_
  · refine Pg.forc_of (fun pre2 (s : List (List Int)) => s.length = pre2.length ∧ ∀ e ∈ s, e ≠ [] ∧ (∀ q ∈ e, 0 ≤ q ∧ q < (many : Int)) ∧ e.Pairwise (· < ·)) ⟨rfl, by simp⟩ (fun pre2 y post2 s2 e2 I2 => ?_) (fun s2 I2 => ⟨s2, rfl, ?_, I2.2⟩)
    · obtain ⟨hl2, hr2⟩ := I2
      have hp2 : pre2.length < 2 + 1 := by
        have e3 := congrArg List.length e2
        unfold rg at e3
        simp only [List.length_map, List.length_range, List.length_append, List.length_cons] at e3
        omega
      refine ⟨by show (0 : Int) < 3 ∧ (3 : Int) < 1073741824; omega, fun m hm0 hm1 => ?_⟩
      have hm1 : m < 3 := hm1
      refine ⟨by omega, ?_⟩
      change Pg.wp (_ >>= _) _
      refine Pg.bnd_of (comp_rel (R := fun _ z => 0 ≤ z ∧ z < (many : Int)) (rg (1 + m)) fun w _ => ⟨by show (0 : Int) < (many : Int) ∧ (many : Int) < 1073741824; omega, fun z hz0 hz1 => ⟨hz0, hz1⟩⟩) ?_
      rintro ends ⟨el, er⟩
      have hrl : (rg (1 + m)).length = (1 + m).toNat := by unfold rg; simp
      have hall : ∀ z ∈ ends, 0 ≤ z ∧ z < (many : Int) := fun z hz => by
        obtain ⟨i, hi, rfl⟩ := List.mem_iff_getElem.mp hz
        exact er i (by omega) hi
      refine ⟨by show ends.length < 64; omega, by show s2.length < 100000; omega, ?_, fun w hw => ?_⟩
      · show (s2 ++ [_]).length = (pre2 ++ [_]).length
        rw [List.length_append, List.length_append, hl2]; rfl
      · rcases List.mem_append.mp hw with hw | hw
        · exact hr2 w hw
        · rw [List.mem_singleton.mp hw]
          refine ⟨fun z => ?_, fun z hz => hall z (mem_sortU.mp hz), pw_sortU _⟩
          have h0 : 0 < ends.length := by omega
          have : ends[0] ∈ sortU ends := mem_sortU.mpr (List.getElem_mem h0)
          rw [z] at this; cases this
    · show s2.length ≤ 2
      have := I2.1
      unfold rg at this
      simp only [List.length_map, List.length_range] at this
      omega
  · rintro c ⟨row, rfl, hrow⟩
    rw [seqG_nx]
    refine ⟨by show s.length < 100000; omega, ?_, fun w hw => ?_⟩
    · show (s ++ [_]).length = (pre ++ [_]).length
      rw [List.length_append, List.length_append, hl]; rfl
    · rcases List.mem_append.mp hw with hw | hw
      · exact hr w hw
      · rw [List.mem_singleton.mp hw]; exact hrow
theorem maths : m_law.wp fun b => b = true := by
  unfold m_law
  refine Pg.out_of ?_
  refine ⟨by omega, fun r hr0 hr1 => ?_⟩
  obtain ⟨m, rfl⟩ := Int.eq_ofNat_of_zero_le hr0
  change Pg.wp (_ >>= _) _
  simp only [Pg.pure_bnd]
  rw [show (2 : Int) + ((m : Nat) : Int) = ((2 + m : Nat) : Int) by omega]
  refine Pg.bnd_of (draw_of (by omega) (by omega) (k := Drawn (2 + m)) fun g hg => hg) ?_
  intro g D
  have hlen := D.len
  have h : OkG g := ⟨by omega, by omega, fun row hr e he => by rw [hlen]; exact (D.row row hr).2 e he⟩
  have hfl := flat_le g fun r hr => (D.row r hr).1
  have hl : g.length + g.flatten.length ≤ 30 := by omega
  refine Pg.ask_of (by omega) ?_
  refine Pg.bnd_of (comp_sub (rg ((2 + m : Nat) : Int)) fun x _ => ⟨by omega, fun z _ _ => trivial⟩) ?_
  intro goal hgoal
  have hg : OkGoal g goal := by
    rw [rg_nat] at hgoal
    refine ⟨?_, fun p hp => ?_⟩
    · refine List.Pairwise.sublist hgoal ?_
      rw [List.pairwise_map]
      refine List.pairwise_lt_range.imp fun h => ?_
      omega
    · obtain ⟨i, hi, rfl⟩ := List.mem_map.mp (hgoal.subset hp)
      have := List.mem_range.mp hi
      omega
  refine ⟨by omega, fun start hs0 hs1 => ?_⟩
  change Pg.wp (_ >>= _) _
  have hs : inR g start := ⟨hs0, by rw [hlen]; exact hs1⟩
  refine Pg.bnd_of (p := fun z => z = false) (Pg.or_of (b1 := false) (b2 := false) ?_ fun _ => ?_) ?_
  · refine Pg.bnd_of (split_right_of h hg hs hl) ?_
    rintro z rfl
    rfl
  · refine Pg.bnd_of (names_right_of h hg hs) ?_
    rintro z rfl
    rfl
  rintro z rfl
  rw [Pg.ifG_pure, if_neg Bool.false_ne_true]
  refine Pg.bnd_of (more_right_of h hg fun row hr => by have := (D.row row hr).1; omega) ?_
  rintro z rfl
  rfl
end K42

open PySem PySem.W PyProof.Rows
set_option maxHeartbeats 0 in
theorem PySem.Challenge.cw_noshorterplan_k42_whole_picks_made_in_tw_holds : PySem.Challenge.rw_noshorterplan_k42_whole_picks_made_in_tw.Holds := by
  w_on; o_law; k_head; (case hw => w_witness2)
  k_fill
  refine LamX.walk_ofTs (l := PySem.Challenge.rw_noshorterplan_k42_whole_picks_made_in_tw) (n := 63) (k := 6) (x := "script") (CX := fun _ => L2.CX0) rfl (by decide) rfl ⟨rfl, by decide, by decide⟩ (fun w h Y => PySem.W.km_in_of Y) ?F (fun _ _ _ _ _ h => h)
  case F =>
    intro w mg fa h Y KX G hmg
    refine' K42.all_mk KX G hmg K42.maths (PySem.W.km_tabs_of Y 71 (by k_mem)) (K42.mk_check_game KX G ?a0 ?l0 ?c0 ?k0) (K42.mk_strong_plan KX G ?a1 ?l1 ?c1 ?k1) (K42.mk_good_deed KX G ?a2 ?l2 ?c2 ?k2) (K42.mk_cyclic_plan KX G ?a3 ?l3 ?c3 ?k3) (K42.mk_takes_strong KX G ?a4 ?l4 ?c4 ?k4) (K42.mk_takes_cyclic KX G ?a5 ?l5 ?c5 ?k5) (K42.mk__law_draw KX G ?a6 ?l6 ?c6 ?k6) (K42.mk__law_split KX G ?a7 ?l7 ?c7 ?k7) (K42.mk__law_between KX G ?a8 ?l8 ?c8 ?k8) (K42.mk_weak_plan KX G ?a9 ?l9 ?c9 ?k9) (K42.mk__law_split_right KX G ?a10 ?l10 ?c10 ?k10) (K42.mk__law_more_right KX G ?a11 ?l11 ?c11 ?k11) (K42.mk__law_names_right KX G ?a12 ?l12 ?c12 ?k12) (K42.mk__law_take KX G ?a13 ?l13 ?c13 ?k13) (K42.mk__law_tape KX G ?a14 ?l14 ?c14 ?k14) (K42.md_mk KX G ?z0 ?z1 ?z2 ?z3 ?z4 ?z5 ?z6 ?z7 ?z8 ?z9 ?z10 ?z11 ?z12 ?zM) ?nP ?hC ?aL ?lL ?cL ?kL
    (case a0 => k_is)
    (case l0 => k_is)
    (case c0 => k_is)
    (case k0 => k_is)
    (case a1 => k_is)
    (case l1 => k_is)
    (case c1 => k_is)
    (case k1 => k_is)
    (case a2 => k_is)
    (case l2 => k_is)
    (case c2 => k_is)
    (case k2 => k_is)
    (case a3 => k_is)
    (case l3 => k_is)
    (case c3 => k_is)
    (case k3 => k_is)
    (case a4 => k_is)
    (case l4 => k_is)
    (case c4 => k_is)
    (case k4 => k_is)
    (case a5 => k_is)
    (case l5 => k_is)
    (case c5 => k_is)
    (case k5 => k_is)
    (case a6 => k_is)
    (case l6 => k_is)
    (case c6 => k_is)
    (case k6 => k_is)
    (case a7 => k_is)
    (case l7 => k_is)
    (case c7 => k_is)
    (case k7 => k_is)
    (case a8 => k_is)
    (case l8 => k_is)
    (case c8 => k_is)
    (case k8 => k_is)
    (case a9 => k_is)
    (case l9 => k_is)
    (case c9 => k_is)
    (case k9 => k_is)
    (case a10 => k_is)
    (case l10 => k_is)
    (case c10 => k_is)
    (case k10 => k_is)
    (case a11 => k_is)
    (case l11 => k_is)
    (case c11 => k_is)
    (case k11 => k_is)
    (case a12 => k_is)
    (case l12 => k_is)
    (case c12 => k_is)
    (case k12 => k_is)
    (case a13 => k_is)
    (case l13 => k_is)
    (case c13 => k_is)
    (case k13 => k_is)
    (case a14 => k_is)
    (case l14 => k_is)
    (case c14 => k_is)
    (case k14 => k_is)
    (case z0 => k_is)
    (case z1 => k_is)
    (case z2 => k_is)
    (case z3 => k_is)
    (case z4 => k_is)
    (case z5 => k_is)
    (case z6 => k_is)
    (case z7 => k_is)
    (case z8 => k_is)
    (case z9 => k_is)
    (case z10 => k_is)
    (case z11 => k_is)
    (case z12 => k_is)
    (case zM => k_is)
    (case nP => kernel_rfl)
    (case hC => exact PySem.W.codeHd_of_K KX (by kernel_rfl))
    (case aL => k_is)
    (case lL => k_is)
    (case cL => k_is)
    (case kL => k_is)
